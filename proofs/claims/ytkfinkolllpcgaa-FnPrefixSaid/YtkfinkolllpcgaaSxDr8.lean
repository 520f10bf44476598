/-
  Runs drawn.
-/
import Derived.Test.YtkfinkolllpcgaaSxDr7
namespace Go.Proofs.Ytkfinkolllpcgaa
set_option linter.unusedVariables false
set_option linter.unusedSimpArgs false
open Go.RowKit
set_option maxRecDepth 100000
set_option maxHeartbeats 8000000

theorem sDrawLC_T (co : Option Addr) (cn cc : Nat) (cu : Nat → Int) : (exFn Try.prog {tb := [(52, sNew), (55, sBelow), (65, sOnce), (66, sPick), (64, sAnyL), (60, sNoise)]} 400 Try.f44 ([.a (.c (.sl 0 co cn cc))]) ([.row ⟨false, co, 0, 1, cn, 0, [fun i => .u8 (cu i)]⟩]) (fun v ch => ∃ (zn : Nat) (f0 : Nat → Int) (f1 : Nat → Int) (f2 : Nat → Int) (f3 : Nat → Int) (zm : Nat) (q0 : Nat → Int) (ro0 : Option Addr) (rc0 : Nat) (ro1 : Option Addr) (rc1 : Nat), OutR v ch (.tuple #[.slice ro0 (zn) rc0, .slice ro1 (zm) rc1]) [.row ⟨true, ro0, 41, 4, zn, rc0, [fun i => .int (f0 i), fun i => .int (f1 i), fun i => .int (f2 i), fun i => .int (f3 i)]⟩, .row ⟨true, ro1, 3, 1, zm, rc1, [fun i => .int (q0 i)]⟩] ∧ (leN zn 41 ∧ leN zm 30))) = (
  (Exists (fun (u0 : (Nat →
  Int)) => (((co = co ∧
  (cn = cn ∧
  [(fun (i1 : Nat) => (SC.u8 (cu i1)))] = [(fun (i2 : Nat) => (SC.u8 (u0 i2)))])) ∧
  (codeC cn u0)) ∧
  (∀ b3 : Nat,
  (∀ z4 : Int,
  (Exists (fun (u5 : (Nat →
  Int)) => (((b3 = b3 ∧
  (94 = 94 ∧
  (co = co ∧
  (cn = cn ∧
  [(fun (i6 : Nat) => (SC.u8 (cu i6)))] = [(fun (i7 : Nat) => (SC.u8 (u5 i7)))])))) ∧
  ((codeC cn u5) ∧
  (pos0 (0 : Int)))) ∧
  (∀ zn8 : Nat,
  (∀ f09 : (Nat →
  Int),
  (∀ f110 : (Nat →
  Int),
  (∀ f211 : (Nat →
  Int),
  (∀ f312 : (Nat →
  Int),
  (∀ i113 : Int,
  (∀ z114 : Int,
  (∀ ro015 : (Option Addr),
  (∀ rc016 : Nat,
  ((leN zn8 41) →
  ((pos0 i113) →
   (Exists (fun (u17 : (Nat →
    Int)) => (((b3 = b3 ∧
    (94 = 94 ∧
    (co = co ∧
    (cn = cn ∧
    [(fun (i18 : Nat) => (SC.u8 (cu i18)))] = [(fun (i19 : Nat) => (SC.u8 (u17 i19)))])))) ∧
    ((codeC cn u17) ∧
    (pos0 i113))) ∧
    (∀ zn20 : Nat,
    (∀ zf21 : (Nat →
    Int),
    (∀ i122 : Int,
    (∀ z123 : Int,
    (∀ ro024 : (Option Addr),
    (∀ rc025 : Nat,
    (((nzC zn20 zf21) ∧
    (leN zn20 30)) →
    ((pos0 i122) →
     (((decide (((zn20 : Nat) : Int) > (0 : Int))) = Bool.true →
      (Exists (fun (u26 : (Nat →
       Int)) => (((b3 = b3 ∧
       (94 = 94 ∧
       (co = co ∧
       (cn = cn ∧
       [(fun (i27 : Nat) => (SC.u8 (cu i27)))] = [(fun (i28 : Nat) => (SC.u8 (u26 i28)))])))) ∧
       ((codeC cn u26) ∧
       ((pos0 i122) ∧
       (inR (12 : Int) (1 : Int) (4294967296 : Int))))) ∧
       (∀ z029 : Int,
       (∀ i130 : Int,
       (∀ z131 : Int,
       ((inR z029 (0 : Int) ((12 : Int) - (1 : Int))) →
       ((pos0 i130) →
        (((z029 == (0 : Int)) = Bool.true →
         (∀ b32 : Nat,
          (Exists (fun (u33 : (Nat →
          Int)) => (((b3 = b3 ∧
          (94 = 94 ∧
          (co = co ∧
          (cn = cn ∧
          [(fun (i34 : Nat) => (SC.u8 (cu i34)))] = [(fun (i35 : Nat) => (SC.u8 (u33 i35)))])))) ∧
          ((codeC cn u33) ∧
          ((pos0 i130) ∧
          (inR (3 : Int) (1 : Int) (4294967296 : Int))))) ∧
          (∀ z036 : Int,
          (∀ i137 : Int,
          (∀ z138 : Int,
          ((inR z036 (0 : Int) ((3 : Int) - (1 : Int))) →
          ((pos0 i137) →
           ((0 ≤ z036 ∧ z036 < ((3 : Nat) : Int)) ∧
            ((z036 = (2 : Int) →
            (b32 = b32 ∧
             (ro024 = ro024 ∧
             (zn20 = zn20 ∧
             ((0 ≤ (0 : Int) ∧ (0 : Int) < ((zn20 : Nat) : Int)) ∧
             (ro024 = ro024 ∧
             (0 < zn20 ∧
             (Exists (fun (zn39 : Nat) => (Exists (fun (f040 : (Nat →
             Int)) => (Exists (fun (f141 : (Nat →
             Int)) => (Exists (fun (f242 : (Nat →
             Int)) => (Exists (fun (f343 : (Nat →
             Int)) => (Exists (fun (zm44 : Nat) => (Exists (fun (q045 : (Nat →
             Int)) => (Exists (fun (ro046 : (Option Addr)) => (Exists (fun (rc047 : Nat) => (Exists (fun (ro148 : (Option Addr)) => (Exists (fun (rc149 : Nat) => (((Value.tuple (List.toArray [(Value.slice ro015 zn8 rc016), (Value.slice ro024 zn20 rc025)])) = (Value.tuple (List.toArray [(Value.slice ro046 zn39 rc047), (Value.slice ro148 zm44 rc149)])) ∧
             (((Bool.true = Bool.true ∧
             (ro015 = ro046 ∧
             (41 = 41 ∧
             (4 = 4 ∧
             (zn8 = zn39 ∧
             (rc016 = rc047 ∧
             ((∀ i50 : Nat,
             (i50 < zn8 →
             (Value.int IntKind.i64 (f09 i50)) = (Value.int IntKind.i64 (f040 i50)))) ∧
             ((∀ i51 : Nat,
             (i51 < zn8 →
             (Value.int IntKind.i64 (f110 i51)) = (Value.int IntKind.i64 (f141 i51)))) ∧
             ((∀ i52 : Nat,
             (i52 < zn8 →
             (Value.int IntKind.i64 (f211 i52)) = (Value.int IntKind.i64 (f242 i52)))) ∧
             ((∀ i53 : Nat,
             (i53 < zn8 →
             (Value.int IntKind.i64 (f312 i53)) = (Value.int IntKind.i64 (f343 i53)))) ∧
             True)))))))))) ∧
             ((Bool.true = Bool.true ∧
             (ro024 = ro148 ∧
             (3 = 3 ∧
             (1 = 1 ∧
             (zn20 = zm44 ∧
             (rc025 = rc149 ∧
             ((∀ i54 : Nat,
             (i54 < zn20 →
             (Value.int IntKind.i64 (if i54 = 0 then (2097152 : Int) else (zf21 i54))) = (Value.int IntKind.i64 (q045 i54)))) ∧
             True))))))) ∧
             True)) ∧
             Bool.true = Bool.true)) ∧
             ((leN zn39 41) ∧
             (leN zm44 30)))))))))))))))))))))))))))))))) ∧
            ((z036 = (1 : Int) →
            (b32 = b32 ∧
             (ro024 = ro024 ∧
             (zn20 = zn20 ∧
             ((0 ≤ (0 : Int) ∧ (0 : Int) < ((zn20 : Nat) : Int)) ∧
             (ro024 = ro024 ∧
             (0 < zn20 ∧
             (Exists (fun (zn55 : Nat) => (Exists (fun (f056 : (Nat →
             Int)) => (Exists (fun (f157 : (Nat →
             Int)) => (Exists (fun (f258 : (Nat →
             Int)) => (Exists (fun (f359 : (Nat →
             Int)) => (Exists (fun (zm60 : Nat) => (Exists (fun (q061 : (Nat →
             Int)) => (Exists (fun (ro062 : (Option Addr)) => (Exists (fun (rc063 : Nat) => (Exists (fun (ro164 : (Option Addr)) => (Exists (fun (rc165 : Nat) => (((Value.tuple (List.toArray [(Value.slice ro015 zn8 rc016), (Value.slice ro024 zn20 rc025)])) = (Value.tuple (List.toArray [(Value.slice ro062 zn55 rc063), (Value.slice ro164 zm60 rc165)])) ∧
             (((Bool.true = Bool.true ∧
             (ro015 = ro062 ∧
             (41 = 41 ∧
             (4 = 4 ∧
             (zn8 = zn55 ∧
             (rc016 = rc063 ∧
             ((∀ i66 : Nat,
             (i66 < zn8 →
             (Value.int IntKind.i64 (f09 i66)) = (Value.int IntKind.i64 (f056 i66)))) ∧
             ((∀ i67 : Nat,
             (i67 < zn8 →
             (Value.int IntKind.i64 (f110 i67)) = (Value.int IntKind.i64 (f157 i67)))) ∧
             ((∀ i68 : Nat,
             (i68 < zn8 →
             (Value.int IntKind.i64 (f211 i68)) = (Value.int IntKind.i64 (f258 i68)))) ∧
             ((∀ i69 : Nat,
             (i69 < zn8 →
             (Value.int IntKind.i64 (f312 i69)) = (Value.int IntKind.i64 (f359 i69)))) ∧
             True)))))))))) ∧
             ((Bool.true = Bool.true ∧
             (ro024 = ro164 ∧
             (3 = 3 ∧
             (1 = 1 ∧
             (zn20 = zm60 ∧
             (rc025 = rc165 ∧
             ((∀ i70 : Nat,
             (i70 < zn20 →
             (Value.int IntKind.i64 (if i70 = 0 then (2097151 : Int) else (zf21 i70))) = (Value.int IntKind.i64 (q061 i70)))) ∧
             True))))))) ∧
             True)) ∧
             Bool.true = Bool.true)) ∧
             ((leN zn55 41) ∧
             (leN zm60 30)))))))))))))))))))))))))))))))) ∧
            ((z036 = (0 : Int) →
            (b32 = b32 ∧
             (ro024 = ro024 ∧
             (zn20 = zn20 ∧
             ((0 ≤ (0 : Int) ∧ (0 : Int) < ((zn20 : Nat) : Int)) ∧
             (ro024 = ro024 ∧
             (0 < zn20 ∧
             (Exists (fun (zn71 : Nat) => (Exists (fun (f072 : (Nat →
             Int)) => (Exists (fun (f173 : (Nat →
             Int)) => (Exists (fun (f274 : (Nat →
             Int)) => (Exists (fun (f375 : (Nat →
             Int)) => (Exists (fun (zm76 : Nat) => (Exists (fun (q077 : (Nat →
             Int)) => (Exists (fun (ro078 : (Option Addr)) => (Exists (fun (rc079 : Nat) => (Exists (fun (ro180 : (Option Addr)) => (Exists (fun (rc181 : Nat) => (((Value.tuple (List.toArray [(Value.slice ro015 zn8 rc016), (Value.slice ro024 zn20 rc025)])) = (Value.tuple (List.toArray [(Value.slice ro078 zn71 rc079), (Value.slice ro180 zm76 rc181)])) ∧
             (((Bool.true = Bool.true ∧
             (ro015 = ro078 ∧
             (41 = 41 ∧
             (4 = 4 ∧
             (zn8 = zn71 ∧
             (rc016 = rc079 ∧
             ((∀ i82 : Nat,
             (i82 < zn8 →
             (Value.int IntKind.i64 (f09 i82)) = (Value.int IntKind.i64 (f072 i82)))) ∧
             ((∀ i83 : Nat,
             (i83 < zn8 →
             (Value.int IntKind.i64 (f110 i83)) = (Value.int IntKind.i64 (f173 i83)))) ∧
             ((∀ i84 : Nat,
             (i84 < zn8 →
             (Value.int IntKind.i64 (f211 i84)) = (Value.int IntKind.i64 (f274 i84)))) ∧
             ((∀ i85 : Nat,
             (i85 < zn8 →
             (Value.int IntKind.i64 (f312 i85)) = (Value.int IntKind.i64 (f375 i85)))) ∧
             True)))))))))) ∧
             ((Bool.true = Bool.true ∧
             (ro024 = ro180 ∧
             (3 = 3 ∧
             (1 = 1 ∧
             (zn20 = zm76 ∧
             (rc025 = rc181 ∧
             ((∀ i86 : Nat,
             (i86 < zn20 →
             (Value.int IntKind.i64 (if i86 = 0 then (-1 : Int) else (zf21 i86))) = (Value.int IntKind.i64 (q077 i86)))) ∧
             True))))))) ∧
             True)) ∧
             Bool.true = Bool.true)) ∧
             ((leN zn71 41) ∧
             (leN zm76 30)))))))))))))))))))))))))))))))) ∧
            True)))))))))))))) ∧
         ((z029 == (0 : Int)) = Bool.false →
         (Exists (fun (zn87 : Nat) => (Exists (fun (f088 : (Nat →
          Int)) => (Exists (fun (f189 : (Nat →
          Int)) => (Exists (fun (f290 : (Nat →
          Int)) => (Exists (fun (f391 : (Nat →
          Int)) => (Exists (fun (zm92 : Nat) => (Exists (fun (q093 : (Nat →
          Int)) => (Exists (fun (ro094 : (Option Addr)) => (Exists (fun (rc095 : Nat) => (Exists (fun (ro196 : (Option Addr)) => (Exists (fun (rc197 : Nat) => (((Value.tuple (List.toArray [(Value.slice ro015 zn8 rc016), (Value.slice ro024 zn20 rc025)])) = (Value.tuple (List.toArray [(Value.slice ro094 zn87 rc095), (Value.slice ro196 zm92 rc197)])) ∧
          (((Bool.true = Bool.true ∧
          (ro015 = ro094 ∧
          (41 = 41 ∧
          (4 = 4 ∧
          (zn8 = zn87 ∧
          (rc016 = rc095 ∧
          ((∀ i98 : Nat,
          (i98 < zn8 →
          (Value.int IntKind.i64 (f09 i98)) = (Value.int IntKind.i64 (f088 i98)))) ∧
          ((∀ i99 : Nat,
          (i99 < zn8 →
          (Value.int IntKind.i64 (f110 i99)) = (Value.int IntKind.i64 (f189 i99)))) ∧
          ((∀ i100 : Nat,
          (i100 < zn8 →
          (Value.int IntKind.i64 (f211 i100)) = (Value.int IntKind.i64 (f290 i100)))) ∧
          ((∀ i101 : Nat,
          (i101 < zn8 →
          (Value.int IntKind.i64 (f312 i101)) = (Value.int IntKind.i64 (f391 i101)))) ∧
          True)))))))))) ∧
          ((Bool.true = Bool.true ∧
          (ro024 = ro196 ∧
          (3 = 3 ∧
          (1 = 1 ∧
          (zn20 = zm92 ∧
          (rc025 = rc197 ∧
          ((∀ i102 : Nat,
          (i102 < zn20 →
          (Value.int IntKind.i64 (zf21 i102)) = (Value.int IntKind.i64 (q093 i102)))) ∧
          True))))))) ∧
          True)) ∧
          Bool.true = Bool.true)) ∧
          ((leN zn87 41) ∧
          (leN zm92 30)))))))))))))))))))))))))))))))))))) ∧
      ((decide (((zn20 : Nat) : Int) > (0 : Int))) = Bool.false →
      (Exists (fun (zn103 : Nat) => (Exists (fun (f0104 : (Nat →
       Int)) => (Exists (fun (f1105 : (Nat →
       Int)) => (Exists (fun (f2106 : (Nat →
       Int)) => (Exists (fun (f3107 : (Nat →
       Int)) => (Exists (fun (zm108 : Nat) => (Exists (fun (q0109 : (Nat →
       Int)) => (Exists (fun (ro0110 : (Option Addr)) => (Exists (fun (rc0111 : Nat) => (Exists (fun (ro1112 : (Option Addr)) => (Exists (fun (rc1113 : Nat) => (((Value.tuple (List.toArray [(Value.slice ro015 zn8 rc016), (Value.slice ro024 zn20 rc025)])) = (Value.tuple (List.toArray [(Value.slice ro0110 zn103 rc0111), (Value.slice ro1112 zm108 rc1113)])) ∧
       (((Bool.true = Bool.true ∧
       (ro015 = ro0110 ∧
       (41 = 41 ∧
       (4 = 4 ∧
       (zn8 = zn103 ∧
       (rc016 = rc0111 ∧
       ((∀ i114 : Nat,
       (i114 < zn8 →
       (Value.int IntKind.i64 (f09 i114)) = (Value.int IntKind.i64 (f0104 i114)))) ∧
       ((∀ i115 : Nat,
       (i115 < zn8 →
       (Value.int IntKind.i64 (f110 i115)) = (Value.int IntKind.i64 (f1105 i115)))) ∧
       ((∀ i116 : Nat,
       (i116 < zn8 →
       (Value.int IntKind.i64 (f211 i116)) = (Value.int IntKind.i64 (f2106 i116)))) ∧
       ((∀ i117 : Nat,
       (i117 < zn8 →
       (Value.int IntKind.i64 (f312 i117)) = (Value.int IntKind.i64 (f3107 i117)))) ∧
       True)))))))))) ∧
       ((Bool.true = Bool.true ∧
       (ro024 = ro1112 ∧
       (3 = 3 ∧
       (1 = 1 ∧
       (zn20 = zm108 ∧
       (rc025 = rc1113 ∧
       ((∀ i118 : Nat,
       (i118 < zn20 →
       (Value.int IntKind.i64 (zf21 i118)) = (Value.int IntKind.i64 (q0109 i118)))) ∧
       True))))))) ∧
       True)) ∧
       Bool.true = Bool.true)) ∧
       ((leN zn103 41) ∧
       (leN zm108 30)))))))))))))))))))))))))))))))))))))))))))))))))))))))))) := by kernel_rfl
theorem sDrawLC_any (co : Option Addr) (cn cc : Nat) (cu : Nat → Int) (w : World) (hr : Row.sat w ⟨false, co, 0, 1, cn, 0, [fun i => .u8 (cu i)]⟩) (hcode : codeC cn cu) : Calls Try.prog 44 #[.slice co cn cc] w fun e w' => ∃ (zn : Nat) (f0 : Nat → Int) (f1 : Nat → Int) (f2 : Nat → Int) (f3 : Nat → Int) (zm : Nat) (q0 : Nat → Int) (ro0 : Option Addr) (rc0 : Nat) (ro1 : Option Addr) (rc1 : Nat), ((leN zn 41 ∧ leN zm 30)) ∧ e = .returned (.tuple #[.slice ro0 (zn) rc0, .slice ro1 (zm) rc1]) ∧ HS ⟨w, fun _ => False⟩ [.row ⟨true, ro0, 41, 4, zn, rc0, [fun i => .int (f0 i), fun i => .int (f1 i), fun i => .int (f2 i), fun i => .int (f3 i)]⟩, .row ⟨true, ro1, 3, 1, zm, rc1, [fun i => .int (q0 i)]⟩] w' := by
  refine fn_ok mixed (E := {tb := [(52, sNew), (55, sBelow), (65, sOnce), (66, sPick), (64, sAnyL), (60, sNoise)]}) ⟨sNew_ok, sBelow_ok, sOnce_ok, sPick_ok, sAnyL_ok, sNoise_ok, trivial⟩ Try.func44 (fun _ _ => loopsOK_nil _ _ _) (@Eq.mpr _ _ (sDrawLC_T co cn cc cu) ?_) (HS.rows (fun _ => False) [⟨false, co, 0, 1, cn, 0, [fun i => .u8 (cu i)]⟩] (by simpa using hr)) (fun v ch' w' ⟨zn, f0, f1, f2, f3, zm, q0, ro0, rc0, ro1, rc1, hk, hf⟩ hs => ⟨zn, f0, f1, f2, f3, zm, q0, ro0, rc0, ro1, rc1, hf, by rw [hk.1], hk.hs hs⟩)
  clear hr
  have hcn : cn ≤ 1048576 := hcode.1
  repeat' (first
    | with_reducible exact rfl
    | exact True.intro
    | with_reducible assumption
    | refine And.intro ?_ ?_
    | apply Exists.intro
    | (intro i hi; with_reducible exact rfl)
    | (intro h; replace h := of_decide_eq_true h; first | (exfalso; omega) | skip)
    | (intro h; replace h := of_decide_eq_false h; first | (exfalso; omega) | skip)
    | (intro (h : _ ∧ _); obtain ⟨_, _⟩ := h)
    | intro _
    | omega)
def sDrawL : Sm := fun args ch k =>
  match args with
  | [.a (.c (.sl j ao n cap))] =>
    match ch[j]? with
    | some (.row r) => ∃ u : Nat → Int, ((ao = r.ao ∧ n = r.n ∧ r.fld = [fun i => .u8 (u i)]) ∧ codeC n u) ∧ ∀ (zn : Nat), ∀ (f0 : Nat → Int), ∀ (f1 : Nat → Int), ∀ (f2 : Nat → Int), ∀ (f3 : Nat → Int), ∀ (zm : Nat), ∀ (q0 : Nat → Int), ∀ (ro0 : Option Addr) (rc0 : Nat), ∀ (ro1 : Option Addr) (rc1 : Nat), (leN zn 41 ∧ leN zm 30) → k (.tup [.c (.sl (ch.length) ro0 (zn) rc0), .c (.sl (ch.length + 1) ro1 (zm) rc1)]) (ch ++ [.row ⟨true, ro0, 41, 4, zn, rc0, [fun i => .int (f0 i), fun i => .int (f1 i), fun i => .int (f2 i), fun i => .int (f3 i)]⟩, .row ⟨true, ro1, 3, 1, zm, rc1, [fun i => .int (q0 i)]⟩]) []
    | _ => False
  | _ => False
theorem sDrawL_ok : SmOK Try.prog 44 sDrawL := by
  refine smN Try.call44 fun args ch k w X h0 hs => ?_
  unfold sDrawL at h0
  split at h0
  · rename_i j ao n cap
    split at h0
    · rename_i r hj
      obtain ⟨u, ⟨⟨rfl, rfl, hf⟩, hcode⟩, h0⟩ := h0
      simp only [List.map_cons, List.map_nil, den_a, den_c, SA.den, den_sl]
      exact Calls.mono (sDrawLC_any r.ao r.n cap u  w (seenAs' (hs.sat j _ hj) hf rfl) hcode) fun e w' ⟨zn, f0, f1, f2, f3, zm, q0, ro0, rc0, ro1, rc1, hfa, he, hs'⟩ => ⟨.tup [.c (.sl (ch.length) ro0 (zn) rc0), .c (.sl (ch.length + 1) ro1 (zm) rc1)], [.row ⟨true, ro0, 41, 4, zn, rc0, [fun i => .int (f0 i), fun i => .int (f1 i), fun i => .int (f2 i), fun i => .int (f3 i)]⟩, .row ⟨true, ro1, 3, 1, zm, rc1, [fun i => .int (q0 i)]⟩], he, hs', rfl, h0 zn f0 f1 f2 f3 zm q0 ro0 rc0 ro1 rc1 hfa⟩
    · exact h0.elim
  · exact h0.elim
end Go.Proofs.Ytkfinkolllpcgaa

/-
  Noise drawn.
-/
import Derived.Test.YtkfinkolllpcgaaSxDr3
namespace Go.Proofs.Ytkfinkolllpcgaa
set_option linter.unusedVariables false
set_option linter.unusedSimpArgs false
open Go.RowKit
set_option maxRecDepth 100000
set_option maxHeartbeats 8000000

def nzC (n : Nat) (g : Nat → Int) : Prop := ∀ i, i < n → g i = 0 ∨ ∃ e : Nat, e < 15 ∧ g i = ((2 ^ e : Nat) : Int)
abbrev leN (n m : Nat) : Prop := n ≤ m
theorem nzC_step {n : Nat} {g : Nat → Int} {x : Int} (h : nzC n g) (hx : x = 0 ∨ ∃ e : Nat, e < 15 ∧ x = ((2 ^ e : Nat) : Int)) : nzC (n + 1) (fun i => if i < n then g i else x) := by
  intro i hi
  dsimp only
  split
  · rename_i h1; exact h i h1
  · exact hx
theorem wrapU15 {z : Int} (h : inR z 0 (15 - 1)) : wrapU z = z := by
  have h1 := h.1; have h2 := h.2
  simp [wrapU, IntKind.wrap, IntKind.bits, IntKind.signed]; omega
theorem shc15 {z : Int} (h : inR z 0 (15 - 1)) : shC (wrapU z) := by
  rw [wrapU15 h]
  have h1 := h.1; have h2 := h.2
  exact ⟨by omega, by omega⟩
theorem shl15 {z : Int} (h : inR z 0 (15 - 1)) : ∃ e : Nat, e < 15 ∧ shlI 1 (wrapU z) = ((2 ^ e : Nat) : Int) := by
  rw [wrapU15 h]
  have h1 := h.1; have h2 := h.2
  exact ⟨z.toNat, by omega, by simp [shlI]⟩
theorem rng15 {z : Int} (h : inR z 0 (15 - 1)) : rng (shlI 1 (wrapU z)) := by
  obtain ⟨e, he, h3⟩ := shl15 h
  have : 2 ^ e ≤ 2 ^ 14 := Nat.pow_le_pow_right (by decide) (by omega)
  rw [h3]
  generalize 2 ^ e = y at this ⊢
  exact ⟨by omega, by omega⟩
def nsH (cb : Nat) (co : Option Addr) (cn cc : Nat) (cu : Nat → Int) (ao : Option Addr) (j cap : Nat) (i : SC) (g : Nat → Value) : List SV := [.a (.c (.ptr 0 cb 0)), .a (.c (.val (g 1))), .a (.c (.val (g 2))), .a (.c (.sl 2 ao j cap)), .a (.c i), .a (.c (.val (g 5))), .a (.c (.val (g 6))), .a (.c (.val (g 7))), .a (.c (.val (g 8))), .a (.c (.val (g 9))), .a (.c (.val (g 10))), .a (.c (.val (g 11))), .a (.c (.val (g 12))), .a (.c (.val (g 13))), .a (.c (.val (g 14))), .a (.c (.val (g 15))), .a (.c (.val (g 16))), .a (.c (.val (g 17))), .a (.c (.val (g 18))), .a (.c (.val (g 19))), .a (.c (.val (g 20))), .a (.c (.val (g 21))), .a (.c (.val (g 22))), .a (.c (.val (g 23)))]
def nsT (cb : Nat) (co : Option Addr) (cn cc : Nat) (cu : Nat → Int) (ao : Option Addr) (j cap : Nat) (ci cz : Int) (gf : Nat → Int) : List Ch := [.cells cb 94 [.sl 1 co cn cc, .int ci, .int cz], .row ⟨false, co, 0, 1, cn, 0, [fun i => .u8 (cu i)]⟩, .row ⟨true, ao, 3, 1, j, cap, [fun i => .int (gf i)]⟩]
def sns (cb : Nat) (co : Option Addr) (cn cc : Nat) (cu : Nat → Int) : LSm := fun ts ch kk => ∃ (b : Nat) (ci cz : Int), (ts.map SV.den = (nsH cb co cn cc cu (some ⟨b, 0, none⟩) 0 0 (.il 0) (fun d => (ts.getD d .undef).den)).map SV.den ∧ ch = [.cells cb 94 [.sl 1 co cn cc, .int ci, .int cz], .row ⟨false, co, 0, 1, cn, 0, [fun i => .u8 (cu i)]⟩, .cells b 3 []] ∧ pos0 ci) ∧
    ∀ (g : Nat → Value) (ao : Option Addr) (j cap : Nat) (ci cz : Int) (gf : Nat → Int), (nzC j gf ∧ pos0 ci ∧ leN j 30) → kk (.exit 0) (nsH cb co cn cc cu ao j cap (.int (j : Int)) g) (nsT cb co cn cc cu ao j cap ci cz gf)
theorem nsB (cb : Nat) (co : Option Addr) (cn cc : Nat) (cu : Nat → Int) (ao : Option Addr) (j cap : Nat) (ci cz : Int) (gf : Nat → Int) (g : Nat → Value) (NX : List SV → List Ch → Prop) (kx : Exit → List SV → List Ch → Prop) : (exCode Try.prog {tb := [(55, sBelow), (65, sOnce)]} 400 (theLoop Try.f60 0) (nsH cb co cn cc cu ao j cap (.int (j : Int)) g) (nsT cb co cn cc cu ao j cap ci cz gf) (loopK NX kx)) = (
  (Exists (fun (u0 : (Nat →
  Int)) => (((cb = cb ∧
  (94 = 94 ∧
  (co = co ∧
  (cn = cn ∧
  [(fun (i1 : Nat) => (SC.u8 (cu i1)))] = [(fun (i2 : Nat) => (SC.u8 (u0 i2)))])))) ∧
  ((codeC cn u0) ∧
  ((pos0 ci) ∧
  (inR (30 : Int) (1 : Int) (4294967296 : Int))))) ∧
  (∀ z03 : Int,
  (∀ i14 : Int,
  (∀ z15 : Int,
  ((inR z03 (0 : Int) ((30 : Int) - (1 : Int))) →
  ((pos0 i14) →
   (((decide (((j : Nat) : Int) < z03)) = Bool.true →
    (Exists (fun (u6 : (Nat →
     Int)) => (((cb = cb ∧
     (94 = 94 ∧
     (co = co ∧
     (cn = cn ∧
     [(fun (i7 : Nat) => (SC.u8 (cu i7)))] = [(fun (i8 : Nat) => (SC.u8 (u6 i8)))])))) ∧
     ((codeC cn u6) ∧
     ((pos0 i14) ∧
     (inR (3 : Int) (1 : Int) (4294967296 : Int))))) ∧
     (∀ z09 : Int,
     (∀ i110 : Int,
     (∀ z111 : Int,
     ((inR z09 (0 : Int) ((3 : Int) - (1 : Int))) →
     ((pos0 i110) →
      (((z09 == (0 : Int)) = Bool.true →
       (Exists (fun (u12 : (Nat →
        Int)) => (((cb = cb ∧
        (94 = 94 ∧
        (co = co ∧
        (cn = cn ∧
        [(fun (i13 : Nat) => (SC.u8 (cu i13)))] = [(fun (i14 : Nat) => (SC.u8 (u12 i14)))])))) ∧
        ((codeC cn u12) ∧
        ((pos0 i110) ∧
        (inR (15 : Int) (1 : Int) (4294967296 : Int))))) ∧
        (∀ z015 : Int,
        (∀ i116 : Int,
        (∀ z117 : Int,
        ((inR z015 (0 : Int) ((15 : Int) - (1 : Int))) →
        ((pos0 i116) →
         ((shC (wrapU z015)) ∧
          ((rng (shlI (1 : Int) (wrapU z015))) ∧
          (∀ b18 : Nat,
          ((ao = ao ∧
          (j = j ∧
          (cap = cap ∧
          (b18 = b18 ∧
          ((∀ i19 : Nat,
          Bool.true = Bool.true) ∧
          (apC j 1 8)))))) ∧
          (∀ ao'20 : (Option Addr),
          (∀ cap'21 : Nat,
          ((rng (((j : Nat) : Int) + (1 : Int))) ∧
          (NX [(SV.a (SA.c (SC.ptr 0 cb 0))), (SV.a (SA.c (SC.val (g 1)))), (SV.a (SA.c (SC.val (g 2)))), (SV.a (SA.c (SC.sl 4 ao'20 (j + 1) cap'21))), (SV.a (SA.c (SC.int (((j : Nat) : Int) + (1 : Int))))), (SV.a (SA.c (SC.int (shlI (1 : Int) (wrapU z015))))), (SV.a (SA.c (SC.val (g 6)))), (SV.a (SA.c (SC.int ((j : Nat) : Int)))), (SV.a (SA.c (SC.ptr 0 cb 0))), (SV.a (SA.c (SC.int z03))), (SV.a (SA.c (SC.lit Bool.true))), (SV.a (SA.c (SC.int ((j : Nat) : Int)))), (SV.a (SA.c (SC.int (((j : Nat) : Int) + (1 : Int))))), (SV.a (SA.c (SC.ptr 0 cb 0))), (SV.a (SA.c (SC.lit Bool.true))), (SV.a (SA.c (SC.ptr 0 cb 0))), (SV.a (SA.c (SC.int z015))), (SV.a (SA.c (SC.u64 (wrapU z015)))), (SV.a (SA.c (SC.int (shlI (1 : Int) (wrapU z015))))), (SV.a (SA.c (SC.sl 2 ao j cap))), (SV.a (SA.c (SC.int (shlI (1 : Int) (wrapU z015))))), (SV.a (SA.c (SC.slc 3 b18 1 1))), (SV.a (SA.c (SC.sl 4 ao'20 (j + 1) cap'21))), (SV.a (SA.c (SC.val (g 23))))] [(Ch.cells cb 94 [(SC.sl 1 co cn cc), (SC.int i116), (SC.int z117)]), (Ch.row (Row.mk Bool.false co 0 1 cn 0 [(fun (i22 : Nat) => (SC.u8 (cu i22)))])), Ch.dead, (Ch.cells b18 3 [(SC.int (shlI (1 : Int) (wrapU z015)))]), (Ch.row (Row.mk Bool.true ao'20 3 1 (j + 1) cap'21 [(fun (i23 : Nat) => (SC.int (if i23 < j then (gf i23) else (shlI (1 : Int) (wrapU z015)))))]))]))))))))))))))))) ∧
       ((z09 == (0 : Int)) = Bool.false →
       (∀ b24 : Nat,
        ((ao = ao ∧
        (j = j ∧
        (cap = cap ∧
        (b24 = b24 ∧
        ((∀ i25 : Nat,
        Bool.true = Bool.true) ∧
        (apC j 1 8)))))) ∧
        (∀ ao'26 : (Option Addr),
        (∀ cap'27 : Nat,
        ((rng (((j : Nat) : Int) + (1 : Int))) ∧
        (NX [(SV.a (SA.c (SC.ptr 0 cb 0))), (SV.a (SA.c (SC.val (g 1)))), (SV.a (SA.c (SC.val (g 2)))), (SV.a (SA.c (SC.sl 4 ao'26 (j + 1) cap'27))), (SV.a (SA.c (SC.int (((j : Nat) : Int) + (1 : Int))))), (SV.a (SA.c (SC.il (0 : Int)))), (SV.a (SA.c (SC.val (g 6)))), (SV.a (SA.c (SC.int ((j : Nat) : Int)))), (SV.a (SA.c (SC.ptr 0 cb 0))), (SV.a (SA.c (SC.int z03))), (SV.a (SA.c (SC.lit Bool.true))), (SV.a (SA.c (SC.int ((j : Nat) : Int)))), (SV.a (SA.c (SC.int (((j : Nat) : Int) + (1 : Int))))), (SV.a (SA.c (SC.ptr 0 cb 0))), (SV.a (SA.c (SC.lit Bool.false))), (SV.a (SA.c (SC.val (g 15)))), (SV.a (SA.c (SC.val (g 16)))), (SV.a (SA.c (SC.val (g 17)))), (SV.a (SA.c (SC.val (g 18)))), (SV.a (SA.c (SC.sl 2 ao j cap))), (SV.a (SA.c (SC.il (0 : Int)))), (SV.a (SA.c (SC.slc 3 b24 1 1))), (SV.a (SA.c (SC.sl 4 ao'26 (j + 1) cap'27))), (SV.a (SA.c (SC.val (g 23))))] [(Ch.cells cb 94 [(SC.sl 1 co cn cc), (SC.int i110), (SC.int z111)]), (Ch.row (Row.mk Bool.false co 0 1 cn 0 [(fun (i28 : Nat) => (SC.u8 (cu i28)))])), Ch.dead, (Ch.cells b24 3 [(SC.il (0 : Int))]), (Ch.row (Row.mk Bool.true ao'26 3 1 (j + 1) cap'27 [(fun (i29 : Nat) => (SC.int (if i29 < j then (gf i29) else (0 : Int))))]))]))))))))))))))))) ∧
    ((decide (((j : Nat) : Int) < z03)) = Bool.false →
    (kx (Exit.exit 0) [(SV.a (SA.c (SC.ptr 0 cb 0))), (SV.a (SA.c (SC.val (g 1)))), (SV.a (SA.c (SC.val (g 2)))), (SV.a (SA.c (SC.sl 2 ao j cap))), (SV.a (SA.c (SC.int ((j : Nat) : Int)))), (SV.a (SA.c (SC.val (g 5)))), (SV.a (SA.c (SC.val (g 6)))), (SV.a (SA.c (SC.int ((j : Nat) : Int)))), (SV.a (SA.c (SC.ptr 0 cb 0))), (SV.a (SA.c (SC.int z03))), (SV.a (SA.c (SC.lit Bool.false))), (SV.a (SA.c (SC.val (g 11)))), (SV.a (SA.c (SC.val (g 12)))), (SV.a (SA.c (SC.val (g 13)))), (SV.a (SA.c (SC.val (g 14)))), (SV.a (SA.c (SC.val (g 15)))), (SV.a (SA.c (SC.val (g 16)))), (SV.a (SA.c (SC.val (g 17)))), (SV.a (SA.c (SC.val (g 18)))), (SV.a (SA.c (SC.val (g 19)))), (SV.a (SA.c (SC.val (g 20)))), (SV.a (SA.c (SC.val (g 21)))), (SV.a (SA.c (SC.val (g 22)))), (SV.a (SA.c (SC.val (g 23))))] [(Ch.cells cb 94 [(SC.sl 1 co cn cc), (SC.int i14), (SC.int z15)]), (Ch.row (Row.mk Bool.false co 0 1 cn 0 [(fun (i30 : Nat) => (SC.u8 (cu i30)))])), (Ch.row (Row.mk Bool.true ao 3 1 j cap [(fun (i31 : Nat) => (SC.int (gf i31)))]))])))))))))))) := by kernel_rfl
theorem ns_ok (cb : Nat) (co : Option Addr) (cn cc : Nat) (cu : Nat → Int) (hcode : codeC cn cu) (X : Cx) : LoopOK Try.prog X (theLoop Try.f60 0) (sns cb co cn cc cu) := by
  intro ts ch kk a w hS hT hd hs
  obtain ⟨b, ci0, cz0, ⟨h1, rfl, hp0⟩, hk⟩ := hS
  refine loop_ok mixed (E := {tb := [(55, sBelow), (65, sOnce)]}) ⟨sBelow_ok, sOnce_ok, trivial⟩ (loopsOK_nil _ _ _) 400 30 (fun j ts ch => ∃ g ao cap ci cz gf, nzC j gf ∧ pos0 ci ∧ ts = nsH cb co cn cc cu ao j cap (.int (j : Int)) g ∧ ch = nsT cb co cn cc cu ao j cap ci cz gf) ?_ ?_ hT hd hs
  · rintro j _ _ ⟨g, ao, cap, ci, cz, gf, hnz, hci, rfl, rfl⟩ hj
    refine (@Eq.mpr _ _ (nsB cb co cn cc cu ao j cap ci cz gf g _ _) ?_)
    repeat' (first
      | with_reducible exact rfl
      | exact True.intro
      | with_reducible assumption
      | exact shc15 (by with_reducible assumption)
      | exact rng15 (by with_reducible assumption)
      | (refine ⟨by omega, ?_⟩; show Next _ _ _ _; refine Next.mk (fun g => nsH cb co cn cc cu _ (j + 1) _ (.int ((j + 1 : Nat) : Int)) g) _ ⟨_, _, _, _, _, _, nzC_step hnz (.inl rfl), (by with_reducible assumption), rfl, rfl⟩ rfl fun w hw => hw.sel [0, 1, 4] (by simp))
      | (refine ⟨by omega, ?_⟩; show Next _ _ _ _; refine Next.mk (fun g => nsH cb co cn cc cu _ (j + 1) _ (.int ((j + 1 : Nat) : Int)) g) _ ⟨_, _, _, _, _, _, nzC_step hnz (.inr (shl15 (by with_reducible assumption))), (by with_reducible assumption), rfl, rfl⟩ rfl fun w hw => hw.sel [0, 1, 4] (by simp))
      | (refine Next.mk (fun g => nsH cb co cn cc cu ao j cap (.int (j : Int)) g) _ (hk _ _ _ _ _ _ _ ⟨hnz, (by with_reducible assumption), hj⟩) rfl fun w hw => hw)
      | refine And.intro ?_ ?_
      | apply Exists.intro
      | (intro h; replace h := of_decide_eq_true h; first | (exfalso; omega) | skip)
      | (intro h; replace h := of_decide_eq_false h; first | (exfalso; omega) | skip)
      | intro _
      | omega
      | (simp; omega))
  · refine Next.mk (fun g => nsH cb co cn cc cu (some ⟨b, 0, none⟩) 0 0 (.int ((0 : Nat) : Int)) g) _ ⟨_, _, _, ci0, cz0, fun _ => 0, fun i hi => absurd hi (Nat.not_lt_zero i), hp0, rfl, rfl⟩ h1 fun w hw => ?_
    exact hw.reTail ⟨⟨rfl, rfl, rfl, rfl, rfl, rfl, ⟨fun _ _ => rfl, trivial⟩⟩, ⟨rfl, rfl, rfl, rfl, ⟨rfl, rfl, rfl⟩⟩, trivial⟩
theorem sNoiseC_T (cb : Nat) (co : Option Addr) (cn cc : Nat) (ci cz : Int) (cu : Nat → Int) : (exFn Try.prog {tb := [(55, sBelow), (65, sOnce)], L := [(3, sns cb co cn cc cu)]} 400 Try.f60 ([.a (.c (.ptr 0 cb 0))]) ([.cells cb 94 [.sl 1 co cn cc, .int ci, .int cz], .row ⟨false, co, 0, 1, cn, 0, [fun i => .u8 (cu i)]⟩]) (fun v ch => ∃ (zn : Nat) (zf : Nat → Int) (i1 z1 : Int) (ro0 : Option Addr) (rc0 : Nat), OutC v ch (.slice ro0 (zn) rc0) (.cells cb 94 [.sl 1 co cn cc, .int i1, .int z1]) [.row ⟨true, ro0, 3, 1, zn, rc0, [fun i => .int (zf i)]⟩] ∧ (nzC zn zf ∧ leN zn 30) ∧ pos0 i1)) = (
  (∀ b0 : Nat,
  (Exists (fun (b1 : Nat) => (Exists (fun (ci2 : Int) => (Exists (fun (cz3 : Int) => (([(Value.pointer (Option.some (Addr.mk cb 0 Option.none))), (Value.tuple (List.toArray [])), (Value.slice Option.none 0 0), (Value.slice (Option.some (Addr.mk b0 0 Option.none)) 0 0), (Value.int IntKind.i64 (0 : Int)), (Value.tuple (List.toArray [])), (Value.slice (Option.some (Addr.mk b0 0 Option.none)) 0 0), (Value.tuple (List.toArray [])), (Value.tuple (List.toArray [])), (Value.tuple (List.toArray [])), (Value.tuple (List.toArray [])), (Value.tuple (List.toArray [])), (Value.tuple (List.toArray [])), (Value.tuple (List.toArray [])), (Value.tuple (List.toArray [])), (Value.tuple (List.toArray [])), (Value.tuple (List.toArray [])), (Value.tuple (List.toArray [])), (Value.tuple (List.toArray [])), (Value.tuple (List.toArray [])), (Value.tuple (List.toArray [])), (Value.tuple (List.toArray [])), (Value.tuple (List.toArray [])), (Value.tuple (List.toArray []))] = [(Value.pointer (Option.some (Addr.mk cb 0 Option.none))), (Value.tuple (List.toArray [])), (Value.slice Option.none 0 0), (Value.slice (Option.some (Addr.mk b1 0 Option.none)) 0 0), (Value.int IntKind.i64 (0 : Int)), (Value.tuple (List.toArray [])), (Value.slice (Option.some (Addr.mk b0 0 Option.none)) 0 0), (Value.tuple (List.toArray [])), (Value.tuple (List.toArray [])), (Value.tuple (List.toArray [])), (Value.tuple (List.toArray [])), (Value.tuple (List.toArray [])), (Value.tuple (List.toArray [])), (Value.tuple (List.toArray [])), (Value.tuple (List.toArray [])), (Value.tuple (List.toArray [])), (Value.tuple (List.toArray [])), (Value.tuple (List.toArray [])), (Value.tuple (List.toArray [])), (Value.tuple (List.toArray [])), (Value.tuple (List.toArray [])), (Value.tuple (List.toArray [])), (Value.tuple (List.toArray [])), (Value.tuple (List.toArray []))] ∧
  ([(Ch.cells cb 94 [(SC.sl 1 co cn cc), (SC.int ci), (SC.int cz)]), (Ch.row (Row.mk Bool.false co 0 1 cn 0 [(fun (i4 : Nat) => (SC.u8 (cu i4)))])), (Ch.cells b0 3 [])] = [(Ch.cells cb 94 [(SC.sl 1 co cn cc), (SC.int ci2), (SC.int cz3)]), (Ch.row (Row.mk Bool.false co 0 1 cn 0 [(fun (i5 : Nat) => (SC.u8 (cu i5)))])), (Ch.cells b1 3 [])] ∧
  (pos0 ci2))) ∧
  (∀ g6 : (Nat →
  Value),
  (∀ ao7 : (Option Addr),
  (∀ j8 : Nat,
  (∀ cap9 : Nat,
  (∀ ci10 : Int,
  (∀ cz11 : Int,
  (∀ gf12 : (Nat →
  Int),
  (((nzC j8 gf12) ∧
  ((pos0 ci10) ∧
  (leN j8 30))) →
  (Exists (fun (zn13 : Nat) => (Exists (fun (zf14 : (Nat →
   Int)) => (Exists (fun (i115 : Int) => (Exists (fun (z116 : Int) => (Exists (fun (ro017 : (Option Addr)) => (Exists (fun (rc018 : Nat) => (((Value.slice ao7 j8 cap9) = (Value.slice ro017 zn13 rc018) ∧
   ((cb = cb ∧
   (94 = 94 ∧
   [(Value.slice co cn cc), (Value.int IntKind.i64 ci10), (Value.int IntKind.i64 cz11)] = [(Value.slice co cn cc), (Value.int IntKind.i64 i115), (Value.int IntKind.i64 z116)])) ∧
   (((Bool.true = Bool.true ∧
   (ao7 = ro017 ∧
   (3 = 3 ∧
   (1 = 1 ∧
   (j8 = zn13 ∧
   (cap9 = rc018 ∧
   ((∀ i19 : Nat,
   (i19 < j8 →
   (Value.int IntKind.i64 (gf12 i19)) = (Value.int IntKind.i64 (zf14 i19)))) ∧
   True))))))) ∧
   True) ∧
   Bool.true = Bool.true))) ∧
   (((nzC zn13 zf14) ∧
   (leN zn13 30)) ∧
   (pos0 i115)))))))))))))))))))))))))))))))) := by kernel_rfl
theorem sNoiseC_any (cb : Nat) (co : Option Addr) (cn cc : Nat) (ci cz : Int) (cu : Nat → Int) (w : World) (hs : HS ⟨w, (Ch.cells cb 94 [.sl 1 co cn cc, .int ci, .int cz]).at⟩ [.cells cb 94 [.sl 1 co cn cc, .int ci, .int cz], .row ⟨false, co, 0, 1, cn, 0, [fun i => .u8 (cu i)]⟩] w) (hcode : codeC cn cu) (hci : pos0 ci) : Calls Try.prog 60 #[.pointer (some ⟨cb, 0, none⟩)] w fun e w' => ∃ (zn : Nat) (zf : Nat → Int) (i1 z1 : Int) (ro0 : Option Addr) (rc0 : Nat), ((nzC zn zf ∧ leN zn 30) ∧ pos0 i1) ∧ e = .returned (.slice ro0 (zn) rc0) ∧ HS ⟨w, (Ch.cells cb 94 [.sl 1 co cn cc, .int ci, .int cz]).at⟩ [.cells cb 94 [.sl 1 co cn cc, .int i1, .int z1], .row ⟨true, ro0, 3, 1, zn, rc0, [fun i => .int (zf i)]⟩] w' := by
  refine fn_ok mixed (E := {tb := [(55, sBelow), (65, sOnce)], L := [(3, sns cb co cn cc cu)]}) ⟨sBelow_ok, sOnce_ok, trivial⟩ Try.func60 (one_loop (by kernel_rfl) (by kernel_rfl) (ns_ok cb co cn cc cu hcode _)) (@Eq.mpr _ _ (sNoiseC_T cb co cn cc ci cz cu) ?_) hs (fun v ch' w' ⟨zn, zf, i1, z1, ro0, rc0, hk, hf⟩ hs => ⟨zn, zf, i1, z1, ro0, rc0, hf, by rw [hk.1], hk.hs hs⟩)
  clear hs
  have hcn : cn ≤ 1048576 := hcode.1
  have hci0 : 0 ≤ ci := hci
  repeat' (first
    | with_reducible exact rfl
    | exact True.intro
    | with_reducible assumption
    | refine And.intro ?_ ?_
    | apply Exists.intro
    | (intro i hi; exact rfl)
    | (rintro h; have h1 := h.1; have h2 := h.2.1; have h3 := h.2.2; clear h)
    | intro _
    | omega)
def sNoise : Sm := fun args ch k =>
  match args with
  | [.a (.c (.ptr id b off))] =>
    match off, ch[id]? with
    | 0, some (.cells b' t [.sl j ao n cap, ic, hc]) =>
      match ch[j]?, asI ic, asI hc with
      | some (.row r), some i, some z => ∃ u : Nat → Int, ((b = b' ∧ t = 94 ∧ ao = r.ao ∧ n = r.n ∧ r.fld = [fun i => .u8 (u i)]) ∧ codeC n u ∧ pos0 i) ∧ ∀ (zn : Nat), ∀ (zf : Nat → Int), ∀ (i1 z1 : Int), ∀ (ro0 : Option Addr) (rc0 : Nat), (nzC zn zf ∧ leN zn 30) → pos0 i1 → k (.a (.c (.sl (ch.length) ro0 (zn) rc0))) (ch.set id (.cells b 94 [.sl j ao n cap, .int i1, .int z1]) ++ [.row ⟨true, ro0, 3, 1, zn, rc0, [fun i => .int (zf i)]⟩]) [id]
      | _, _, _ => False
    | _, _ => False
  | _ => False
theorem sNoise_ok : SmOK Try.prog 60 sNoise := by
  refine smTurnN Try.call60 fun args ch k w X h0 hs => ?_
  unfold sNoise at h0
  split at h0
  · rename_i id b off
    split at h0
    · rename_i b' t j ao n cap ic hc hid
      split at h0
      · rename_i r i z hj hi hz
        obtain ⟨u, ⟨⟨rfl, rfl, hao, hn, hf⟩, hcode, hi0⟩, h0⟩ := h0
        refine ⟨id, _, hid, rfl, ?_⟩
        simp only [List.map_cons, List.map_nil, den_a, den_c, SA.den]
        exact Calls.mono (sNoiseC_any b ao n cap i z u  w (hs.cur' hid hj hi hz hao hn hf) hcode hi0) fun e w' ⟨zn, zf, i1, z1, ro0, rc0, ⟨hfa, hp⟩, he, hn'⟩ => ⟨.a (.c (.sl (ch.length) ro0 (zn) rc0)), _, [.row ⟨true, ro0, 3, 1, zn, rc0, [fun i => .int (zf i)]⟩], he, hn'.recur, at_cells, rfl, h0 zn zf i1 z1 ro0 rc0 hfa hp⟩
      · exact h0.elim
    · exact h0.elim
  · exact h0.elim
theorem sDrawNC_T (co : Option Addr) (cn cc : Nat) (cu : Nat → Int) : (exFn Try.prog {tb := [(52, sNew), (60, sNoise)]} 400 Try.f31 ([.a (.c (.sl 0 co cn cc))]) ([.row ⟨false, co, 0, 1, cn, 0, [fun i => .u8 (cu i)]⟩]) (fun v ch => ∃ (zn : Nat) (zf : Nat → Int) (ro0 : Option Addr) (rc0 : Nat), OutR v ch (.slice ro0 (zn) rc0) [.row ⟨true, ro0, 3, 1, zn, rc0, [fun i => .int (zf i)]⟩] ∧ (nzC zn zf ∧ leN zn 30))) = (
  (Exists (fun (u0 : (Nat →
  Int)) => (((co = co ∧
  (cn = cn ∧
  [(fun (i1 : Nat) => (SC.u8 (cu i1)))] = [(fun (i2 : Nat) => (SC.u8 (u0 i2)))])) ∧
  (codeC cn u0)) ∧
  (∀ b3 : Nat,
  (∀ z4 : Int,
  (Exists (fun (u5 : (Nat →
  Int)) => (((b3 = b3 ∧
  (94 = 94 ∧
  (co = co ∧
  (cn = cn ∧
  [(fun (i6 : Nat) => (SC.u8 (cu i6)))] = [(fun (i7 : Nat) => (SC.u8 (u5 i7)))])))) ∧
  ((codeC cn u5) ∧
  (pos0 (0 : Int)))) ∧
  (∀ zn8 : Nat,
  (∀ zf9 : (Nat →
  Int),
  (∀ i110 : Int,
  (∀ z111 : Int,
  (∀ ro012 : (Option Addr),
  (∀ rc013 : Nat,
  (((nzC zn8 zf9) ∧
  (leN zn8 30)) →
  ((pos0 i110) →
   (Exists (fun (zn14 : Nat) => (Exists (fun (zf15 : (Nat →
    Int)) => (Exists (fun (ro016 : (Option Addr)) => (Exists (fun (rc017 : Nat) => (((Value.slice ro012 zn8 rc013) = (Value.slice ro016 zn14 rc017) ∧
    (((Bool.true = Bool.true ∧
    (ro012 = ro016 ∧
    (3 = 3 ∧
    (1 = 1 ∧
    (zn8 = zn14 ∧
    (rc013 = rc017 ∧
    ((∀ i18 : Nat,
    (i18 < zn8 →
    (Value.int IntKind.i64 (zf9 i18)) = (Value.int IntKind.i64 (zf15 i18)))) ∧
    True))))))) ∧
    True) ∧
    Bool.true = Bool.true)) ∧
    ((nzC zn14 zf15) ∧
    (leN zn14 30)))))))))))))))))))))))))))) := by kernel_rfl
theorem sDrawNC_any (co : Option Addr) (cn cc : Nat) (cu : Nat → Int) (w : World) (hr : Row.sat w ⟨false, co, 0, 1, cn, 0, [fun i => .u8 (cu i)]⟩) (hcode : codeC cn cu) : Calls Try.prog 31 #[.slice co cn cc] w fun e w' => ∃ (zn : Nat) (zf : Nat → Int) (ro0 : Option Addr) (rc0 : Nat), ((nzC zn zf ∧ leN zn 30)) ∧ e = .returned (.slice ro0 (zn) rc0) ∧ HS ⟨w, fun _ => False⟩ [.row ⟨true, ro0, 3, 1, zn, rc0, [fun i => .int (zf i)]⟩] w' := by
  refine fn_ok mixed (E := {tb := [(52, sNew), (60, sNoise)]}) ⟨sNew_ok, sNoise_ok, trivial⟩ Try.func31 (fun _ _ => loopsOK_nil _ _ _) (@Eq.mpr _ _ (sDrawNC_T co cn cc cu) ?_) (HS.rows (fun _ => False) [⟨false, co, 0, 1, cn, 0, [fun i => .u8 (cu i)]⟩] (by simpa using hr)) (fun v ch' w' ⟨zn, zf, ro0, rc0, hk, hf⟩ hs => ⟨zn, zf, ro0, rc0, hf, by rw [hk.1], hk.hs hs⟩)
  clear hr
  have hcn : cn ≤ 1048576 := hcode.1
  repeat' (first
    | with_reducible exact rfl
    | exact True.intro
    | with_reducible assumption
    | (intro i hi; exact rfl)
    | refine And.intro ?_ ?_
    | apply Exists.intro
    | (intro h; exfalso; simp at h; done)
    | (intro h; replace h := of_decide_eq_true h; first | (exfalso; omega) | skip)
    | (intro h; replace h := of_decide_eq_false h; first | (exfalso; omega) | skip)
    | intro _
    | omega)
def sDrawN : Sm := fun args ch k =>
  match args with
  | [.a (.c (.sl j ao n cap))] =>
    match ch[j]? with
    | some (.row r) => ∃ u : Nat → Int, ((ao = r.ao ∧ n = r.n ∧ r.fld = [fun i => .u8 (u i)]) ∧ codeC n u) ∧ ∀ (zn : Nat), ∀ (zf : Nat → Int), ∀ (ro0 : Option Addr) (rc0 : Nat), (nzC zn zf ∧ leN zn 30) → k (.a (.c (.sl (ch.length) ro0 (zn) rc0))) (ch ++ [.row ⟨true, ro0, 3, 1, zn, rc0, [fun i => .int (zf i)]⟩]) []
    | _ => False
  | _ => False
theorem sDrawN_ok : SmOK Try.prog 31 sDrawN := by
  refine smN Try.call31 fun args ch k w X h0 hs => ?_
  unfold sDrawN at h0
  split at h0
  · rename_i j ao n cap
    split at h0
    · rename_i r hj
      obtain ⟨u, ⟨⟨rfl, rfl, hf⟩, hcode⟩, h0⟩ := h0
      simp only [List.map_cons, List.map_nil, den_a, den_c, SA.den, den_sl]
      exact Calls.mono (sDrawNC_any r.ao r.n cap u  w (seenAs' (hs.sat j _ hj) hf rfl) hcode) fun e w' ⟨zn, zf, ro0, rc0, hfa, he, hs'⟩ => ⟨.a (.c (.sl (ch.length) ro0 (zn) rc0)), [.row ⟨true, ro0, 3, 1, zn, rc0, [fun i => .int (zf i)]⟩], he, hs', rfl, h0 zn zf ro0 rc0 hfa⟩
    · exact h0.elim
  · exact h0.elim
end Go.Proofs.Ytkfinkolllpcgaa

/-
  Lists of commands drawn, any.
-/
import Derived.Test.YtkfinkolllpcgaaSxDr6
namespace Go.Proofs.Ytkfinkolllpcgaa
set_option linter.unusedVariables false
set_option linter.unusedSimpArgs false
open Go.RowKit
set_option maxRecDepth 100000
set_option maxHeartbeats 8000000

theorem sAnyLC_T (cb : Nat) (co : Option Addr) (cn cc : Nat) (ci cz : Int) (cu : Nat → Int) : (exFn Try.prog {tb := [(55, sBelow), (65, sOnce), (53, sGeoD), (75, sAnyD), (74, sList)], D := fun _ => [0]} 400 Try.f64 ([.a (.c (.ptr 0 cb 0))]) ([.cells cb 94 [.sl 1 co cn cc, .int ci, .int cz], .row ⟨false, co, 0, 1, cn, 0, [fun i => .u8 (cu i)]⟩]) (fun v ch => ∃ (zn : Nat) (f0 : Nat → Int) (f1 : Nat → Int) (f2 : Nat → Int) (f3 : Nat → Int) (i1 z1 : Int) (ro0 : Option Addr) (rc0 : Nat), OutC v ch (.slice ro0 (zn) rc0) (.cells cb 94 [.sl 1 co cn cc, .int i1, .int z1]) [.row ⟨true, ro0, 41, 4, zn, rc0, [fun i => .int (f0 i), fun i => .int (f1 i), fun i => .int (f2 i), fun i => .int (f3 i)]⟩] ∧ (leN zn 41) ∧ pos0 i1)) = (
  (Exists (fun (u0 : (Nat →
  Int)) => (((cb = cb ∧
  (94 = 94 ∧
  (co = co ∧
  (cn = cn ∧
  [(fun (i1 : Nat) => (SC.u8 (cu i1)))] = [(fun (i2 : Nat) => (SC.u8 (u0 i2)))])))) ∧
  ((codeC cn u0) ∧
  (pos0 ci))) ∧
  (∀ zn3 : Nat,
  (∀ f04 : (Nat →
  Int),
  (∀ f15 : (Nat →
  Int),
  (∀ f26 : (Nat →
  Int),
  (∀ f37 : (Nat →
  Int),
  (∀ i18 : Int,
  (∀ z19 : Int,
  (∀ ro010 : (Option Addr),
  (∀ rc011 : Nat,
  ((leN zn3 41) →
  ((pos0 i18) →
   (((decide (((zn3 : Nat) : Int) > (0 : Int))) = Bool.true →
    (Exists (fun (u12 : (Nat →
     Int)) => (((cb = cb ∧
     (94 = 94 ∧
     (co = co ∧
     (cn = cn ∧
     [(fun (i13 : Nat) => (SC.u8 (cu i13)))] = [(fun (i14 : Nat) => (SC.u8 (u12 i14)))])))) ∧
     ((codeC cn u12) ∧
     ((pos0 i18) ∧
     (inR (8 : Int) (1 : Int) (4294967296 : Int))))) ∧
     (∀ z015 : Int,
     (∀ i116 : Int,
     (∀ z117 : Int,
     ((inR z015 (0 : Int) ((8 : Int) - (1 : Int))) →
     ((pos0 i116) →
      (((z015 == (0 : Int)) = Bool.true →
       (Exists (fun (u18 : (Nat →
        Int)) => (((cb = cb ∧
        (94 = 94 ∧
        (co = co ∧
        (cn = cn ∧
        [(fun (i19 : Nat) => (SC.u8 (cu i19)))] = [(fun (i20 : Nat) => (SC.u8 (u18 i20)))])))) ∧
        ((codeC cn u18) ∧
        ((pos0 i116) ∧
        (inR ((zn3 : Nat) : Int) (1 : Int) (4294967296 : Int))))) ∧
        (∀ z021 : Int,
        (∀ i122 : Int,
        (∀ z123 : Int,
        ((inR z021 (0 : Int) (((zn3 : Nat) : Int) - (1 : Int))) →
        ((pos0 i122) →
         (Exists (fun (u24 : (Nat →
          Int)) => (((cb = cb ∧
          (94 = 94 ∧
          (co = co ∧
          (cn = cn ∧
          [(fun (i25 : Nat) => (SC.u8 (cu i25)))] = [(fun (i26 : Nat) => (SC.u8 (u24 i26)))])))) ∧
          ((codeC cn u24) ∧
          (pos0 i122))) ∧
          (∀ zg27 : Int,
          (∀ zb28 : Int,
          (∀ zr29 : Int,
          (∀ zc30 : Int,
          (∀ i131 : Int,
          (∀ z132 : Int,
          ((geoC zg27 zb28 zr29 zc30) →
          ((pos0 i131) →
           (Exists (fun (u33 : (Nat →
            Int)) => (((cb = cb ∧
            (94 = 94 ∧
            (co = co ∧
            (cn = cn ∧
            [(fun (i34 : Nat) => (SC.u8 (cu i34)))] = [(fun (i35 : Nat) => (SC.u8 (u33 i35)))])))) ∧
            ((codeC cn u33) ∧
            ((pos0 i131) ∧
            (geoC zg27 zb28 zr29 zc30)))) ∧
            (∀ zk36 : Int,
            (∀ zb37 : Int,
            (∀ zr38 : Int,
            (∀ zc39 : Int,
            (∀ i140 : Int,
            (∀ z141 : Int,
            (True →
            ((pos0 i140) →
             (ro010 = ro010 ∧
              (zn3 = zn3 ∧
              ((0 ≤ z021 ∧ z021 < ((zn3 : Nat) : Int)) ∧
              (ro010 = ro010 ∧
              ((Int.toNat z021) < zn3 ∧
              (Exists (fun (zn42 : Nat) => (Exists (fun (f043 : (Nat →
              Int)) => (Exists (fun (f144 : (Nat →
              Int)) => (Exists (fun (f245 : (Nat →
              Int)) => (Exists (fun (f346 : (Nat →
              Int)) => (Exists (fun (i147 : Int) => (Exists (fun (z148 : Int) => (Exists (fun (ro049 : (Option Addr)) => (Exists (fun (rc050 : Nat) => (((Value.slice ro010 zn3 rc011) = (Value.slice ro049 zn42 rc050) ∧
              ((cb = cb ∧
              (94 = 94 ∧
              [(Value.slice co cn cc), (Value.int IntKind.i64 i140), (Value.int IntKind.i64 z141)] = [(Value.slice co cn cc), (Value.int IntKind.i64 i147), (Value.int IntKind.i64 z148)])) ∧
              (((Bool.true = Bool.true ∧
              (ro010 = ro049 ∧
              (41 = 41 ∧
              (4 = 4 ∧
              (zn3 = zn42 ∧
              (rc011 = rc050 ∧
              ((∀ i51 : Nat,
              (i51 < zn3 →
              (Value.int IntKind.i64 (if i51 = (Int.toNat z021) then zk36 else (f04 i51))) = (Value.int IntKind.i64 (f043 i51)))) ∧
              ((∀ i52 : Nat,
              (i52 < zn3 →
              (Value.int IntKind.i64 (if i52 = (Int.toNat z021) then zb37 else (f15 i52))) = (Value.int IntKind.i64 (f144 i52)))) ∧
              ((∀ i53 : Nat,
              (i53 < zn3 →
              (Value.int IntKind.i64 (if i53 = (Int.toNat z021) then zr38 else (f26 i53))) = (Value.int IntKind.i64 (f245 i53)))) ∧
              ((∀ i54 : Nat,
              (i54 < zn3 →
              (Value.int IntKind.i64 (if i54 = (Int.toNat z021) then zc39 else (f37 i54))) = (Value.int IntKind.i64 (f346 i54)))) ∧
              True)))))))))) ∧
              True) ∧
              Bool.true = Bool.true))) ∧
              ((leN zn42 41) ∧
              (pos0 i147))))))))))))))))))))))))))))))))))))))))))))))))))))))))) ∧
       ((z015 == (0 : Int)) = Bool.false →
       (Exists (fun (zn55 : Nat) => (Exists (fun (f056 : (Nat →
        Int)) => (Exists (fun (f157 : (Nat →
        Int)) => (Exists (fun (f258 : (Nat →
        Int)) => (Exists (fun (f359 : (Nat →
        Int)) => (Exists (fun (i160 : Int) => (Exists (fun (z161 : Int) => (Exists (fun (ro062 : (Option Addr)) => (Exists (fun (rc063 : Nat) => (((Value.slice ro010 zn3 rc011) = (Value.slice ro062 zn55 rc063) ∧
        ((cb = cb ∧
        (94 = 94 ∧
        [(Value.slice co cn cc), (Value.int IntKind.i64 i116), (Value.int IntKind.i64 z117)] = [(Value.slice co cn cc), (Value.int IntKind.i64 i160), (Value.int IntKind.i64 z161)])) ∧
        (((Bool.true = Bool.true ∧
        (ro010 = ro062 ∧
        (41 = 41 ∧
        (4 = 4 ∧
        (zn3 = zn55 ∧
        (rc011 = rc063 ∧
        ((∀ i64 : Nat,
        (i64 < zn3 →
        (Value.int IntKind.i64 (f04 i64)) = (Value.int IntKind.i64 (f056 i64)))) ∧
        ((∀ i65 : Nat,
        (i65 < zn3 →
        (Value.int IntKind.i64 (f15 i65)) = (Value.int IntKind.i64 (f157 i65)))) ∧
        ((∀ i66 : Nat,
        (i66 < zn3 →
        (Value.int IntKind.i64 (f26 i66)) = (Value.int IntKind.i64 (f258 i66)))) ∧
        ((∀ i67 : Nat,
        (i67 < zn3 →
        (Value.int IntKind.i64 (f37 i67)) = (Value.int IntKind.i64 (f359 i67)))) ∧
        True)))))))))) ∧
        True) ∧
        Bool.true = Bool.true))) ∧
        ((leN zn55 41) ∧
        (pos0 i160)))))))))))))))))))))))))))))))) ∧
    ((decide (((zn3 : Nat) : Int) > (0 : Int))) = Bool.false →
    (Exists (fun (zn68 : Nat) => (Exists (fun (f069 : (Nat →
     Int)) => (Exists (fun (f170 : (Nat →
     Int)) => (Exists (fun (f271 : (Nat →
     Int)) => (Exists (fun (f372 : (Nat →
     Int)) => (Exists (fun (i173 : Int) => (Exists (fun (z174 : Int) => (Exists (fun (ro075 : (Option Addr)) => (Exists (fun (rc076 : Nat) => (((Value.slice ro010 zn3 rc011) = (Value.slice ro075 zn68 rc076) ∧
     ((cb = cb ∧
     (94 = 94 ∧
     [(Value.slice co cn cc), (Value.int IntKind.i64 i18), (Value.int IntKind.i64 z19)] = [(Value.slice co cn cc), (Value.int IntKind.i64 i173), (Value.int IntKind.i64 z174)])) ∧
     (((Bool.true = Bool.true ∧
     (ro010 = ro075 ∧
     (41 = 41 ∧
     (4 = 4 ∧
     (zn3 = zn68 ∧
     (rc011 = rc076 ∧
     ((∀ i77 : Nat,
     (i77 < zn3 →
     (Value.int IntKind.i64 (f04 i77)) = (Value.int IntKind.i64 (f069 i77)))) ∧
     ((∀ i78 : Nat,
     (i78 < zn3 →
     (Value.int IntKind.i64 (f15 i78)) = (Value.int IntKind.i64 (f170 i78)))) ∧
     ((∀ i79 : Nat,
     (i79 < zn3 →
     (Value.int IntKind.i64 (f26 i79)) = (Value.int IntKind.i64 (f271 i79)))) ∧
     ((∀ i80 : Nat,
     (i80 < zn3 →
     (Value.int IntKind.i64 (f37 i80)) = (Value.int IntKind.i64 (f372 i80)))) ∧
     True)))))))))) ∧
     True) ∧
     Bool.true = Bool.true))) ∧
     ((leN zn68 41) ∧
     (pos0 i173)))))))))))))))))))))))))))))))))))))) := by kernel_rfl
theorem sAnyLC_any (cb : Nat) (co : Option Addr) (cn cc : Nat) (ci cz : Int) (cu : Nat → Int) (w : World) (hs : HS ⟨w, (Ch.cells cb 94 [.sl 1 co cn cc, .int ci, .int cz]).at⟩ [.cells cb 94 [.sl 1 co cn cc, .int ci, .int cz], .row ⟨false, co, 0, 1, cn, 0, [fun i => .u8 (cu i)]⟩] w) (hcode : codeC cn cu) (hci : pos0 ci) : Calls Try.prog 64 #[.pointer (some ⟨cb, 0, none⟩)] w fun e w' => ∃ (zn : Nat) (f0 : Nat → Int) (f1 : Nat → Int) (f2 : Nat → Int) (f3 : Nat → Int) (i1 z1 : Int) (ro0 : Option Addr) (rc0 : Nat), ((leN zn 41) ∧ pos0 i1) ∧ e = .returned (.slice ro0 (zn) rc0) ∧ HS ⟨w, (Ch.cells cb 94 [.sl 1 co cn cc, .int ci, .int cz]).at⟩ [.cells cb 94 [.sl 1 co cn cc, .int i1, .int z1], .row ⟨true, ro0, 41, 4, zn, rc0, [fun i => .int (f0 i), fun i => .int (f1 i), fun i => .int (f2 i), fun i => .int (f3 i)]⟩] w' := by
  refine fn_ok mixed (E := {tb := [(55, sBelow), (65, sOnce), (53, sGeoD), (75, sAnyD), (74, sList)], D := fun _ => [0]}) ⟨sBelow_ok, sOnce_ok, sGeoD_ok, sAnyD_ok, sList_ok, trivial⟩ Try.func64 (fun _ _ => loopsOK_nil _ _ _) (@Eq.mpr _ _ (sAnyLC_T cb co cn cc ci cz cu) ?_) hs (fun v ch' w' ⟨zn, f0, f1, f2, f3, i1, z1, ro0, rc0, hk, hf⟩ hs => ⟨zn, f0, f1, f2, f3, i1, z1, ro0, rc0, hf, by rw [hk.1], hk.hs hs⟩)
  clear hs
  have hcn : cn ≤ 1048576 := hcode.1
  have hci0 : 0 ≤ ci := hci
  repeat' (first
    | with_reducible exact rfl
    | exact True.intro
    | with_reducible assumption
    | refine And.intro ?_ ?_
    | apply Exists.intro
    | (intro i hi; with_reducible exact rfl)
    | (intro h; replace h := of_decide_eq_true h; first | (exfalso; omega) | skip)
    | (intro h; replace h := of_decide_eq_false h; first | (exfalso; omega) | skip)
    | intro _
    | omega)
def sAnyL : Sm := fun args ch k =>
  match args with
  | [.a (.c (.ptr id b off))] =>
    match off, ch[id]? with
    | 0, some (.cells b' t [.sl j ao n cap, ic, hc]) =>
      match ch[j]?, asI ic, asI hc with
      | some (.row r), some i, some z => ∃ u : Nat → Int, ((b = b' ∧ t = 94 ∧ ao = r.ao ∧ n = r.n ∧ r.fld = [fun i => .u8 (u i)]) ∧ codeC n u ∧ pos0 i) ∧ ∀ (zn : Nat), ∀ (f0 : Nat → Int), ∀ (f1 : Nat → Int), ∀ (f2 : Nat → Int), ∀ (f3 : Nat → Int), ∀ (i1 z1 : Int), ∀ (ro0 : Option Addr) (rc0 : Nat), (leN zn 41) → pos0 i1 → k (.a (.c (.sl (ch.length) ro0 (zn) rc0))) (ch.set id (.cells b 94 [.sl j ao n cap, .int i1, .int z1]) ++ [.row ⟨true, ro0, 41, 4, zn, rc0, [fun i => .int (f0 i), fun i => .int (f1 i), fun i => .int (f2 i), fun i => .int (f3 i)]⟩]) [id]
      | _, _, _ => False
    | _, _ => False
  | _ => False
theorem sAnyL_ok : SmOK Try.prog 64 sAnyL := by
  refine smTurnN Try.call64 fun args ch k w X h0 hs => ?_
  unfold sAnyL at h0
  split at h0
  · rename_i id b off
    split at h0
    · rename_i b' t j ao n cap ic hc hid
      split at h0
      · rename_i r i z hj hi hz
        obtain ⟨u, ⟨⟨rfl, rfl, hao, hn, hf⟩, hcode, hi0⟩, h0⟩ := h0
        refine ⟨id, _, hid, rfl, ?_⟩
        simp only [List.map_cons, List.map_nil, den_a, den_c, SA.den]
        exact Calls.mono (sAnyLC_any b ao n cap i z u  w (hs.cur' hid hj hi hz hao hn hf) hcode hi0) fun e w' ⟨zn, f0, f1, f2, f3, i1, z1, ro0, rc0, ⟨hfa, hp⟩, he, hn'⟩ => ⟨.a (.c (.sl (ch.length) ro0 (zn) rc0)), _, [.row ⟨true, ro0, 41, 4, zn, rc0, [fun i => .int (f0 i), fun i => .int (f1 i), fun i => .int (f2 i), fun i => .int (f3 i)]⟩], he, hn'.recur, at_cells, rfl, h0 zn f0 f1 f2 f3 i1 z1 ro0 rc0 hfa hp⟩
      · exact h0.elim
    · exact h0.elim
  · exact h0.elim
end Go.Proofs.Ytkfinkolllpcgaa

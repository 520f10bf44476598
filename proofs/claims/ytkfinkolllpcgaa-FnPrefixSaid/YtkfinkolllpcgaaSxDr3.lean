/-
  Commands drawn.
-/
import Derived.Test.YtkfinkolllpcgaaSxDr2
import Derived.Test.YtkfinkolllpcgaaSxFrm
namespace Go.Proofs.Ytkfinkolllpcgaa
set_option linter.unusedVariables false
set_option linter.unusedSimpArgs false
open Go.RowKit
set_option maxRecDepth 100000
set_option maxHeartbeats 8000000

abbrev geoC (g b r c : Int) : Prop := inR g 1 2 ∧ inR b 1 4 ∧ inR r 2 16 ∧ inR c 1 8
theorem bank8 {g b : Int} (hg : inR g 1 2) (hb : inR b 1 4) : inR (g * b) 1 8 := by
  have : g = 1 ∨ g = 2 := by have := hg.1; have := hg.2; omega
  have h1 := hb.1; have h2 := hb.2
  rcases this with rfl | rfl <;> exact ⟨by omega, by omega⟩
theorem form_mk {k b r c : Int} (hk : 1 ≤ k ∧ k ≤ 9) (hb : (btw k 1 5 = true → 0 ≤ b ∧ b ≤ 7) ∧ (btw k 1 5 = false → b = 0)) (hr : ((k == 1) = true → 0 ≤ r ∧ r ≤ 15) ∧ ((k == 1) = false → r = 0)) (hc : (colU k = true → 0 ≤ c ∧ c ≤ 7) ∧ (colU k = false → c = 0)) : formB k b r c = true := by
  have e : formB k b r c = (btw k 1 9 && (if btw k 1 5 = true then btw b 0 7 else b == 0) && (if (k == 1) = true then btw r 0 15 else r == 0) && (if colU k = true then btw c 0 7 else c == 0)) := rfl
  rw [e, btw_mk' hk]
  cases h1 : btw k 1 5 <;> cases h2 : k == 1 <;> cases h3 : colU k
  all_goals simp only [h1, h2, h3] at hb hr hc
  all_goals simp at hb hr hc
  all_goals simp only [Bool.true_and, if_true, Bool.false_eq_true, if_false, Bool.and_eq_true]
  all_goals refine ⟨⟨?_, ?_⟩, ?_⟩
  all_goals first | exact btw_mk' (by omega) | (simp only [hb, hr, hc]; rfl) | (simp; omega)
theorem geoS_T (gGroups : Int) (gBanks : Int) (gRows : Int) (gCols : Int) : (exFn Try.prog {tb := [(48, sBtw)]} 400 Try.f61 ([.a (.agg [.int gGroups, .int gBanks, .int gRows, .int gCols])]) ([]) (fun v _ => v.den = .bool true)) = (
  (∀ b0 : Nat,
  (b0 = b0 ∧
  (((btw gGroups (1 : Int) (2 : Int)) = Bool.true →
  (b0 = b0 ∧
   (((btw gBanks (1 : Int) (4 : Int)) = Bool.true →
   (b0 = b0 ∧
    (((btw gRows (2 : Int) (16 : Int)) = Bool.true →
    (b0 = b0 ∧
     (Value.bool (btw gCols (1 : Int) (8 : Int))) = (Value.bool Bool.true))) ∧
    ((btw gRows (2 : Int) (16 : Int)) = Bool.false →
    (Value.bool Bool.false) = (Value.bool Bool.true))))) ∧
   ((btw gBanks (1 : Int) (4 : Int)) = Bool.false →
   (Value.bool Bool.false) = (Value.bool Bool.true))))) ∧
  ((btw gGroups (1 : Int) (2 : Int)) = Bool.false →
  (Value.bool Bool.false) = (Value.bool Bool.true)))))) := by kernel_rfl
theorem geoS_any (gGroups : Int) (gBanks : Int) (gRows : Int) (gCols : Int) (w : World) (hpre : geoC gGroups gBanks gRows gCols) : Calls Try.prog 61 #[.agg #[.int .i64 gGroups, .int .i64 gBanks, .int .i64 gRows, .int .i64 gCols]] w fun e w' => e = .returned (.bool true) ∧ Below w.heap.size w w' := by
  refine fnB (tb := [(48, sBtw)]) ⟨sBtwS_ok, trivial⟩ Try.func61 (@Eq.mpr _ _ (geoS_T gGroups gBanks gRows gCols) ?_) (HS.start w (fun _ => False)) (fun v ch' w' hk hs => ⟨by rw [hk], hs.below⟩)
  have h1 := btw_mk' hpre.1; have h2 := btw_mk' hpre.2.1; have h3 := btw_mk' hpre.2.2.1; have h4 := btw_mk' hpre.2.2.2
  repeat' (first
    | with_reducible exact rfl
    | exact True.intro
    | with_reducible assumption
    | refine And.intro ?_ ?_
    | apply Exists.intro
    | (intro h; exfalso; simp [h1, h2, h3, h4] at h; done)
    | (intro h; exfalso; simp [h1, h2, h3, h4] at h; omega)
    | intro _
    | omega
    | (simp; omega))
  all_goals (simp_all; done)
def sGeoOk : Sm := fun args ch k =>
  match args with
  | [.a (.agg [a, b, c, d])] =>
    match ints [a, b, c, d] with
    | some [g, b, r, c] => geoC g b r c ∧ k (.a (.c (.lit true))) ch []
    | _ => False
  | _ => False
theorem sGeoOk_ok : SmOK Try.prog 61 sGeoOk := by
  refine smB Try.call61 fun args ch k w X h0 hs => ?_
  unfold sGeoOk at h0
  split at h0
  · rename_i c0 c1 c2 c3
    split at h0
    · rename_i g b r c hi
      obtain ⟨hpre, h0⟩ := h0
      obtain ⟨e0, hi⟩ := ints_cons hi
      obtain ⟨e1, hi⟩ := ints_cons hi
      obtain ⟨e2, hi⟩ := ints_cons hi
      obtain ⟨e3, hi⟩ := ints_cons hi
      refine ⟨_, h0, ?_⟩
      simp only [List.map_cons, List.map_nil, den_a, den_c, SA.den, e0, e1, e2, e3]
      exact geoS_any g b r c w hpre
    · exact h0.elim
  · exact h0.elim
theorem bankS_T (gGroups : Int) (gBanks : Int) (gRows : Int) (gCols : Int) : (exFn Try.prog {tb := [(61, sGeoOk)]} 400 Try.f32 ([.a (.agg [.int gGroups, .int gBanks, .int gRows, .int gCols])]) ([]) (fun v _ => v.den = .int .i64 (imul gGroups gBanks))) = (
  (∀ b0 : Nat,
  (b0 = b0 ∧
  ((geoC gGroups gBanks gRows gCols) ∧
  (b0 = b0 ∧
  (b0 = b0 ∧
  ((rng (gGroups * gBanks)) ∧
  (Value.int IntKind.i64 (gGroups * gBanks)) = (Value.int IntKind.i64 (gGroups * gBanks))))))))) := by kernel_rfl
theorem bankS_any (gGroups : Int) (gBanks : Int) (gRows : Int) (gCols : Int) (w : World) (hpre : geoC gGroups gBanks gRows gCols) : Calls Try.prog 32 #[.agg #[.int .i64 gGroups, .int .i64 gBanks, .int .i64 gRows, .int .i64 gCols]] w fun e w' => e = .returned (.int .i64 (imul gGroups gBanks)) ∧ Below w.heap.size w w' := by
  refine fnB (tb := [(61, sGeoOk)]) ⟨sGeoOk_ok, trivial⟩ Try.func32 (@Eq.mpr _ _ (bankS_T gGroups gBanks gRows gCols) ?_) (HS.start w (fun _ => False)) (fun v ch' w' hk hs => ⟨by rw [hk], hs.below⟩)
  have h1 := bank8 hpre.1 hpre.2.1
  have h2 := h1.1; have h3 := h1.2
  have a1 := hpre.1; have a2 := hpre.2.1; have a3 := hpre.2.2.1; have a4 := hpre.2.2.2
  repeat' (first
    | with_reducible exact rfl
    | exact True.intro
    | with_reducible assumption
    | refine And.intro ?_ ?_
    | apply Exists.intro
    | (intro h; exfalso; simp  at h; done)
    | (intro h; exfalso; simp  at h; omega)
    | intro _
    | omega
    | (simp; omega))
def sBankC : Sm := fun args ch k =>
  match args with
  | [.a (.agg [a, b, c, d])] =>
    match ints [a, b, c, d] with
    | some [g, b, r, c] => geoC g b r c ∧ ∀ z : Int, inR z 1 8 → k (.a (.c (.int z))) ch []
    | _ => False
  | _ => False
theorem sBankC_ok : SmOK Try.prog 32 sBankC := by
  refine smB Try.call32 fun args ch k w X h0 hs => ?_
  unfold sBankC at h0
  split at h0
  · rename_i c0 c1 c2 c3
    split at h0
    · rename_i g b r c hi
      obtain ⟨hpre, h0⟩ := h0
      obtain ⟨e0, hi⟩ := ints_cons hi
      obtain ⟨e1, hi⟩ := ints_cons hi
      obtain ⟨e2, hi⟩ := ints_cons hi
      obtain ⟨e3, hi⟩ := ints_cons hi
      refine ⟨_, h0 (g * b) (bank8 hpre.1 hpre.2.1), ?_⟩
      simp only [List.map_cons, List.map_nil, den_a, den_c, SA.den, e0, e1, e2, e3]
      exact bankS_any g b r c w hpre
    · exact h0.elim
  · exact h0.elim
theorem sGeoDC_T (cb : Nat) (co : Option Addr) (cn cc : Nat) (ci cz : Int) (cu : Nat → Int) : (exFn Try.prog {tb := [(55, sBelow)]} 400 Try.f53 ([.a (.c (.ptr 0 cb 0))]) ([.cells cb 94 [.sl 1 co cn cc, .int ci, .int cz], .row ⟨false, co, 0, 1, cn, 0, [fun i => .u8 (cu i)]⟩]) (fun v ch => ∃ (zg : Int) (zb : Int) (zr : Int) (zc : Int) (i1 z1 : Int) , OutC v ch (.agg #[.int .i64 (zg), .int .i64 (zb), .int .i64 (zr), .int .i64 (zc)]) (.cells cb 94 [.sl 1 co cn cc, .int i1, .int z1]) [] ∧ (geoC zg zb zr zc) ∧ pos0 i1)) = (
  (∀ b0 : Nat,
  (Exists (fun (u1 : (Nat →
  Int)) => (((cb = cb ∧
  (94 = 94 ∧
  (co = co ∧
  (cn = cn ∧
  [(fun (i2 : Nat) => (SC.u8 (cu i2)))] = [(fun (i3 : Nat) => (SC.u8 (u1 i3)))])))) ∧
  ((codeC cn u1) ∧
  ((pos0 ci) ∧
  (inR (2 : Int) (1 : Int) (4294967296 : Int))))) ∧
  (∀ z04 : Int,
  (∀ i15 : Int,
  (∀ z16 : Int,
  ((inR z04 (0 : Int) ((2 : Int) - (1 : Int))) →
  ((pos0 i15) →
   ((rng ((1 : Int) + z04)) ∧
    (Exists (fun (u7 : (Nat →
    Int)) => (((cb = cb ∧
    (94 = 94 ∧
    (co = co ∧
    (cn = cn ∧
    [(fun (i8 : Nat) => (SC.u8 (cu i8)))] = [(fun (i9 : Nat) => (SC.u8 (u7 i9)))])))) ∧
    ((codeC cn u7) ∧
    ((pos0 i15) ∧
    (inR (4 : Int) (1 : Int) (4294967296 : Int))))) ∧
    (∀ z010 : Int,
    (∀ i111 : Int,
    (∀ z112 : Int,
    ((inR z010 (0 : Int) ((4 : Int) - (1 : Int))) →
    ((pos0 i111) →
     ((rng ((1 : Int) + z010)) ∧
      (Exists (fun (u13 : (Nat →
      Int)) => (((cb = cb ∧
      (94 = 94 ∧
      (co = co ∧
      (cn = cn ∧
      [(fun (i14 : Nat) => (SC.u8 (cu i14)))] = [(fun (i15 : Nat) => (SC.u8 (u13 i15)))])))) ∧
      ((codeC cn u13) ∧
      ((pos0 i111) ∧
      (inR (7 : Int) (1 : Int) (4294967296 : Int))))) ∧
      (∀ z016 : Int,
      (∀ i117 : Int,
      (∀ z118 : Int,
      ((inR z016 (0 : Int) ((7 : Int) - (1 : Int))) →
      ((pos0 i117) →
       ((rng ((2 : Int) + z016)) ∧
        (Exists (fun (u19 : (Nat →
        Int)) => (((cb = cb ∧
        (94 = 94 ∧
        (co = co ∧
        (cn = cn ∧
        [(fun (i20 : Nat) => (SC.u8 (cu i20)))] = [(fun (i21 : Nat) => (SC.u8 (u19 i21)))])))) ∧
        ((codeC cn u19) ∧
        ((pos0 i117) ∧
        (inR (4 : Int) (1 : Int) (4294967296 : Int))))) ∧
        (∀ z022 : Int,
        (∀ i123 : Int,
        (∀ z124 : Int,
        ((inR z022 (0 : Int) ((4 : Int) - (1 : Int))) →
        ((pos0 i123) →
         ((rng ((1 : Int) + z022)) ∧
          (b0 = b0 ∧
          (b0 = b0 ∧
          (Exists (fun (zg25 : Int) => (Exists (fun (zb26 : Int) => (Exists (fun (zr27 : Int) => (Exists (fun (zc28 : Int) => (Exists (fun (i129 : Int) => (Exists (fun (z130 : Int) => (((Value.agg (List.toArray [(Value.int IntKind.i64 ((1 : Int) + z04)), (Value.int IntKind.i64 ((1 : Int) + z010)), (Value.int IntKind.i64 ((2 : Int) + z016)), (Value.int IntKind.i64 ((1 : Int) + z022))])) = (Value.agg (List.toArray [(Value.int IntKind.i64 zg25), (Value.int IntKind.i64 zb26), (Value.int IntKind.i64 zr27), (Value.int IntKind.i64 zc28)])) ∧
          ((cb = cb ∧
          (94 = 94 ∧
          [(Value.slice co cn cc), (Value.int IntKind.i64 i123), (Value.int IntKind.i64 z124)] = [(Value.slice co cn cc), (Value.int IntKind.i64 i129), (Value.int IntKind.i64 z130)])) ∧
          (True ∧
          Bool.true = Bool.true))) ∧
          ((geoC zg25 zb26 zr27 zc28) ∧
          (pos0 i129))))))))))))))))))))))))))))))))))))))))))))))))))))))) := by kernel_rfl
theorem sGeoDC_any (cb : Nat) (co : Option Addr) (cn cc : Nat) (ci cz : Int) (cu : Nat → Int) (w : World) (hs : HS ⟨w, (Ch.cells cb 94 [.sl 1 co cn cc, .int ci, .int cz]).at⟩ [.cells cb 94 [.sl 1 co cn cc, .int ci, .int cz], .row ⟨false, co, 0, 1, cn, 0, [fun i => .u8 (cu i)]⟩] w) (hcode : codeC cn cu) (hci : pos0 ci) : Calls Try.prog 53 #[.pointer (some ⟨cb, 0, none⟩)] w fun e w' => ∃ (zg : Int) (zb : Int) (zr : Int) (zc : Int) (i1 z1 : Int) , ((geoC zg zb zr zc) ∧ pos0 i1) ∧ e = .returned (.agg #[.int .i64 (zg), .int .i64 (zb), .int .i64 (zr), .int .i64 (zc)]) ∧ HS ⟨w, (Ch.cells cb 94 [.sl 1 co cn cc, .int ci, .int cz]).at⟩ [.cells cb 94 [.sl 1 co cn cc, .int i1, .int z1]] w' := by
  refine fn_ok mixed (E := {tb := [(55, sBelow)]}) ⟨sBelow_ok, trivial⟩ Try.func53 (fun _ _ => loopsOK_nil _ _ _) (@Eq.mpr _ _ (sGeoDC_T cb co cn cc ci cz cu) ?_) hs (fun v ch' w' ⟨zg, zb, zr, zc, i1, z1, hk, hf⟩ hs => ⟨zg, zb, zr, zc, i1, z1, hf, by rw [hk.1], hk.hs hs⟩)
  clear hs
  have hcn : cn ≤ 1048576 := hcode.1
  have hci0 : 0 ≤ ci := hci
  repeat' (first
    | with_reducible exact rfl
    | exact True.intro
    | with_reducible assumption
    | refine And.intro ?_ ?_
    | apply Exists.intro
    | (intro h; exfalso; simp at h; done)
    | (intro h; replace h := of_decide_eq_true h; first | (exfalso; omega) | skip)
    | (intro h; replace h := of_decide_eq_false h; first | (exfalso; omega) | skip)
    | intro _
    | omega)
def sGeoD : Sm := fun args ch k =>
  match args with
  | [.a (.c (.ptr id b off))] =>
    match off, ch[id]? with
    | 0, some (.cells b' t [.sl j ao n cap, ic, hc]) =>
      match ch[j]?, asI ic, asI hc with
      | some (.row r), some i, some z => ∃ u : Nat → Int, ((b = b' ∧ t = 94 ∧ ao = r.ao ∧ n = r.n ∧ r.fld = [fun i => .u8 (u i)]) ∧ codeC n u ∧ pos0 i) ∧ ∀ (zg : Int), ∀ (zb : Int), ∀ (zr : Int), ∀ (zc : Int), ∀ (i1 z1 : Int), (geoC zg zb zr zc) → pos0 i1 → k (.a (.agg [.int (zg), .int (zb), .int (zr), .int (zc)])) (ch.set id (.cells b 94 [.sl j ao n cap, .int i1, .int z1])) [id]
      | _, _, _ => False
    | _, _ => False
  | _ => False
theorem sGeoD_ok : SmOK Try.prog 53 sGeoD := by
  refine smTurnN Try.call53 fun args ch k w X h0 hs => ?_
  unfold sGeoD at h0
  split at h0
  · rename_i id b off
    split at h0
    · rename_i b' t j ao n cap ic hc hid
      split at h0
      · rename_i r i z hj hi hz
        obtain ⟨u, ⟨⟨rfl, rfl, hao, hn, hf⟩, hcode, hi0⟩, h0⟩ := h0
        refine ⟨id, _, hid, rfl, ?_⟩
        simp only [List.map_cons, List.map_nil, den_a, den_c, SA.den]
        exact Calls.mono (sGeoDC_any b ao n cap i z u  w (hs.cur' hid hj hi hz hao hn hf) hcode hi0) fun e w' ⟨zg, zb, zr, zc, i1, z1, ⟨hfa, hp⟩, he, hn'⟩ => ⟨.a (.agg [.int (zg), .int (zb), .int (zr), .int (zc)]), _, [], he, hn'.recur, at_cells, rfl, by simpa using h0 zg zb zr zc i1 z1 hfa hp⟩
      · exact h0.elim
    · exact h0.elim
  · exact h0.elim
theorem sAddrDC_T (cb : Nat) (co : Option Addr) (cn cc : Nat) (ci cz : Int) (cu : Nat → Int) (gGroups : Int) (gBanks : Int) (gRows : Int) (gCols : Int) : (exFn Try.prog {tb := [(55, sBelow), (32, sBankC)], D := fun _ => [0]} 400 Try.f69 ([.a (.c (.ptr 0 cb 0)), .a (.agg [.int gGroups, .int gBanks, .int gRows, .int gCols])]) ([.cells cb 94 [.sl 1 co cn cc, .int ci, .int cz], .row ⟨false, co, 0, 1, cn, 0, [fun i => .u8 (cu i)]⟩]) (fun v ch => ∃ (zb : Int) (zr : Int) (zc : Int) (i1 z1 : Int) , OutC v ch (.agg #[.int .i64 (zb), .int .i64 (zr), .int .i64 (zc)]) (.cells cb 94 [.sl 1 co cn cc, .int i1, .int z1]) [] ∧ (inR zb 0 7 ∧ inR zr 0 15 ∧ inR zc 0 7) ∧ pos0 i1)) = (
  (∀ b0 : Nat,
  (∀ b1 : Nat,
  (b0 = b0 ∧
  (b0 = b0 ∧
  (b0 = b0 ∧
  ((geoC gGroups gBanks gRows gCols) ∧
  (∀ z2 : Int,
  ((inR z2 (1 : Int) (8 : Int)) →
  (True ∧
   (Exists (fun (u3 : (Nat →
   Int)) => (((cb = cb ∧
   (94 = 94 ∧
   (co = co ∧
   (cn = cn ∧
   [(fun (i4 : Nat) => (SC.u8 (cu i4)))] = [(fun (i5 : Nat) => (SC.u8 (u3 i5)))])))) ∧
   ((codeC cn u3) ∧
   ((pos0 ci) ∧
   (inR z2 (1 : Int) (4294967296 : Int))))) ∧
   (∀ z06 : Int,
   (∀ i17 : Int,
   (∀ z18 : Int,
   ((inR z06 (0 : Int) (z2 - (1 : Int))) →
   ((pos0 i17) →
    (True ∧
     (Exists (fun (u9 : (Nat →
     Int)) => (((cb = cb ∧
     (94 = 94 ∧
     (co = co ∧
     (cn = cn ∧
     [(fun (i10 : Nat) => (SC.u8 (cu i10)))] = [(fun (i11 : Nat) => (SC.u8 (u9 i11)))])))) ∧
     ((codeC cn u9) ∧
     ((pos0 i17) ∧
     (inR gRows (1 : Int) (4294967296 : Int))))) ∧
     (∀ z012 : Int,
     (∀ i113 : Int,
     (∀ z114 : Int,
     ((inR z012 (0 : Int) (gRows - (1 : Int))) →
     ((pos0 i113) →
      (True ∧
       (Exists (fun (u15 : (Nat →
       Int)) => (((cb = cb ∧
       (94 = 94 ∧
       (co = co ∧
       (cn = cn ∧
       [(fun (i16 : Nat) => (SC.u8 (cu i16)))] = [(fun (i17 : Nat) => (SC.u8 (u15 i17)))])))) ∧
       ((codeC cn u15) ∧
       ((pos0 i113) ∧
       (inR gCols (1 : Int) (4294967296 : Int))))) ∧
       (∀ z018 : Int,
       (∀ i119 : Int,
       (∀ z120 : Int,
       ((inR z018 (0 : Int) (gCols - (1 : Int))) →
       ((pos0 i119) →
        (True ∧
         (b1 = b1 ∧
         (True ∧
         (b1 = b1 ∧
         (Exists (fun (zb21 : Int) => (Exists (fun (zr22 : Int) => (Exists (fun (zc23 : Int) => (Exists (fun (i124 : Int) => (Exists (fun (z125 : Int) => (((Value.agg (List.toArray [(Value.int IntKind.i64 z06), (Value.int IntKind.i64 z012), (Value.int IntKind.i64 z018)])) = (Value.agg (List.toArray [(Value.int IntKind.i64 zb21), (Value.int IntKind.i64 zr22), (Value.int IntKind.i64 zc23)])) ∧
         ((cb = cb ∧
         (94 = 94 ∧
         [(Value.slice co cn cc), (Value.int IntKind.i64 i119), (Value.int IntKind.i64 z120)] = [(Value.slice co cn cc), (Value.int IntKind.i64 i124), (Value.int IntKind.i64 z125)])) ∧
         (True ∧
         Bool.true = Bool.true))) ∧
         (((inR zb21 (0 : Int) (7 : Int)) ∧
         ((inR zr22 (0 : Int) (15 : Int)) ∧
         (inR zc23 (0 : Int) (7 : Int)))) ∧
         (pos0 i124))))))))))))))))))))))))))))))))))))))))))))))))))))) := by kernel_rfl
theorem sAddrDC_any (cb : Nat) (co : Option Addr) (cn cc : Nat) (ci cz : Int) (cu : Nat → Int) (gGroups : Int) (gBanks : Int) (gRows : Int) (gCols : Int) (w : World) (hs : HS ⟨w, (Ch.cells cb 94 [.sl 1 co cn cc, .int ci, .int cz]).at⟩ [.cells cb 94 [.sl 1 co cn cc, .int ci, .int cz], .row ⟨false, co, 0, 1, cn, 0, [fun i => .u8 (cu i)]⟩] w) (hcode : codeC cn cu) (hci : pos0 ci) (hpre : geoC gGroups gBanks gRows gCols) : Calls Try.prog 69 #[.pointer (some ⟨cb, 0, none⟩), .agg #[.int .i64 gGroups, .int .i64 gBanks, .int .i64 gRows, .int .i64 gCols]] w fun e w' => ∃ (zb : Int) (zr : Int) (zc : Int) (i1 z1 : Int) , ((inR zb 0 7 ∧ inR zr 0 15 ∧ inR zc 0 7) ∧ pos0 i1) ∧ e = .returned (.agg #[.int .i64 (zb), .int .i64 (zr), .int .i64 (zc)]) ∧ HS ⟨w, (Ch.cells cb 94 [.sl 1 co cn cc, .int ci, .int cz]).at⟩ [.cells cb 94 [.sl 1 co cn cc, .int i1, .int z1]] w' := by
  refine fn_ok mixed (E := {tb := [(55, sBelow), (32, sBankC)], D := fun _ => [0]}) ⟨sBelow_ok, sBankC_ok, trivial⟩ Try.func69 (fun _ _ => loopsOK_nil _ _ _) (@Eq.mpr _ _ (sAddrDC_T cb co cn cc ci cz cu gGroups gBanks gRows gCols) ?_) hs (fun v ch' w' ⟨zb, zr, zc, i1, z1, hk, hf⟩ hs => ⟨zb, zr, zc, i1, z1, hf, by rw [hk.1], hk.hs hs⟩)
  clear hs
  have hcn : cn ≤ 1048576 := hcode.1
  have hci0 : 0 ≤ ci := hci
  have a1 := hpre.1; have a2 := hpre.2.1; have a3 := hpre.2.2.1; have a4 := hpre.2.2.2
  repeat' (first
    | with_reducible exact rfl
    | exact True.intro
    | with_reducible assumption
    | refine And.intro ?_ ?_
    | apply Exists.intro
    | (intro h; exfalso; simp at h; done)
    | (intro h; replace h := of_decide_eq_true h; first | (exfalso; omega) | skip)
    | (intro h; replace h := of_decide_eq_false h; first | (exfalso; omega) | skip)
    | intro _
    | omega)
def sAddrD : Sm := fun args ch k =>
  match args with
  | [.a (.c (.ptr id b off)), .a (.agg [c0, c1, c2, c3])] =>
    match off, ch[id]? with
    | 0, some (.cells b' t [.sl j ao n cap, ic, hc]) =>
      match ch[j]?, asI ic, asI hc, ints [c0, c1, c2, c3] with
      | some (.row r), some i, some z, some [gGroups, gBanks, gRows, gCols] => ∃ u : Nat → Int, ((b = b' ∧ t = 94 ∧ ao = r.ao ∧ n = r.n ∧ r.fld = [fun i => .u8 (u i)]) ∧ codeC n u ∧ pos0 i ∧ geoC gGroups gBanks gRows gCols) ∧ ∀ (zb : Int), ∀ (zr : Int), ∀ (zc : Int), ∀ (i1 z1 : Int), (inR zb 0 7 ∧ inR zr 0 15 ∧ inR zc 0 7) → pos0 i1 → k (.a (.agg [.int (zb), .int (zr), .int (zc)])) (ch.set id (.cells b 94 [.sl j ao n cap, .int i1, .int z1])) [id]
      | _, _, _, _ => False
    | _, _ => False
  | _ => False
theorem sAddrD_ok : SmOK Try.prog 69 sAddrD := by
  refine smTurnN Try.call69 fun args ch k w X h0 hs => ?_
  unfold sAddrD at h0
  split at h0
  · rename_i id b off c0 c1 c2 c3
    split at h0
    · rename_i b' t j ao n cap ic hc hid
      split at h0
      · rename_i r i z gGroups gBanks gRows gCols hj hi hz hI
        obtain ⟨u, ⟨⟨rfl, rfl, hao, hn, hf⟩, hcode, hi0, hpre⟩, h0⟩ := h0
        obtain ⟨ec0, hI⟩ := ints_cons hI
        obtain ⟨ec1, hI⟩ := ints_cons hI
        obtain ⟨ec2, hI⟩ := ints_cons hI
        obtain ⟨ec3, hI⟩ := ints_cons hI
        refine ⟨id, _, hid, rfl, ?_⟩
        simp only [List.map_cons, List.map_nil, den_a, den_c, SA.den, ec0, ec1, ec2, ec3]
        exact Calls.mono (sAddrDC_any b ao n cap i z u gGroups gBanks gRows gCols w (hs.cur' hid hj hi hz hao hn hf) hcode hi0 hpre) fun e w' ⟨zb, zr, zc, i1, z1, ⟨hfa, hp⟩, he, hn'⟩ => ⟨.a (.agg [.int (zb), .int (zr), .int (zc)]), _, [], he, hn'.recur, at_cells, rfl, by simpa using h0 zb zr zc i1 z1 hfa hp⟩
      · exact h0.elim
    · exact h0.elim
  · exact h0.elim
theorem sCmdDC_T (cb : Nat) (co : Option Addr) (cn cc : Nat) (ci cz : Int) (cu : Nat → Int) (gGroups : Int) (gBanks : Int) (gRows : Int) (gCols : Int) : (exFn Try.prog {tb := [(55, sBelow), (69, sAddrD), (70, sUse)], D := fun _ => [0]} 400 Try.f54 ([.a (.c (.ptr 0 cb 0)), .a (.agg [.int gGroups, .int gBanks, .int gRows, .int gCols])]) ([.cells cb 94 [.sl 1 co cn cc, .int ci, .int cz], .row ⟨false, co, 0, 1, cn, 0, [fun i => .u8 (cu i)]⟩]) (fun v ch => ∃ (zk : Int) (zb : Int) (zr : Int) (zc : Int) (i1 z1 : Int) , OutC v ch (.agg #[.int .i64 (zk), .int .i64 (zb), .int .i64 (zr), .int .i64 (zc)]) (.cells cb 94 [.sl 1 co cn cc, .int i1, .int z1]) [] ∧ (formB zk zb zr zc = true) ∧ pos0 i1)) = (
  (∀ b0 : Nat,
  (∀ b1 : Nat,
  (Exists (fun (u2 : (Nat →
  Int)) => (((cb = cb ∧
  (94 = 94 ∧
  (co = co ∧
  (cn = cn ∧
  [(fun (i3 : Nat) => (SC.u8 (cu i3)))] = [(fun (i4 : Nat) => (SC.u8 (u2 i4)))])))) ∧
  ((codeC cn u2) ∧
  ((pos0 ci) ∧
  (inR (9 : Int) (1 : Int) (4294967296 : Int))))) ∧
  (∀ z05 : Int,
  (∀ i16 : Int,
  (∀ z17 : Int,
  ((inR z05 (0 : Int) ((9 : Int) - (1 : Int))) →
  ((pos0 i16) →
   ((rng ((1 : Int) + z05)) ∧
    (∀ b8 : Nat,
    (b8 = b8 ∧
    (b0 = b0 ∧
    (Exists (fun (u9 : (Nat →
    Int)) => (((cb = cb ∧
    (94 = 94 ∧
    (co = co ∧
    (cn = cn ∧
    [(fun (i10 : Nat) => (SC.u8 (cu i10)))] = [(fun (i11 : Nat) => (SC.u8 (u9 i11)))])))) ∧
    ((codeC cn u9) ∧
    ((pos0 i16) ∧
    (geoC gGroups gBanks gRows gCols)))) ∧
    (∀ zb12 : Int,
    (∀ zr13 : Int,
    (∀ zc14 : Int,
    (∀ i115 : Int,
    (∀ z116 : Int,
    (((inR zb12 (0 : Int) (7 : Int)) ∧
    ((inR zr13 (0 : Int) (15 : Int)) ∧
    (inR zc14 (0 : Int) (7 : Int)))) →
    ((pos0 i115) →
     (∀ b17 : Nat,
      (b17 = b17 ∧
      (b8 = b8 ∧
      (((btw ((1 : Int) + z05) (1 : Int) (5 : Int)) = Bool.true →
      (b17 = b17 ∧
       (b8 = b8 ∧
       (((((1 : Int) + z05) == (1 : Int)) = Bool.true →
       (b17 = b17 ∧
        (b8 = b8 ∧
        (((colU ((1 : Int) + z05)) = Bool.true →
        (b17 = b17 ∧
         (b8 = b8 ∧
         (b8 = b8 ∧
         (b1 = b1 ∧
         (b1 = b1 ∧
         (Exists (fun (zk18 : Int) => (Exists (fun (zb19 : Int) => (Exists (fun (zr20 : Int) => (Exists (fun (zc21 : Int) => (Exists (fun (i122 : Int) => (Exists (fun (z123 : Int) => (((Value.agg (List.toArray [(Value.int IntKind.i64 ((1 : Int) + z05)), (Value.int IntKind.i64 zb12), (Value.int IntKind.i64 zr13), (Value.int IntKind.i64 zc14)])) = (Value.agg (List.toArray [(Value.int IntKind.i64 zk18), (Value.int IntKind.i64 zb19), (Value.int IntKind.i64 zr20), (Value.int IntKind.i64 zc21)])) ∧
         ((cb = cb ∧
         (94 = 94 ∧
         [(Value.slice co cn cc), (Value.int IntKind.i64 i115), (Value.int IntKind.i64 z116)] = [(Value.slice co cn cc), (Value.int IntKind.i64 i122), (Value.int IntKind.i64 z123)])) ∧
         (True ∧
         Bool.true = Bool.true))) ∧
         ((formB zk18 zb19 zr20 zc21) = Bool.true ∧
         (pos0 i122))))))))))))))))))))) ∧
        ((colU ((1 : Int) + z05)) = Bool.false →
        (b8 = b8 ∧
         (b1 = b1 ∧
         (b1 = b1 ∧
         (Exists (fun (zk24 : Int) => (Exists (fun (zb25 : Int) => (Exists (fun (zr26 : Int) => (Exists (fun (zc27 : Int) => (Exists (fun (i128 : Int) => (Exists (fun (z129 : Int) => (((Value.agg (List.toArray [(Value.int IntKind.i64 ((1 : Int) + z05)), (Value.int IntKind.i64 zb12), (Value.int IntKind.i64 zr13), (Value.int IntKind.i64 (0 : Int))])) = (Value.agg (List.toArray [(Value.int IntKind.i64 zk24), (Value.int IntKind.i64 zb25), (Value.int IntKind.i64 zr26), (Value.int IntKind.i64 zc27)])) ∧
         ((cb = cb ∧
         (94 = 94 ∧
         [(Value.slice co cn cc), (Value.int IntKind.i64 i115), (Value.int IntKind.i64 z116)] = [(Value.slice co cn cc), (Value.int IntKind.i64 i128), (Value.int IntKind.i64 z129)])) ∧
         (True ∧
         Bool.true = Bool.true))) ∧
         ((formB zk24 zb25 zr26 zc27) = Bool.true ∧
         (pos0 i128))))))))))))))))))))))) ∧
       ((((1 : Int) + z05) == (1 : Int)) = Bool.false →
       (((colU ((1 : Int) + z05)) = Bool.true →
        (b17 = b17 ∧
         (b8 = b8 ∧
         (b8 = b8 ∧
         (b1 = b1 ∧
         (b1 = b1 ∧
         (Exists (fun (zk30 : Int) => (Exists (fun (zb31 : Int) => (Exists (fun (zr32 : Int) => (Exists (fun (zc33 : Int) => (Exists (fun (i134 : Int) => (Exists (fun (z135 : Int) => (((Value.agg (List.toArray [(Value.int IntKind.i64 ((1 : Int) + z05)), (Value.int IntKind.i64 zb12), (Value.int IntKind.i64 (0 : Int)), (Value.int IntKind.i64 zc14)])) = (Value.agg (List.toArray [(Value.int IntKind.i64 zk30), (Value.int IntKind.i64 zb31), (Value.int IntKind.i64 zr32), (Value.int IntKind.i64 zc33)])) ∧
         ((cb = cb ∧
         (94 = 94 ∧
         [(Value.slice co cn cc), (Value.int IntKind.i64 i115), (Value.int IntKind.i64 z116)] = [(Value.slice co cn cc), (Value.int IntKind.i64 i134), (Value.int IntKind.i64 z135)])) ∧
         (True ∧
         Bool.true = Bool.true))) ∧
         ((formB zk30 zb31 zr32 zc33) = Bool.true ∧
         (pos0 i134))))))))))))))))))))) ∧
        ((colU ((1 : Int) + z05)) = Bool.false →
        (b8 = b8 ∧
         (b1 = b1 ∧
         (b1 = b1 ∧
         (Exists (fun (zk36 : Int) => (Exists (fun (zb37 : Int) => (Exists (fun (zr38 : Int) => (Exists (fun (zc39 : Int) => (Exists (fun (i140 : Int) => (Exists (fun (z141 : Int) => (((Value.agg (List.toArray [(Value.int IntKind.i64 ((1 : Int) + z05)), (Value.int IntKind.i64 zb12), (Value.int IntKind.i64 (0 : Int)), (Value.int IntKind.i64 (0 : Int))])) = (Value.agg (List.toArray [(Value.int IntKind.i64 zk36), (Value.int IntKind.i64 zb37), (Value.int IntKind.i64 zr38), (Value.int IntKind.i64 zc39)])) ∧
         ((cb = cb ∧
         (94 = 94 ∧
         [(Value.slice co cn cc), (Value.int IntKind.i64 i115), (Value.int IntKind.i64 z116)] = [(Value.slice co cn cc), (Value.int IntKind.i64 i140), (Value.int IntKind.i64 z141)])) ∧
         (True ∧
         Bool.true = Bool.true))) ∧
         ((formB zk36 zb37 zr38 zc39) = Bool.true ∧
         (pos0 i140))))))))))))))))))))))))) ∧
      ((btw ((1 : Int) + z05) (1 : Int) (5 : Int)) = Bool.false →
      (((((1 : Int) + z05) == (1 : Int)) = Bool.true →
       (b17 = b17 ∧
        (b8 = b8 ∧
        (((colU ((1 : Int) + z05)) = Bool.true →
        (b17 = b17 ∧
         (b8 = b8 ∧
         (b8 = b8 ∧
         (b1 = b1 ∧
         (b1 = b1 ∧
         (Exists (fun (zk42 : Int) => (Exists (fun (zb43 : Int) => (Exists (fun (zr44 : Int) => (Exists (fun (zc45 : Int) => (Exists (fun (i146 : Int) => (Exists (fun (z147 : Int) => (((Value.agg (List.toArray [(Value.int IntKind.i64 ((1 : Int) + z05)), (Value.int IntKind.i64 (0 : Int)), (Value.int IntKind.i64 zr13), (Value.int IntKind.i64 zc14)])) = (Value.agg (List.toArray [(Value.int IntKind.i64 zk42), (Value.int IntKind.i64 zb43), (Value.int IntKind.i64 zr44), (Value.int IntKind.i64 zc45)])) ∧
         ((cb = cb ∧
         (94 = 94 ∧
         [(Value.slice co cn cc), (Value.int IntKind.i64 i115), (Value.int IntKind.i64 z116)] = [(Value.slice co cn cc), (Value.int IntKind.i64 i146), (Value.int IntKind.i64 z147)])) ∧
         (True ∧
         Bool.true = Bool.true))) ∧
         ((formB zk42 zb43 zr44 zc45) = Bool.true ∧
         (pos0 i146))))))))))))))))))))) ∧
        ((colU ((1 : Int) + z05)) = Bool.false →
        (b8 = b8 ∧
         (b1 = b1 ∧
         (b1 = b1 ∧
         (Exists (fun (zk48 : Int) => (Exists (fun (zb49 : Int) => (Exists (fun (zr50 : Int) => (Exists (fun (zc51 : Int) => (Exists (fun (i152 : Int) => (Exists (fun (z153 : Int) => (((Value.agg (List.toArray [(Value.int IntKind.i64 ((1 : Int) + z05)), (Value.int IntKind.i64 (0 : Int)), (Value.int IntKind.i64 zr13), (Value.int IntKind.i64 (0 : Int))])) = (Value.agg (List.toArray [(Value.int IntKind.i64 zk48), (Value.int IntKind.i64 zb49), (Value.int IntKind.i64 zr50), (Value.int IntKind.i64 zc51)])) ∧
         ((cb = cb ∧
         (94 = 94 ∧
         [(Value.slice co cn cc), (Value.int IntKind.i64 i115), (Value.int IntKind.i64 z116)] = [(Value.slice co cn cc), (Value.int IntKind.i64 i152), (Value.int IntKind.i64 z153)])) ∧
         (True ∧
         Bool.true = Bool.true))) ∧
         ((formB zk48 zb49 zr50 zc51) = Bool.true ∧
         (pos0 i152))))))))))))))))))))))) ∧
       ((((1 : Int) + z05) == (1 : Int)) = Bool.false →
       (((colU ((1 : Int) + z05)) = Bool.true →
        (b17 = b17 ∧
         (b8 = b8 ∧
         (b8 = b8 ∧
         (b1 = b1 ∧
         (b1 = b1 ∧
         (Exists (fun (zk54 : Int) => (Exists (fun (zb55 : Int) => (Exists (fun (zr56 : Int) => (Exists (fun (zc57 : Int) => (Exists (fun (i158 : Int) => (Exists (fun (z159 : Int) => (((Value.agg (List.toArray [(Value.int IntKind.i64 ((1 : Int) + z05)), (Value.int IntKind.i64 (0 : Int)), (Value.int IntKind.i64 (0 : Int)), (Value.int IntKind.i64 zc14)])) = (Value.agg (List.toArray [(Value.int IntKind.i64 zk54), (Value.int IntKind.i64 zb55), (Value.int IntKind.i64 zr56), (Value.int IntKind.i64 zc57)])) ∧
         ((cb = cb ∧
         (94 = 94 ∧
         [(Value.slice co cn cc), (Value.int IntKind.i64 i115), (Value.int IntKind.i64 z116)] = [(Value.slice co cn cc), (Value.int IntKind.i64 i158), (Value.int IntKind.i64 z159)])) ∧
         (True ∧
         Bool.true = Bool.true))) ∧
         ((formB zk54 zb55 zr56 zc57) = Bool.true ∧
         (pos0 i158))))))))))))))))))))) ∧
        ((colU ((1 : Int) + z05)) = Bool.false →
        (b8 = b8 ∧
         (b1 = b1 ∧
         (b1 = b1 ∧
         (Exists (fun (zk60 : Int) => (Exists (fun (zb61 : Int) => (Exists (fun (zr62 : Int) => (Exists (fun (zc63 : Int) => (Exists (fun (i164 : Int) => (Exists (fun (z165 : Int) => (((Value.agg (List.toArray [(Value.int IntKind.i64 ((1 : Int) + z05)), (Value.int IntKind.i64 (0 : Int)), (Value.int IntKind.i64 (0 : Int)), (Value.int IntKind.i64 (0 : Int))])) = (Value.agg (List.toArray [(Value.int IntKind.i64 zk60), (Value.int IntKind.i64 zb61), (Value.int IntKind.i64 zr62), (Value.int IntKind.i64 zc63)])) ∧
         ((cb = cb ∧
         (94 = 94 ∧
         [(Value.slice co cn cc), (Value.int IntKind.i64 i115), (Value.int IntKind.i64 z116)] = [(Value.slice co cn cc), (Value.int IntKind.i64 i164), (Value.int IntKind.i64 z165)])) ∧
         (True ∧
         Bool.true = Bool.true))) ∧
         ((formB zk60 zb61 zr62 zc63) = Bool.true ∧
         (pos0 i164)))))))))))))))))))))))))))))))))))))))))))))))))))) := by kernel_rfl
theorem sCmdDC_any (cb : Nat) (co : Option Addr) (cn cc : Nat) (ci cz : Int) (cu : Nat → Int) (gGroups : Int) (gBanks : Int) (gRows : Int) (gCols : Int) (w : World) (hs : HS ⟨w, (Ch.cells cb 94 [.sl 1 co cn cc, .int ci, .int cz]).at⟩ [.cells cb 94 [.sl 1 co cn cc, .int ci, .int cz], .row ⟨false, co, 0, 1, cn, 0, [fun i => .u8 (cu i)]⟩] w) (hcode : codeC cn cu) (hci : pos0 ci) (hpre : geoC gGroups gBanks gRows gCols) : Calls Try.prog 54 #[.pointer (some ⟨cb, 0, none⟩), .agg #[.int .i64 gGroups, .int .i64 gBanks, .int .i64 gRows, .int .i64 gCols]] w fun e w' => ∃ (zk : Int) (zb : Int) (zr : Int) (zc : Int) (i1 z1 : Int) , ((formB zk zb zr zc = true) ∧ pos0 i1) ∧ e = .returned (.agg #[.int .i64 (zk), .int .i64 (zb), .int .i64 (zr), .int .i64 (zc)]) ∧ HS ⟨w, (Ch.cells cb 94 [.sl 1 co cn cc, .int ci, .int cz]).at⟩ [.cells cb 94 [.sl 1 co cn cc, .int i1, .int z1]] w' := by
  refine fn_ok mixed (E := {tb := [(55, sBelow), (69, sAddrD), (70, sUse)], D := fun _ => [0]}) ⟨sBelow_ok, sAddrD_ok, sUse_ok_uses, trivial⟩ Try.func54 (fun _ _ => loopsOK_nil _ _ _) (@Eq.mpr _ _ (sCmdDC_T cb co cn cc ci cz cu gGroups gBanks gRows gCols) ?_) hs (fun v ch' w' ⟨zk, zb, zr, zc, i1, z1, hk, hf⟩ hs => ⟨zk, zb, zr, zc, i1, z1, hf, by rw [hk.1], hk.hs hs⟩)
  clear hs
  have hcn : cn ≤ 1048576 := hcode.1
  have hci0 : 0 ≤ ci := hci
  have a1 := hpre.1; have a2 := hpre.2.1; have a3 := hpre.2.2.1; have a4 := hpre.2.2.2
  repeat' (first
    | with_reducible exact rfl
    | exact True.intro
    | with_reducible assumption
    | (refine form_mk ⟨by omega, by omega⟩ ⟨fun h => ?_, fun h => ?_⟩ ⟨fun h => ?_, fun h => ?_⟩ ⟨fun h => ?_, fun h => ?_⟩)
    | (exfalso; simp_all; done)
    | refine And.intro ?_ ?_
    | apply Exists.intro
    | (intro h; exfalso; simp at h; done)
    | (intro h; replace h := of_decide_eq_true h; first | (exfalso; omega) | skip)
    | (intro h; replace h := of_decide_eq_false h; first | (exfalso; omega) | skip)
    | intro _
    | omega)
def sCmdD : Sm := fun args ch k =>
  match args with
  | [.a (.c (.ptr id b off)), .a (.agg [c0, c1, c2, c3])] =>
    match off, ch[id]? with
    | 0, some (.cells b' t [.sl j ao n cap, ic, hc]) =>
      match ch[j]?, asI ic, asI hc, ints [c0, c1, c2, c3] with
      | some (.row r), some i, some z, some [gGroups, gBanks, gRows, gCols] => ∃ u : Nat → Int, ((b = b' ∧ t = 94 ∧ ao = r.ao ∧ n = r.n ∧ r.fld = [fun i => .u8 (u i)]) ∧ codeC n u ∧ pos0 i ∧ geoC gGroups gBanks gRows gCols) ∧ ∀ (zk : Int), ∀ (zb : Int), ∀ (zr : Int), ∀ (zc : Int), ∀ (i1 z1 : Int), (formB zk zb zr zc = true) → pos0 i1 → k (.a (.agg [.int (zk), .int (zb), .int (zr), .int (zc)])) (ch.set id (.cells b 94 [.sl j ao n cap, .int i1, .int z1])) [id]
      | _, _, _, _ => False
    | _, _ => False
  | _ => False
theorem sCmdD_ok : SmOK Try.prog 54 sCmdD := by
  refine smTurnN Try.call54 fun args ch k w X h0 hs => ?_
  unfold sCmdD at h0
  split at h0
  · rename_i id b off c0 c1 c2 c3
    split at h0
    · rename_i b' t j ao n cap ic hc hid
      split at h0
      · rename_i r i z gGroups gBanks gRows gCols hj hi hz hI
        obtain ⟨u, ⟨⟨rfl, rfl, hao, hn, hf⟩, hcode, hi0, hpre⟩, h0⟩ := h0
        obtain ⟨ec0, hI⟩ := ints_cons hI
        obtain ⟨ec1, hI⟩ := ints_cons hI
        obtain ⟨ec2, hI⟩ := ints_cons hI
        obtain ⟨ec3, hI⟩ := ints_cons hI
        refine ⟨id, _, hid, rfl, ?_⟩
        simp only [List.map_cons, List.map_nil, den_a, den_c, SA.den, ec0, ec1, ec2, ec3]
        exact Calls.mono (sCmdDC_any b ao n cap i z u gGroups gBanks gRows gCols w (hs.cur' hid hj hi hz hao hn hf) hcode hi0 hpre) fun e w' ⟨zk, zb, zr, zc, i1, z1, ⟨hfa, hp⟩, he, hn'⟩ => ⟨.a (.agg [.int (zk), .int (zb), .int (zr), .int (zc)]), _, [], he, hn'.recur, at_cells, rfl, by simpa using h0 zk zb zr zc i1 z1 hfa hp⟩
      · exact h0.elim
    · exact h0.elim
  · exact h0.elim
theorem sDrawCC_T (co : Option Addr) (cn cc : Nat) (cu : Nat → Int) : (exFn Try.prog {tb := [(52, sNew), (53, sGeoD), (54, sCmdD)], D := fun _ => [1, 2, 3]} 400 Try.f21 ([.a (.c (.sl 0 co cn cc))]) ([.row ⟨false, co, 0, 1, cn, 0, [fun i => .u8 (cu i)]⟩]) (fun v ch => ∃ (yg : Int) (yb : Int) (yr : Int) (yc : Int) (zk : Int) (zb : Int) (zr : Int) (zc : Int) , OutR v ch (.tuple #[.agg #[.int .i64 (yg), .int .i64 (yb), .int .i64 (yr), .int .i64 (yc)], .agg #[.int .i64 (zk), .int .i64 (zb), .int .i64 (zr), .int .i64 (zc)]]) [] ∧ (geoC yg yb yr yc ∧ formB zk zb zr zc = true))) = (
  (∀ b0 : Nat,
  (∀ b1 : Nat,
  (Exists (fun (u2 : (Nat →
  Int)) => (((co = co ∧
  (cn = cn ∧
  [(fun (i3 : Nat) => (SC.u8 (cu i3)))] = [(fun (i4 : Nat) => (SC.u8 (u2 i4)))])) ∧
  (codeC cn u2)) ∧
  (∀ b5 : Nat,
  (∀ z6 : Int,
  (Exists (fun (u7 : (Nat →
  Int)) => (((b5 = b5 ∧
  (94 = 94 ∧
  (co = co ∧
  (cn = cn ∧
  [(fun (i8 : Nat) => (SC.u8 (cu i8)))] = [(fun (i9 : Nat) => (SC.u8 (u7 i9)))])))) ∧
  ((codeC cn u7) ∧
  (pos0 (0 : Int)))) ∧
  (∀ zg10 : Int,
  (∀ zb11 : Int,
  (∀ zr12 : Int,
  (∀ zc13 : Int,
  (∀ i114 : Int,
  (∀ z115 : Int,
  ((geoC zg10 zb11 zr12 zc13) →
  ((pos0 i114) →
   (∀ b16 : Nat,
    (b16 = b16 ∧
    (b16 = b16 ∧
    (b16 = b16 ∧
    (Exists (fun (u17 : (Nat →
    Int)) => (((b5 = b5 ∧
    (94 = 94 ∧
    (co = co ∧
    (cn = cn ∧
    [(fun (i18 : Nat) => (SC.u8 (cu i18)))] = [(fun (i19 : Nat) => (SC.u8 (u17 i19)))])))) ∧
    ((codeC cn u17) ∧
    ((pos0 i114) ∧
    (geoC zg10 zb11 zr12 zc13)))) ∧
    (∀ zk20 : Int,
    (∀ zb21 : Int,
    (∀ zr22 : Int,
    (∀ zc23 : Int,
    (∀ i124 : Int,
    (∀ z125 : Int,
    ((formB zk20 zb21 zr22 zc23) = Bool.true →
    ((pos0 i124) →
     (True ∧
      (b0 = b0 ∧
      (True ∧
      (b1 = b1 ∧
      (True ∧
      (b0 = b0 ∧
      (b1 = b1 ∧
      (Exists (fun (yg26 : Int) => (Exists (fun (yb27 : Int) => (Exists (fun (yr28 : Int) => (Exists (fun (yc29 : Int) => (Exists (fun (zk30 : Int) => (Exists (fun (zb31 : Int) => (Exists (fun (zr32 : Int) => (Exists (fun (zc33 : Int) => (((Value.tuple (List.toArray [(Value.agg (List.toArray [(Value.int IntKind.i64 zg10), (Value.int IntKind.i64 zb11), (Value.int IntKind.i64 zr12), (Value.int IntKind.i64 zc13)])), (Value.agg (List.toArray [(Value.int IntKind.i64 zk20), (Value.int IntKind.i64 zb21), (Value.int IntKind.i64 zr22), (Value.int IntKind.i64 zc23)]))])) = (Value.tuple (List.toArray [(Value.agg (List.toArray [(Value.int IntKind.i64 yg26), (Value.int IntKind.i64 yb27), (Value.int IntKind.i64 yr28), (Value.int IntKind.i64 yc29)])), (Value.agg (List.toArray [(Value.int IntKind.i64 zk30), (Value.int IntKind.i64 zb31), (Value.int IntKind.i64 zr32), (Value.int IntKind.i64 zc33)]))])) ∧
      (True ∧
      Bool.true = Bool.true)) ∧
      ((geoC yg26 yb27 yr28 yc29) ∧
      (formB zk30 zb31 zr32 zc33) = Bool.true))))))))))))))))))))))))))))))))))))))))))))))))))))))))))) := by kernel_rfl
theorem sDrawCC_any (co : Option Addr) (cn cc : Nat) (cu : Nat → Int) (w : World) (hr : Row.sat w ⟨false, co, 0, 1, cn, 0, [fun i => .u8 (cu i)]⟩) (hcode : codeC cn cu) : Calls Try.prog 21 #[.slice co cn cc] w fun e w' => ∃ (yg : Int) (yb : Int) (yr : Int) (yc : Int) (zk : Int) (zb : Int) (zr : Int) (zc : Int) , ((geoC yg yb yr yc ∧ formB zk zb zr zc = true)) ∧ e = .returned (.tuple #[.agg #[.int .i64 (yg), .int .i64 (yb), .int .i64 (yr), .int .i64 (yc)], .agg #[.int .i64 (zk), .int .i64 (zb), .int .i64 (zr), .int .i64 (zc)]]) ∧ HS ⟨w, fun _ => False⟩ [] w' := by
  refine fn_ok mixed (E := {tb := [(52, sNew), (53, sGeoD), (54, sCmdD)], D := fun _ => [1, 2, 3]}) ⟨sNew_ok, sGeoD_ok, sCmdD_ok, trivial⟩ Try.func21 (fun _ _ => loopsOK_nil _ _ _) (@Eq.mpr _ _ (sDrawCC_T co cn cc cu) ?_) (HS.rows (fun _ => False) [⟨false, co, 0, 1, cn, 0, [fun i => .u8 (cu i)]⟩] (by simpa using hr)) (fun v ch' w' ⟨yg, yb, yr, yc, zk, zb, zr, zc, hk, hf⟩ hs => ⟨yg, yb, yr, yc, zk, zb, zr, zc, hf, by rw [hk.1], hk.hs hs⟩)
  clear hr
  have hcn : cn ≤ 1048576 := hcode.1
  repeat' (first
    | with_reducible exact rfl
    | exact True.intro
    | with_reducible assumption
    | refine And.intro ?_ ?_
    | apply Exists.intro
    | (intro h; exfalso; simp at h; done)
    | (intro h; replace h := of_decide_eq_true h; first | (exfalso; omega) | skip)
    | (intro h; replace h := of_decide_eq_false h; first | (exfalso; omega) | skip)
    | intro _
    | omega)
def sDrawC : Sm := fun args ch k =>
  match args with
  | [.a (.c (.sl j ao n cap))] =>
    match ch[j]? with
    | some (.row r) => ∃ u : Nat → Int, ((ao = r.ao ∧ n = r.n ∧ r.fld = [fun i => .u8 (u i)]) ∧ codeC n u) ∧ ∀ (yg : Int), ∀ (yb : Int), ∀ (yr : Int), ∀ (yc : Int), ∀ (zk : Int), ∀ (zb : Int), ∀ (zr : Int), ∀ (zc : Int), (geoC yg yb yr yc ∧ formB zk zb zr zc = true) → k (.tup [.agg [.int (yg), .int (yb), .int (yr), .int (yc)], .agg [.int (zk), .int (zb), .int (zr), .int (zc)]]) (ch ++ []) []
    | _ => False
  | _ => False
theorem sDrawC_ok : SmOK Try.prog 21 sDrawC := by
  refine smN Try.call21 fun args ch k w X h0 hs => ?_
  unfold sDrawC at h0
  split at h0
  · rename_i j ao n cap
    split at h0
    · rename_i r hj
      obtain ⟨u, ⟨⟨rfl, rfl, hf⟩, hcode⟩, h0⟩ := h0
      simp only [List.map_cons, List.map_nil, den_a, den_c, SA.den, den_sl]
      exact Calls.mono (sDrawCC_any r.ao r.n cap u  w (seenAs' (hs.sat j _ hj) hf rfl) hcode) fun e w' ⟨yg, yb, yr, yc, zk, zb, zr, zc, hfa, he, hs'⟩ => ⟨.tup [.agg [.int (yg), .int (yb), .int (yr), .int (yc)], .agg [.int (zk), .int (zb), .int (zr), .int (zc)]], [], he, hs', rfl, h0 yg yb yr yc zk zb zr zc hfa⟩
    · exact h0.elim
  · exact h0.elim
end Go.Proofs.Ytkfinkolllpcgaa

/-
  Trees checked.
-/
import Derived.Test.YtdaeikjpnejmdaaSxOTO
import Derived.Test.YtdaeikjpnejmdaaSxOpen
namespace Go.Proofs.Ytdaeikjpnejmdaa
open Go.RowKit
set_option maxRecDepth 100000
set_option maxHeartbeats 8000000

theorem law_FnExactTreeOk_T (aKey : Int) (v0 : Value) (rs0 : List Row) : (exFn Try.prog {tb := [(43, sToTreeO), (45, sEqTreeO), (46, sMarkTreeO), (47, sHeldTreeO), (41, sSzTreeO), (50, sTOkO), (54, sTOkO)]} 400 Try.f13 ([.a (.c (.int aKey)), .a (.c (.obj 0 v0))]) ([.obj false rs0]) (fun v _ => v.den = .bool true)) = (
  ((wholeC Bool.true v0 3) ∧
  (∀ b0 : Nat,
  (b0 = b0 ∧
  (Exists (fun (x1 : TreeD) => (((isTree v0 x1 rs0) ∧
  ((lensTree x1) ∧
  (szK (1048576 : Int)))) ∧
  ((Value.bool Bool.true) = (Value.bool Bool.true) ∧
  (∀ z2 : Int,
  ((szO z2 (1048576 : Int)) →
  ((capTree x1) →
   (((decide (z2 < (0 : Int))) = Bool.true →
    (Value.bool Bool.true) = (Value.bool Bool.true)) ∧
    ((decide (z2 < (0 : Int))) = Bool.false →
    (b0 = b0 ∧
     (Exists (fun (x3 : TreeD) => (((isTree v0 x3 rs0) ∧
     (capTree x3)) ∧
     (∀ v'4 : Value,
     (∀ rs'5 : (List Row),
     ((isTree v'4 x3 rs'5) →
     (Exists (fun (t6 : TreeD) => ((isTree v'4 t6 rs'5) ∧
      (b0 = b0 ∧
      (Exists (fun (x7 : TreeD) => (((isTree v0 x7 rs0) ∧
      (capTree x7)) ∧
      (∀ v'8 : Value,
      (∀ rs'9 : (List Row),
      ((isTree v'8 x7 rs'9) →
      (∀ b10 : Nat,
       ((b10 = b10 ∧
       (wholeC Bool.true v'8 3)) ∧
       (b10 = b10 ∧
       (Exists (fun (t11 : TreeD) => ((isTree v'8 t11 rs'9) ∧
       ((((okT aKey t11) != (okT aKey t6)) = Bool.true →
       (Value.bool Bool.false) = (Value.bool Bool.true)) ∧
       (((okT aKey t11) != (okT aKey t6)) = Bool.false →
       (b10 = b10 ∧
        (b0 = b0 ∧
        (Exists (fun (x12 : TreeD) => (((isTree v0 x12 rs0) ∧
        (capTree x12)) ∧
        (∀ v'13 : Value,
        (∀ rs'14 : (List Row),
        ((isTree v'13 x12 rs'14) →
        (True ∧
         (Exists (fun (x15 : TreeD) => (((isTree v'8 x15 rs'9) ∧
         ((isTree v'13 x15 rs'14) ∧
         (capTree x15))) ∧
         (True ∧
         (Value.bool Bool.true) = (Value.bool Bool.true)))))))))))))))))))))))))))))))))))))))))))))))))))) := by kernel_rfl
theorem law_FnExactTreeOk_any (aKey : Int) (v0 : Value) (rs0 : List Row) (W : World) (baKey : -9223372036854775808 ≤ aKey ∧ aKey ≤ 9223372036854775807) (x0 : TreeD) (hx0 : isTree v0 x0 rs0) (hw0 : ∀ r ∈ rs0, r.own = false ∧ r.sat W) (hn0 : x0.MidN ≤ 9223372036854775807 ∧ x0.LeafN ≤ 9223372036854775807) (hb0 : (-9223372036854775808 ≤ x0.Root ∧ x0.Root ≤ 9223372036854775807)) : Calls Try.prog 13 #[.int .i64 aKey, v0] W fun e W' => e = .returned (.bool true) ∧ Below W.heap.size W W' := by
  refine fnB (tb := [(43, sToTreeO), (45, sEqTreeO), (46, sMarkTreeO), (47, sHeldTreeO), (41, sSzTreeO), (50, sTOkO), (54, sTOkO)]) ⟨sToTreeO_ok_laws_toTree, sEqTreeO_ok, sMarkTreeO_ok, sHeldTreeO_ok, sSzTreeO_ok, sTOkO_ok_impl_TreeOk, sTOkO_ok_spec_TreeOk, trivial⟩ Try.func13 ((law_FnExactTreeOk_T aKey v0 rs0).mpr ?_) (HS.objs (fun _ => False) [rs0] (seen_cons hw0 seen_nil)) (fun v ch' w' hk hs => ⟨by rw [hk], hs.below⟩)
  clear hw0
  repeat' (first
    | exact rfl
    | exact True.intro
    | assumption
    | exact wholeTree (by assumption)
    | refine And.intro ?_ ?_
    | apply Exists.intro
    | omega
    | (intro h; exfalso; revert h; simp; done)
    | (intro h; exfalso; simp at h; omega)
    | intro _)
theorem walk_FnExactTreeOk (aKey : Int) (cs1 : Array Value) (W : World) (baKey : -9223372036854775808 ≤ aKey ∧ aKey ≤ 9223372036854775807) (h1 : Has W (.cons .int (.cons (.slice (.cons .int (.cons .int .nil))) (.cons (.slice (.cons .int (.cons .int .nil))) .nil))) cs1.toList) : Calls Try.prog 13 #[.int .i64 aKey, .agg cs1] W fun e W' => e = .returned (.bool true) ∧ Below W.heap.size W W' := by
  obtain ⟨l1, hl1⟩ : ∃ l, cs1.toList = l := ⟨_, rfl⟩
  rw [hl1] at h1
  obtain ⟨aTRoot, _, rfl, baTRoot, h1⟩ := has_int h1
  obtain ⟨aTMidO, aTMidN, aTMidC, _, rfl, hsaTMid, h1⟩ := has_slice h1
  obtain ⟨hnaTMid, aTMidG, bGaTMid, hraTMid⟩ := row_of_has (s := 2) (.inr rfl) (by omega) rfl hsaTMid
  obtain ⟨aTLeafO, aTLeafN, aTLeafC, _, rfl, hsaTLeaf, h1⟩ := has_slice h1
  obtain ⟨hnaTLeaf, aTLeafG, bGaTLeaf, hraTLeaf⟩ := row_of_has (s := 2) (.inr rfl) (by omega) rfl hsaTLeaf
  obtain rfl := has_nil h1
  rw [arr_of hl1]
  exact law_FnExactTreeOk_any aKey (.agg #[.int .i64 aTRoot, .slice aTMidO aTMidN aTMidC, .slice aTLeafO aTLeafN aTLeafC]) [⟨false, aTMidO, 0, 2, aTMidN, 0, [fun i => .int (aTMidG 0 i), fun i => .int (aTMidG 1 i)]⟩, ⟨false, aTLeafO, 0, 2, aTLeafN, 0, [fun i => .int (aTLeafG 0 i), fun i => .int (aTLeafG 1 i)]⟩] W baKey ⟨aTRoot, aTMidN, (aTMidG 0), (aTMidG 1), aTLeafN, (aTLeafG 0), (aTLeafG 1)⟩ ⟨_, _, _, _, _, _, _, _, _, _, rfl, rfl⟩ (rows_seen [⟨false, aTMidO, 0, 2, aTMidN, 0, [fun i => .int (aTMidG 0 i), fun i => .int (aTMidG 1 i)]⟩, ⟨false, aTLeafO, 0, 2, aTLeafN, 0, [fun i => .int (aTLeafG 0 i), fun i => .int (aTLeafG 1 i)]⟩] (by simp; exact ⟨hraTMid, hraTLeaf⟩)) ⟨hnaTMid, hnaTLeaf⟩ baTRoot
end Go.Proofs.Ytdaeikjpnejmdaa

/-
  Trees bumped.
-/
import Derived.Test.YtdaeikjpnejmdaaSxOBu
import Derived.Test.YtdaeikjpnejmdaaSxOpen
namespace Go.Proofs.Ytdaeikjpnejmdaa
open Go.RowKit
set_option maxRecDepth 100000
set_option maxHeartbeats 8000000

theorem law_FnExactBump_T (aKey : Int) (v0 : Value) (rs0 : List Row) (aLeaf : Int) : (exFn Try.prog {tb := [(43, sToTreeO), (45, sEqTreeO), (46, sMarkTreeO), (47, sHeldTreeO), (41, sSzTreeO), (49, sBumpO), (55, sBumpO)]} 400 Try.f20 ([.a (.c (.int aKey)), .a (.c (.obj 0 v0)), .a (.c (.int aLeaf))]) ([.obj false rs0]) (fun v _ => v.den = .bool true)) = (
  ((wholeC Bool.true v0 3) ∧
  (∀ b0 : Nat,
  (b0 = b0 ∧
  (Exists (fun (x1 : TreeD) => (((isTree v0 x1 rs0) ∧
  ((lensTree x1) ∧
  (szK (1048576 : Int)))) ∧
  ((Value.bool Bool.true) = (Value.bool Bool.true) ∧
  (∀ z2 : Int,
  ((szO z2 (1048576 : Int)) →
  ((capTree x1) →
   (((decide (z2 < (0 : Int))) = Bool.true →
    (Value.bool Bool.true) = (Value.bool Bool.true)) ∧
    ((decide (z2 < (0 : Int))) = Bool.false →
    (b0 = b0 ∧
     (Exists (fun (x3 : TreeD) => (((isTree v0 x3 rs0) ∧
     (capTree x3)) ∧
     (∀ v'4 : Value,
     (∀ rs'5 : (List Row),
     ((isTree v'4 x3 rs'5) →
     (Exists (fun (t6 : TreeD) => (((isTree v'4 t6 rs'5) ∧
      (capTree t6)) ∧
      (∀ v'7 : Value,
      (∀ rs'8 : (List Row),
      ((isTree v'7 (bumpD aKey t6 aLeaf) rs'8) →
      (∀ b9 : Nat,
       ((b9 = b9 ∧
       (wholeC Bool.true v'7 3)) ∧
       (b0 = b0 ∧
       (Exists (fun (x10 : TreeD) => (((isTree v0 x10 rs0) ∧
       (capTree x10)) ∧
       (∀ v'11 : Value,
       (∀ rs'12 : (List Row),
       ((isTree v'11 x10 rs'12) →
       (∀ b13 : Nat,
        ((b13 = b13 ∧
        (wholeC Bool.true v'11 3)) ∧
        (b13 = b13 ∧
        (Exists (fun (t14 : TreeD) => (((isTree v'11 t14 rs'12) ∧
        (capTree t14)) ∧
        (∀ v'15 : Value,
        (∀ rs'16 : (List Row),
        ((isTree v'15 (bumpD aKey t14 aLeaf) rs'16) →
        (∀ b17 : Nat,
         ((b17 = b17 ∧
         (wholeC Bool.true v'15 3)) ∧
         (b17 = b17 ∧
         (b9 = b9 ∧
         (Exists (fun (x18 : TreeD) => (((isTree v'15 x18 rs'16) ∧
         ((isTree v'7 x18 rs'8) ∧
         (capTree x18))) ∧
         ((((bumpO aKey t14 aLeaf) != (bumpO aKey t6 aLeaf)) = Bool.true →
         (Value.bool Bool.false) = (Value.bool Bool.true)) ∧
         (((bumpO aKey t14 aLeaf) != (bumpO aKey t6 aLeaf)) = Bool.false →
         (b13 = b13 ∧
          (b0 = b0 ∧
          (Exists (fun (x19 : TreeD) => (((isTree v0 x19 rs0) ∧
          (capTree x19)) ∧
          (∀ v'20 : Value,
          (∀ rs'21 : (List Row),
          ((isTree v'20 x19 rs'21) →
          (True ∧
           (Exists (fun (x22 : TreeD) => (((isTree v'11 x22 rs'12) ∧
           ((isTree v'20 x22 rs'21) ∧
           (capTree x22))) ∧
           (True ∧
           (b13 = b13 ∧
           (Exists (fun (x23 : TreeD) => (((isTree v'11 x23 rs'12) ∧
           ((capTree x23) ∧
           (mrkC (1 : Int)))) ∧
           ((endC (1 : Int) (endTree (1 : Int) x23) (33554432 : Int)) →
           (∀ rs'24 : (List Row),
            ((isTree v'11 (markTreeD (1 : Int) x23) rs'24) →
            (((decide ((endTree (1 : Int) x23) < (0 : Int))) = Bool.false →
             (b17 = b17 ∧
              (b9 = b9 ∧
              (Exists (fun (x25 : TreeD) => (((isTree v'15 x25 rs'16) ∧
              ((isTree v'7 x25 rs'8) ∧
              (capTree x25))) ∧
              ((((bumpO aKey t14 aLeaf) != (bumpO aKey t6 aLeaf)) = Bool.true →
              (Value.bool Bool.false) = (Value.bool Bool.true)) ∧
              (((bumpO aKey t14 aLeaf) != (bumpO aKey t6 aLeaf)) = Bool.false →
              (b17 = b17 ∧
               (Exists (fun (x26 : TreeD) => (((isTree v'15 x26 rs'16) ∧
               ((capTree x26) ∧
               (mrkC (1 : Int)))) ∧
               ((endC (1 : Int) (endTree (1 : Int) x26) (33554432 : Int)) →
               (∀ rs'27 : (List Row),
                ((isTree v'15 (markTreeD (1 : Int) x26) rs'27) →
                (b17 = b17 ∧
                 (Exists (fun (x28 : TreeD) => (((isTree v'15 (markTreeD (1 : Int) x28) rs'27) ∧
                 ((capTree x28) ∧
                 (mrkC (1 : Int)))) ∧
                 (((decide ((endTree (1 : Int) x28) < (0 : Int))) = Bool.true →
                 (Value.bool Bool.false) = (Value.bool Bool.true)) ∧
                 ((decide ((endTree (1 : Int) x28) < (0 : Int))) = Bool.false →
                 ((((endTree (1 : Int) x28) != (endTree (1 : Int) x26)) = Bool.true →
                  (Value.bool Bool.false) = (Value.bool Bool.true)) ∧
                  (((endTree (1 : Int) x28) != (endTree (1 : Int) x26)) = Bool.false →
                  (b0 = b0 ∧
                   (Exists (fun (x29 : TreeD) => (((isTree v0 x29 rs0) ∧
                   (capTree x29)) ∧
                   (∀ v'30 : Value,
                   (∀ rs'31 : (List Row),
                   ((isTree v'30 x29 rs'31) →
                   (Exists (fun (t32 : TreeD) => (((isTree v'30 t32 rs'31) ∧
                    (capTree t32)) ∧
                    (∀ v'33 : Value,
                    (∀ rs'34 : (List Row),
                    ((isTree v'33 (bumpD aKey t32 aLeaf) rs'34) →
                    (∀ b35 : Nat,
                     ((b35 = b35 ∧
                     (wholeC Bool.true v'33 3)) ∧
                     (b35 = b35 ∧
                     (b9 = b9 ∧
                     (Exists (fun (x36 : TreeD) => (((isTree v'33 x36 rs'34) ∧
                     ((isTree v'7 x36 rs'8) ∧
                     (capTree x36))) ∧
                     ((((bumpO aKey t32 aLeaf) != (bumpO aKey t6 aLeaf)) = Bool.true →
                     (Value.bool Bool.false) = (Value.bool Bool.true)) ∧
                     (((bumpO aKey t32 aLeaf) != (bumpO aKey t6 aLeaf)) = Bool.false →
                     (b17 = b17 ∧
                      (Exists (fun (x37 : TreeD) => (((isTree v'15 (markTreeD (1 : Int) x37) rs'27) ∧
                      ((capTree x37) ∧
                      (mrkC (1 : Int)))) ∧
                      (((decide ((endTree (1 : Int) x37) < (0 : Int))) = Bool.true →
                      (Value.bool Bool.false) = (Value.bool Bool.true)) ∧
                      ((decide ((endTree (1 : Int) x37) < (0 : Int))) = Bool.false →
                      ((((endTree (1 : Int) x37) != (endTree (1 : Int) x26)) = Bool.true →
                       (Value.bool Bool.false) = (Value.bool Bool.true)) ∧
                       (((endTree (1 : Int) x37) != (endTree (1 : Int) x26)) = Bool.false →
                       (Value.bool Bool.true) = (Value.bool Bool.true)))))))))))))))))))))))))))))))))))))))))))))))))))))) ∧
             ((decide ((endTree (1 : Int) x23) < (0 : Int))) = Bool.true →
             (Value.bool Bool.false) = (Value.bool Bool.true)))))))))))))))))))))))))))))))))))))))))))))))))))))))))))))))))))))))))))) := by kernel_rfl
theorem law_FnExactBump_any (aKey : Int) (v0 : Value) (rs0 : List Row) (aLeaf : Int) (W : World) (baKey : -9223372036854775808 ≤ aKey ∧ aKey ≤ 9223372036854775807) (x0 : TreeD) (hx0 : isTree v0 x0 rs0) (hw0 : ∀ r ∈ rs0, r.own = false ∧ r.sat W) (hn0 : x0.MidN ≤ 9223372036854775807 ∧ x0.LeafN ≤ 9223372036854775807) (hb0 : (-9223372036854775808 ≤ x0.Root ∧ x0.Root ≤ 9223372036854775807)) (baLeaf : -9223372036854775808 ≤ aLeaf ∧ aLeaf ≤ 9223372036854775807) : Calls Try.prog 20 #[.int .i64 aKey, v0, .int .i64 aLeaf] W fun e W' => e = .returned (.bool true) ∧ Below W.heap.size W W' := by
  refine fnB (tb := [(43, sToTreeO), (45, sEqTreeO), (46, sMarkTreeO), (47, sHeldTreeO), (41, sSzTreeO), (49, sBumpO), (55, sBumpO)]) ⟨sToTreeO_ok_laws_toTree, sEqTreeO_ok, sMarkTreeO_ok, sHeldTreeO_ok, sSzTreeO_ok, sBumpO_ok_impl_Bump, sBumpO_ok_spec_Bump, trivial⟩ Try.func20 ((law_FnExactBump_T aKey v0 rs0 aLeaf).mpr ?_) (HS.objs (fun _ => False) [rs0] (seen_cons hw0 seen_nil)) (fun v ch' w' hk hs => ⟨by rw [hk], hs.below⟩)
  clear hw0
  repeat' (first
    | exact rfl
    | exact True.intro
    | assumption
    | exact capBump (by assumption)
    | exact wholeTree (by assumption)
    | refine And.intro ?_ ?_
    | apply Exists.intro
    | omega
    | (intro h; exfalso; revert h; simp; done)
    | (intro h; exfalso; simp at h; omega)
    | intro _)
theorem walk_FnExactBump (aKey : Int) (cs1 : Array Value) (aLeaf : Int) (W : World) (baKey : -9223372036854775808 ≤ aKey ∧ aKey ≤ 9223372036854775807) (h1 : Has W (.cons .int (.cons (.slice (.cons .int (.cons .int .nil))) (.cons (.slice (.cons .int (.cons .int .nil))) .nil))) cs1.toList) (baLeaf : -9223372036854775808 ≤ aLeaf ∧ aLeaf ≤ 9223372036854775807) : Calls Try.prog 20 #[.int .i64 aKey, .agg cs1, .int .i64 aLeaf] W fun e W' => e = .returned (.bool true) ∧ Below W.heap.size W W' := by
  obtain ⟨l1, hl1⟩ : ∃ l, cs1.toList = l := ⟨_, rfl⟩
  rw [hl1] at h1
  obtain ⟨aTRoot, _, rfl, baTRoot, h1⟩ := has_int h1
  obtain ⟨aTMidO, aTMidN, aTMidC, _, rfl, hsaTMid, h1⟩ := has_slice h1
  obtain ⟨hnaTMid, aTMidG, bGaTMid, hraTMid⟩ := row_of_has (s := 2) (.inr rfl) (by omega) rfl hsaTMid
  obtain ⟨aTLeafO, aTLeafN, aTLeafC, _, rfl, hsaTLeaf, h1⟩ := has_slice h1
  obtain ⟨hnaTLeaf, aTLeafG, bGaTLeaf, hraTLeaf⟩ := row_of_has (s := 2) (.inr rfl) (by omega) rfl hsaTLeaf
  obtain rfl := has_nil h1
  rw [arr_of hl1]
  exact law_FnExactBump_any aKey (.agg #[.int .i64 aTRoot, .slice aTMidO aTMidN aTMidC, .slice aTLeafO aTLeafN aTLeafC]) [⟨false, aTMidO, 0, 2, aTMidN, 0, [fun i => .int (aTMidG 0 i), fun i => .int (aTMidG 1 i)]⟩, ⟨false, aTLeafO, 0, 2, aTLeafN, 0, [fun i => .int (aTLeafG 0 i), fun i => .int (aTLeafG 1 i)]⟩] aLeaf W baKey ⟨aTRoot, aTMidN, (aTMidG 0), (aTMidG 1), aTLeafN, (aTLeafG 0), (aTLeafG 1)⟩ ⟨_, _, _, _, _, _, _, _, _, _, rfl, rfl⟩ (rows_seen [⟨false, aTMidO, 0, 2, aTMidN, 0, [fun i => .int (aTMidG 0 i), fun i => .int (aTMidG 1 i)]⟩, ⟨false, aTLeafO, 0, 2, aTLeafN, 0, [fun i => .int (aTLeafG 0 i), fun i => .int (aTLeafG 1 i)]⟩] (by simp; exact ⟨hraTMid, hraTLeaf⟩)) ⟨hnaTMid, hnaTLeaf⟩ baTRoot baLeaf
end Go.Proofs.Ytdaeikjpnejmdaa

/-
  FnExactSecureOk
-/
import Derived.Test.YtdaeikjpnejmdaaSxOSec
import Derived.Test.YtdaeikjpnejmdaaSxOpen
import Derived.Test.YtdaeikjpnejmdaaSxSec3
namespace Go.Proofs.Ytdaeikjpnejmdaa
set_option linter.unusedVariables false
set_option linter.unusedSimpArgs false
open Go.RowKit
set_option maxRecDepth 100000
set_option maxHeartbeats 8000000

def secD (s : SecureD) : Bool := secB s.Key s.TreeRoot s.TreeMidN s.TreeLeafN s.TreeMidg0 s.TreeMidg1 s.TreeLeafg0 s.TreeLeafg1 s.DataN s.TagsN s.Datag0 s.Tagsg0
def sSOkO : Sm := fun args ch k =>
  match args with
  | [.a (.c (.obj i0 v0))] =>
    match ch[i0]? with
    | some (.obj _ r0) => ∃ (s : SecureD), (isSecure v0 s r0) ∧ k (.a (.c (.bool (secD s)))) ch []
    | _ => False
  | _ => False
theorem sSOkO_ok_impl_SecureOk : SmOK Try.prog 72 sSOkO := by
  refine smB Try.call72 fun args ch k w X h0 hs => ?_
  unfold sSOkO at h0
  split at h0
  · rename_i i0 v0
    split at h0
    · rename_i o0 r0 hi0
      obtain ⟨s, ⟨_, _, _, _, _, _, _, _, _, _, _, _, _, _, _, _, _, _, _, _, rfl, rfl⟩, h0⟩ := h0
      have hw0 := hs.seeObj hi0
      refine ⟨_, h0, ?_⟩
      simp only [List.map_cons, List.map_nil, den_a, den_c, SA.den, den_obj]
      exact sokI_any s.Key s.TreeRoot _ s.TreeMidN _ s.TreeMidg0 s.TreeMidg1 _ s.TreeLeafN _ s.TreeLeafg0 s.TreeLeafg1 _ s.DataN _ s.Datag0 _ s.TagsN _ s.Tagsg0 w (Row.seenAs (hw0 _ (mem0)).2 rfl rfl) (Row.seenAs (hw0 _ ((memS mem0))).2 rfl rfl) (Row.seenAs (hw0 _ ((memS (memS mem0)))).2 rfl rfl) (Row.seenAs (hw0 _ ((memS (memS (memS mem0))))).2 rfl rfl)
    · exact h0.elim
  · exact h0.elim
theorem sSOkO_ok_spec_SecureOk : SmOK Try.prog 73 sSOkO := by
  refine smB Try.call73 fun args ch k w X h0 hs => ?_
  unfold sSOkO at h0
  split at h0
  · rename_i i0 v0
    split at h0
    · rename_i o0 r0 hi0
      obtain ⟨s, ⟨_, _, _, _, _, _, _, _, _, _, _, _, _, _, _, _, _, _, _, _, rfl, rfl⟩, h0⟩ := h0
      have hw0 := hs.seeObj hi0
      refine ⟨_, h0, ?_⟩
      simp only [List.map_cons, List.map_nil, den_a, den_c, SA.den, den_obj]
      exact sokS_any s.Key s.TreeRoot _ s.TreeMidN _ s.TreeMidg0 s.TreeMidg1 _ s.TreeLeafN _ s.TreeLeafg0 s.TreeLeafg1 _ s.DataN _ s.Datag0 _ s.TagsN _ s.Tagsg0 w (Row.seenAs (hw0 _ (mem0)).2 rfl rfl) (Row.seenAs (hw0 _ ((memS mem0))).2 rfl rfl) (Row.seenAs (hw0 _ ((memS (memS mem0)))).2 rfl rfl) (Row.seenAs (hw0 _ ((memS (memS (memS mem0))))).2 rfl rfl)
    · exact h0.elim
  · exact h0.elim
theorem law_FnExactSecureOk_T (v0 : Value) (rs0 : List Row) : (exFn Try.prog {tb := [(59, sToSecureO), (61, sEqSecureO), (62, sMarkSecureO), (63, sHeldSecureO), (57, sSzSecureO), (72, sSOkO), (73, sSOkO)]} 400 Try.f23 ([.a (.c (.obj 0 v0))]) ([.obj false rs0]) (fun v _ => v.den = .bool true)) = (
  ((wholeC Bool.true v0 6) ∧
  (∀ b0 : Nat,
  (b0 = b0 ∧
  (Exists (fun (x1 : SecureD) => (((isSecure v0 x1 rs0) ∧
  ((lensSecure x1) ∧
  (szK (1048576 : Int)))) ∧
  ((Value.bool Bool.true) = (Value.bool Bool.true) ∧
  (∀ z2 : Int,
  ((szO z2 (1048576 : Int)) →
  ((capSecure x1) →
   (((decide (z2 < (0 : Int))) = Bool.true →
    (Value.bool Bool.true) = (Value.bool Bool.true)) ∧
    ((decide (z2 < (0 : Int))) = Bool.false →
    (b0 = b0 ∧
     (Exists (fun (x3 : SecureD) => (((isSecure v0 x3 rs0) ∧
     (capSecure x3)) ∧
     (∀ v'4 : Value,
     (∀ rs'5 : (List Row),
     ((isSecure v'4 x3 rs'5) →
     (Exists (fun (s6 : SecureD) => ((isSecure v'4 s6 rs'5) ∧
      (b0 = b0 ∧
      (Exists (fun (x7 : SecureD) => (((isSecure v0 x7 rs0) ∧
      (capSecure x7)) ∧
      (∀ v'8 : Value,
      (∀ rs'9 : (List Row),
      ((isSecure v'8 x7 rs'9) →
      (∀ b10 : Nat,
       ((b10 = b10 ∧
       (wholeC Bool.true v'8 6)) ∧
       (b10 = b10 ∧
       (Exists (fun (s11 : SecureD) => ((isSecure v'8 s11 rs'9) ∧
       ((((secD s11) != (secD s6)) = Bool.true →
       (Value.bool Bool.false) = (Value.bool Bool.true)) ∧
       (((secD s11) != (secD s6)) = Bool.false →
       (b10 = b10 ∧
        (b0 = b0 ∧
        (Exists (fun (x12 : SecureD) => (((isSecure v0 x12 rs0) ∧
        (capSecure x12)) ∧
        (∀ v'13 : Value,
        (∀ rs'14 : (List Row),
        ((isSecure v'13 x12 rs'14) →
        (True ∧
         (Exists (fun (x15 : SecureD) => (((isSecure v'8 x15 rs'9) ∧
         ((isSecure v'13 x15 rs'14) ∧
         (capSecure x15))) ∧
         (True ∧
         (Value.bool Bool.true) = (Value.bool Bool.true)))))))))))))))))))))))))))))))))))))))))))))))))))) := by kernel_rfl
theorem law_FnExactSecureOk_any (v0 : Value) (rs0 : List Row) (W : World) (x0 : SecureD) (hx0 : isSecure v0 x0 rs0) (hw0 : ∀ r ∈ rs0, r.own = false ∧ r.sat W) (hn0 : x0.TreeMidN ≤ 9223372036854775807 ∧ x0.TreeLeafN ≤ 9223372036854775807 ∧ x0.DataN ≤ 9223372036854775807 ∧ x0.TagsN ≤ 9223372036854775807) (hb0 : (-9223372036854775808 ≤ x0.Key ∧ x0.Key ≤ 9223372036854775807) ∧ (-9223372036854775808 ≤ x0.TreeRoot ∧ x0.TreeRoot ≤ 9223372036854775807)) : Calls Try.prog 23 #[v0] W fun e W' => e = .returned (.bool true) ∧ Below W.heap.size W W' := by
  refine fnB (tb := [(59, sToSecureO), (61, sEqSecureO), (62, sMarkSecureO), (63, sHeldSecureO), (57, sSzSecureO), (72, sSOkO), (73, sSOkO)]) ⟨sToSecureO_ok_laws_toSecure, sEqSecureO_ok, sMarkSecureO_ok, sHeldSecureO_ok, sSzSecureO_ok, sSOkO_ok_impl_SecureOk, sSOkO_ok_spec_SecureOk, trivial⟩ Try.func23 ((law_FnExactSecureOk_T v0 rs0).mpr ?_) (HS.objs (fun _ => False) [rs0] (seen_cons hw0 seen_nil)) (fun v ch' w' hk hs => ⟨by rw [hk], hs.below⟩)
  clear hw0
  repeat' (first
    | exact rfl
    | exact True.intro
    | assumption
    | exact wholeSecure (by assumption)
    | refine And.intro ?_ ?_
    | apply Exists.intro
    | omega
    | (intro h; exfalso; revert h; simp; done)
    | (intro h; exfalso; simp at h; omega)
    | intro _)
theorem walk_FnExactSecureOk (cs0 : Array Value) (W : World) (h0 : Has W (.cons .int (.cons (.cons .int (.cons (.slice (.cons .int (.cons .int .nil))) (.cons (.slice (.cons .int (.cons .int .nil))) .nil))) (.cons (.slice .int) (.cons (.slice .int) .nil)))) cs0.toList) : Calls Try.prog 23 #[.agg cs0] W fun e W' => e = .returned (.bool true) ∧ Below W.heap.size W W' := by
  obtain ⟨l0, hl0⟩ : ∃ l, cs0.toList = l := ⟨_, rfl⟩
  rw [hl0] at h0
  obtain ⟨aSKey, _, rfl, baSKey, h0_f0⟩ := has_int h0
  obtain ⟨_, _, rfl, h0Tree, h0_f1⟩ := has_struct h0_f0
  obtain ⟨aSTreeRoot, _, rfl, baSTreeRoot, h0Tree_f0⟩ := has_int h0Tree
  obtain ⟨aSTreeMidO, aSTreeMidN, aSTreeMidC, _, rfl, hsaSTreeMid, h0Tree_f1⟩ := has_slice h0Tree_f0
  obtain ⟨hnaSTreeMid, aSTreeMidG, bGaSTreeMid, hraSTreeMid⟩ := row_of_has (s := 2) (.inr rfl) (by omega) rfl hsaSTreeMid
  obtain ⟨aSTreeLeafO, aSTreeLeafN, aSTreeLeafC, _, rfl, hsaSTreeLeaf, h0Tree_f2⟩ := has_slice h0Tree_f1
  obtain ⟨hnaSTreeLeaf, aSTreeLeafG, bGaSTreeLeaf, hraSTreeLeaf⟩ := row_of_has (s := 2) (.inr rfl) (by omega) rfl hsaSTreeLeaf
  obtain rfl := has_nil h0Tree_f2
  obtain ⟨aSDataO, aSDataN, aSDataC, _, rfl, hsaSData, h0_f2⟩ := has_slice h0_f1
  obtain ⟨hnaSData, aSDataG, bGaSData, hraSData⟩ := row_of_has (s := 1) (.inl ⟨rfl, rfl⟩) (by omega) rfl hsaSData
  obtain ⟨aSTagsO, aSTagsN, aSTagsC, _, rfl, hsaSTags, h0_f3⟩ := has_slice h0_f2
  obtain ⟨hnaSTags, aSTagsG, bGaSTags, hraSTags⟩ := row_of_has (s := 1) (.inl ⟨rfl, rfl⟩) (by omega) rfl hsaSTags
  obtain rfl := has_nil h0_f3
  rw [arr_of hl0]
  exact law_FnExactSecureOk_any (.agg #[.int .i64 aSKey, .int .i64 aSTreeRoot, .slice aSTreeMidO aSTreeMidN aSTreeMidC, .slice aSTreeLeafO aSTreeLeafN aSTreeLeafC, .slice aSDataO aSDataN aSDataC, .slice aSTagsO aSTagsN aSTagsC]) [⟨false, aSTreeMidO, 0, 2, aSTreeMidN, 0, [fun i => .int (aSTreeMidG 0 i), fun i => .int (aSTreeMidG 1 i)]⟩, ⟨false, aSTreeLeafO, 0, 2, aSTreeLeafN, 0, [fun i => .int (aSTreeLeafG 0 i), fun i => .int (aSTreeLeafG 1 i)]⟩, ⟨false, aSDataO, 0, 1, aSDataN, 0, [fun i => .int (aSDataG 0 i)]⟩, ⟨false, aSTagsO, 0, 1, aSTagsN, 0, [fun i => .int (aSTagsG 0 i)]⟩] W ⟨aSKey, aSTreeRoot, aSTreeMidN, (aSTreeMidG 0), (aSTreeMidG 1), aSTreeLeafN, (aSTreeLeafG 0), (aSTreeLeafG 1), aSDataN, (aSDataG 0), aSTagsN, (aSTagsG 0)⟩ ⟨_, _, _, _, _, _, _, _, _, _, _, _, _, _, _, _, _, _, _, _, rfl, rfl⟩ (rows_seen [⟨false, aSTreeMidO, 0, 2, aSTreeMidN, 0, [fun i => .int (aSTreeMidG 0 i), fun i => .int (aSTreeMidG 1 i)]⟩, ⟨false, aSTreeLeafO, 0, 2, aSTreeLeafN, 0, [fun i => .int (aSTreeLeafG 0 i), fun i => .int (aSTreeLeafG 1 i)]⟩, ⟨false, aSDataO, 0, 1, aSDataN, 0, [fun i => .int (aSDataG 0 i)]⟩, ⟨false, aSTagsO, 0, 1, aSTagsN, 0, [fun i => .int (aSTagsG 0 i)]⟩] (by simp; exact ⟨hraSTreeMid, hraSTreeLeaf, hraSData, hraSTags⟩)) ⟨hnaSTreeMid, hnaSTreeLeaf, hnaSData, hnaSTags⟩ ⟨baSKey, baSTreeRoot⟩
end Go.Proofs.Ytdaeikjpnejmdaa

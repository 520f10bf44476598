/-
  Trees checked, as objects.
-/
import Derived.Test.YtdaeikjpnejmdaaSxOTree
import Derived.Test.YtdaeikjpnejmdaaSxTree4
namespace Go.Proofs.Ytdaeikjpnejmdaa
open Go.RowKit
set_option maxRecDepth 100000
set_option maxHeartbeats 8000000

def okT (key : Int) (t : TreeD) : Bool := treeB key t.Root t.MidN t.LeafN t.Midg0 t.Midg1 t.Leafg0 t.Leafg1
def sTOkO : Sm := fun args ch k =>
  match args with
  | [.a (.c c0), .a (.c (.obj i0 v0))] =>
    match ch[i0]?, ints [c0] with
    | some (.obj _ r0), some [key] => ∃ (t : TreeD), (isTree v0 t r0) ∧ k (.a (.c (.bool (okT key t)))) ch []
    | _, _ => False
  | _ => False
theorem sTOkO_ok_impl_TreeOk : SmOK Try.prog 50 sTOkO := by
  refine smB Try.call50 fun args ch k w X h0 hs => ?_
  unfold sTOkO at h0
  split at h0
  · rename_i c0 i0 v0
    split at h0
    · rename_i o0 r0 key hi0 hI
      obtain ⟨t, ⟨_, _, _, _, _, _, _, _, _, _, rfl, rfl⟩, h0⟩ := h0
      obtain ⟨ec0, hI⟩ := ints_cons hI
      have hw0 := hs.seeObj hi0
      refine ⟨_, h0, ?_⟩
      simp only [List.map_cons, List.map_nil, den_a, den_c, SA.den, den_obj, ec0]
      exact okI_any key t.Root _ t.MidN _ t.Midg0 t.Midg1 _ t.LeafN _ t.Leafg0 t.Leafg1 w (Row.seenAs (hw0 _ (mem0)).2 rfl rfl) (Row.seenAs (hw0 _ ((memS mem0))).2 rfl rfl)
    · exact h0.elim
  · exact h0.elim
theorem sTOkO_ok_spec_TreeOk : SmOK Try.prog 54 sTOkO := by
  refine smB Try.call54 fun args ch k w X h0 hs => ?_
  unfold sTOkO at h0
  split at h0
  · rename_i c0 i0 v0
    split at h0
    · rename_i o0 r0 key hi0 hI
      obtain ⟨t, ⟨_, _, _, _, _, _, _, _, _, _, rfl, rfl⟩, h0⟩ := h0
      obtain ⟨ec0, hI⟩ := ints_cons hI
      have hw0 := hs.seeObj hi0
      refine ⟨_, h0, ?_⟩
      simp only [List.map_cons, List.map_nil, den_a, den_c, SA.den, den_obj, ec0]
      exact okS_any key t.Root _ t.MidN _ t.Midg0 t.Midg1 _ t.LeafN _ t.Leafg0 t.Leafg1 w (Row.seenAs (hw0 _ (mem0)).2 rfl rfl) (Row.seenAs (hw0 _ ((memS mem0))).2 rfl rfl)
    · exact h0.elim
  · exact h0.elim
end Go.Proofs.Ytdaeikjpnejmdaa

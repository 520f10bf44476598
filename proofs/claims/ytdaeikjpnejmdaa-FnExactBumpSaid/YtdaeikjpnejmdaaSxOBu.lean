/-
  Trees bumped, as objects.
-/
import Derived.Test.YtdaeikjpnejmdaaSxOTree
import Derived.Test.YtdaeikjpnejmdaaSxTree6
namespace Go.Proofs.Ytdaeikjpnejmdaa
open Go.RowKit
set_option maxRecDepth 100000
set_option maxHeartbeats 8000000

def bumpO (key : Int) (t : TreeD) (leaf : Int) : Bool := bOk key t.Root t.MidN t.LeafN t.Midg0 t.Midg1 t.Leafg0 t.Leafg1 leaf
def bumpD (key : Int) (t : TreeD) (leaf : Int) : TreeD := ⟨bR key t.Root t.MidN t.LeafN t.Midg0 t.Midg1 t.Leafg0 t.Leafg1 leaf, t.MidN, bMc key t.Root t.MidN t.LeafN t.Midg0 t.Midg1 t.Leafg0 t.Leafg1 leaf, bMt key t.Root t.MidN t.LeafN t.Midg0 t.Midg1 t.Leafg0 t.Leafg1 leaf, t.LeafN, bLc key t.Root t.MidN t.LeafN t.Midg0 t.Midg1 t.Leafg0 t.Leafg1 leaf, bLt key t.Root t.MidN t.LeafN t.Midg0 t.Midg1 t.Leafg0 t.Leafg1 leaf⟩
theorem capBump {key : Int} {t : TreeD} {leaf : Int} (h : capTree t) : capTree (bumpD key t leaf) := h
def sBumpO : Sm := fun args ch k =>
  match args with
  | [.a (.c c0), .a (.c (.obj i0 v0)), .a (.c c1)] =>
    match ch[i0]?, ints [c0, c1] with
    | some (.obj _ r0), some [key, leaf] => ∃ (t : TreeD), (isTree v0 t r0 ∧ capTree t) ∧ ∀ (v' : Value) (rs' : List Row), isTree v' (bumpD key t leaf) rs' → k (.tup [.c (.obj ch.length v'), .c (.bool (bumpO key t leaf))]) (ch ++ [.obj true rs']) []
    | _, _ => False
  | _ => False
theorem sBumpO_ok_impl_Bump : SmOK Try.prog 49 sBumpO := by
  refine smN Try.call49 fun args ch k w X h0 hs => ?_
  unfold sBumpO at h0
  split at h0
  · rename_i c0 i0 v0 c1
    split at h0
    · rename_i o0 r0 key leaf hi0 hI
      obtain ⟨t, ⟨⟨_, _, _, _, _, _, _, _, _, _, rfl, rfl⟩, hpre⟩, h0⟩ := h0
      obtain ⟨ec0, hI⟩ := ints_cons hI
      obtain ⟨ec1, hI⟩ := ints_cons hI
      have hw0 := hs.seeObj hi0
      simp only [List.map_cons, List.map_nil, den_a, den_c, SA.den, den_obj, ec0, ec1]
      refine Calls.mono (bumpI_any key t.Root _ t.MidN _ t.Midg0 t.Midg1 _ t.LeafN _ t.Leafg0 t.Leafg1 leaf w (Row.seenAs (hw0 _ (mem0)).2 rfl rfl) (Row.seenAs (hw0 _ ((memS mem0))).2 rfl rfl) hpre) fun e w' ⟨ro0, rc0, ro1, rc1, he, hs'⟩ => ⟨_, [.obj true _], ?_, hs'.pack (rs := [_, _]) (by simp), rfl, h0 _ _ ⟨ro0, ro1, rc0, _, _, rc1, _, _, _, _, rfl, rfl⟩⟩
      rw [he]
      rfl
    · exact h0.elim
  · exact h0.elim
theorem sBumpO_ok_spec_Bump : SmOK Try.prog 55 sBumpO := by
  refine smN Try.call55 fun args ch k w X h0 hs => ?_
  unfold sBumpO at h0
  split at h0
  · rename_i c0 i0 v0 c1
    split at h0
    · rename_i o0 r0 key leaf hi0 hI
      obtain ⟨t, ⟨⟨_, _, _, _, _, _, _, _, _, _, rfl, rfl⟩, hpre⟩, h0⟩ := h0
      obtain ⟨ec0, hI⟩ := ints_cons hI
      obtain ⟨ec1, hI⟩ := ints_cons hI
      have hw0 := hs.seeObj hi0
      simp only [List.map_cons, List.map_nil, den_a, den_c, SA.den, den_obj, ec0, ec1]
      refine Calls.mono (bumpS_any key t.Root _ t.MidN _ t.Midg0 t.Midg1 _ t.LeafN _ t.Leafg0 t.Leafg1 leaf w (Row.seenAs (hw0 _ (mem0)).2 rfl rfl) (Row.seenAs (hw0 _ ((memS mem0))).2 rfl rfl) hpre) fun e w' ⟨ro0, rc0, ro1, rc1, he, hs'⟩ => ⟨_, [.obj true _], ?_, hs'.pack (rs := [_, _]) (by simp), rfl, h0 _ _ ⟨ro0, ro1, rc0, _, _, rc1, _, _, _, _, rfl, rfl⟩⟩
      rw [he]
      rfl
    · exact h0.elim
  · exact h0.elim
end Go.Proofs.Ytdaeikjpnejmdaa

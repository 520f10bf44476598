/-
  Trees made, as objects.
-/
import Derived.Test.YtdaeikjpnejmdaaSxOTree
import Derived.Test.YtdaeikjpnejmdaaSxTree3
namespace Go.Proofs.Ytdaeikjpnejmdaa
open Go.RowKit
set_option maxRecDepth 100000
set_option maxHeartbeats 8000000

def newD (key : Int) : TreeD := ⟨0, ifN (isW key) 2, fun _ => 0, newMT key, ifN (isW key) 8, fun _ => 0, newLT key⟩
theorem capNew (key : Int) : capTree (newD key) := by
  simp only [capTree, newD, ifN]
  split <;> omega
def sTNewO : Sm := fun args ch k =>
  match args with
  | [.a (.c c0)] =>
    match ints [c0] with
    | some [key] => ∀ (v' : Value) (rs' : List Row), isTree v' (newD key) rs' → k (.tup [.c (.obj ch.length v'), .c (.bool (isW key))]) (ch ++ [.obj true rs']) []
    | _ => False
  | _ => False
theorem sTNewO_ok_impl_TreeNew : SmOK Try.prog 48 sTNewO := by
  refine smN Try.call48 fun args ch k w X h0 hs => ?_
  unfold sTNewO at h0
  split at h0
  · rename_i c0
    split at h0
    · rename_i key hI
      obtain ⟨ec0, hI⟩ := ints_cons hI
      simp only [List.map_cons, List.map_nil, den_a, den_c, SA.den, den_obj, ec0]
      refine Calls.mono (newI_any key w ) fun e w' ⟨ro0, rc0, ro1, rc1, he, hs'⟩ => ⟨_, [.obj true _], ?_, hs'.pack (rs := [_, _]) (by simp), rfl, h0 _ _ ⟨ro0, ro1, rc0, _, _, rc1, _, _, _, _, rfl, rfl⟩⟩
      rw [he]
      rfl
    · exact h0.elim
  · exact h0.elim
theorem sTNewO_ok_spec_TreeNew : SmOK Try.prog 53 sTNewO := by
  refine smN Try.call53 fun args ch k w X h0 hs => ?_
  unfold sTNewO at h0
  split at h0
  · rename_i c0
    split at h0
    · rename_i key hI
      obtain ⟨ec0, hI⟩ := ints_cons hI
      simp only [List.map_cons, List.map_nil, den_a, den_c, SA.den, den_obj, ec0]
      refine Calls.mono (newS_any key w ) fun e w' ⟨ro0, rc0, ro1, rc1, he, hs'⟩ => ⟨_, [.obj true _], ?_, hs'.pack (rs := [_, _]) (by simp), rfl, h0 _ _ ⟨ro0, ro1, rc0, _, _, rc1, _, _, _, _, rfl, rfl⟩⟩
      rw [he]
      rfl
    · exact h0.elim
  · exact h0.elim
end Go.Proofs.Ytdaeikjpnejmdaa

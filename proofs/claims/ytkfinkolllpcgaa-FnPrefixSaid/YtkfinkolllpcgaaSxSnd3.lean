/-
  Senders made, summed up.
-/
import Derived.Test.YtkfinkolllpcgaaSxSnd2
namespace Go.Proofs.Ytkfinkolllpcgaa
set_option linter.unusedVariables false
set_option linter.unusedSimpArgs false
open Go.RowKit
set_option maxRecDepth 100000
set_option maxHeartbeats 8000000

def sSnd : Sm := fun args ch k =>
  match args with
  | [.a (.c x)] => rd4 ch x fun n g0 g1 g2 g3 => lenC n ∧ ∀ (ro : Option Addr) (rc : Nat), k (.tup [.agg [.sl ch.length ro (sndN n g0 g1 g2 g3) rc, .il 0], .c (.bool (sndOkB n g0 g1 g2 g3))]) (ch ++ [.row ⟨true, ro, 3, 1, sndN n g0 g1 g2 g3, rc, [fun i => .int (fr g0 g1 g2 g3 i)]⟩]) []
  | _ => False
theorem sSnd_I : SmOK Try.prog 23 sSnd := by
  refine smN Try.call23 fun args ch k w X h0 hs => ?_
  unfold sSnd at h0
  split at h0
  · obtain ⟨ao, n, c, g0, g1, g2, g3, em, hr, hn, h0⟩ := rd4_ok h0 hs
    simp only [List.map_cons, List.map_nil, den_a, den_c, em]
    exact Calls.mono (senderNewI_any ao n c g0 g1 g2 g3 w hr hn) fun e w' ⟨ro, rc, he, hs'⟩ => ⟨_, _, by rw [he]; rfl, hs', rfl, h0 ro rc⟩
  · exact h0.elim
theorem sSnd_S : SmOK Try.prog 27 sSnd := by
  refine smN Try.call27 fun args ch k w X h0 hs => ?_
  unfold sSnd at h0
  split at h0
  · obtain ⟨ao, n, c, g0, g1, g2, g3, em, hr, hn, h0⟩ := rd4_ok h0 hs
    simp only [List.map_cons, List.map_nil, den_a, den_c, em]
    exact Calls.mono (senderNewS_any ao n c g0 g1 g2 g3 w hr hn) fun e w' ⟨ro, rc, he, hs'⟩ => ⟨_, _, by rw [he]; rfl, hs', rfl, h0 ro rc⟩
  · exact h0.elim
end Go.Proofs.Ytkfinkolllpcgaa

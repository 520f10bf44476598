/-
  Runs of the link, summed up.
-/
import Derived.Test.YtkfinkolllpcgaaSxRun2
namespace Go.Proofs.Ytkfinkolllpcgaa
set_option linter.unusedVariables false
set_option linter.unusedSimpArgs false
open Go.RowKit
set_option maxRecDepth 100000
set_option maxHeartbeats 8000000

theorem lkGo_in {fN : Nat} {f : Nat → Int} {m : Nat} {q : Nat → Int} : ∀ (k j : Nat) (s : LkD), LkI fN j s → j + k ≤ 300 → LkI fN (lkGo fN f m q k j s).1 (lkGo fN f m q k j s).2 ∧ (lkGo fN f m q k j s).1 ≤ 300 := by
  intro k
  induction k with
  | zero => intro j s h hj; exact ⟨h, hj⟩
  | succ k ih =>
    intro j s h hj
    simp only [lkGo]
    split
    · refine ih (j + 1) _ ?_ (by omega)
      unfold lkStep
      split
      · exact lkT_in h (by omega)
      · exact lkF_in h (by omega)
    · exact ⟨h, by omega⟩
theorem runS_in (n : Nat) (g0 g1 g2 g3 : Nat → Int) (m : Nat) (q : Nat → Int) : (runS n g0 g1 g2 g3 m q).cnt = (runS n g0 g1 g2 g3 m q).rn ∧ (runS n g0 g1 g2 g3 m q).rn ≤ 300 := by
  unfold runS
  split
  · have := lkGo_in (fN := sndN n g0 g1 g2 g3) (f := fr g0 g1 g2 g3) (m := m) (q := q) 300 0 lk0 (LkI.zero _) (by omega)
    have h1 := this.1.cnt
    have h2 := this.1.rn
    have h3 := this.2
    exact ⟨h1, Nat.le_trans h2 h3⟩
  · exact ⟨rfl, Nat.zero_le _⟩
def sRun : Sm := fun args ch k =>
  match args with
  | [.a (.c x), .a (.c y)] => rd4 ch x fun n g0 g1 g2 g3 => rd1 ch y fun m q => (lenC n ∧ lenC m) ∧ ∀ (ro0 : Option Addr) (rc0 : Nat), k (.tup [.agg [.int (runS n g0 g1 g2 g3 m q).cnt, .sl ch.length ro0 (runS n g0 g1 g2 g3 m q).rn rc0], .c (.int (runW n g0 g1 g2 g3 m q)), .c (.bool (runB n g0 g1 g2 g3 m q))]) (ch ++ [.row ⟨true, ro0, 41, 4, (runS n g0 g1 g2 g3 m q).rn, rc0, [fun i => .int ((runS n g0 g1 g2 g3 m q).c0 i), fun i => .int ((runS n g0 g1 g2 g3 m q).c1 i), fun i => .int ((runS n g0 g1 g2 g3 m q).c2 i), fun i => .int ((runS n g0 g1 g2 g3 m q).c3 i)]⟩]) []
  | _ => False
theorem sRun_I : SmOK Try.prog 33 sRun := by
  refine smN Try.call33 fun args ch k w X h0 hs => ?_
  unfold sRun at h0
  split at h0
  · obtain ⟨ao, n, c, g0, g1, g2, g3, em, hr, h0⟩ := rd4_ok h0 hs
    obtain ⟨bo, m, c2, q, em2, hr2, ⟨hn, hm⟩, h0⟩ := rd1_ok h0 hs
    simp only [List.map_cons, List.map_nil, den_a, den_c, em, em2]
    exact Calls.mono (runI_any ao n c g0 g1 g2 g3 bo m c2 q w hr hr2 hn hm) fun e w' ⟨ro, rc, he, hs'⟩ => ⟨_, _, by rw [he]; rfl, hs', rfl, h0 ro rc⟩
  · exact h0.elim
theorem sRun_S : SmOK Try.prog 40 sRun := by
  refine smN Try.call40 fun args ch k w X h0 hs => ?_
  unfold sRun at h0
  split at h0
  · obtain ⟨ao, n, c, g0, g1, g2, g3, em, hr, h0⟩ := rd4_ok h0 hs
    obtain ⟨bo, m, c2, q, em2, hr2, ⟨hn, hm⟩, h0⟩ := rd1_ok h0 hs
    simp only [List.map_cons, List.map_nil, den_a, den_c, em, em2]
    exact Calls.mono (runS_any ao n c g0 g1 g2 g3 bo m c2 q w hr hr2 hn hm) fun e w' ⟨ro, rc, he, hs'⟩ => ⟨_, _, by rw [he]; rfl, hs', rfl, h0 ro rc⟩
  · exact h0.elim
end Go.Proofs.Ytkfinkolllpcgaa

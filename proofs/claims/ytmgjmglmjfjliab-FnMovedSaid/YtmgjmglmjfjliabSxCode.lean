/-
  The bytes that a law is given, as a row.
-/
import Derived.Test.YtmgjmglmjfjliabSxOpen
import Derived.Test.YtmgjmglmjfjliabSx16
namespace Go.Proofs.Ytmgjmglmjfjliab
set_option linter.unusedVariables false
set_option linter.unusedSimpArgs false
open Go.RowKit
theorem row_u8_of_has {w : World} {ao : Option Addr} {len cap : Nat} (h : Has w (.slice .u8) [.slice ao len cap]) :
    ∃ u : Nat → Int, (∀ i, 0 ≤ u i ∧ u i ≤ 255) ∧ Row.sat w ⟨false, ao, 0, 1, len, 0, [fun i => .u8 (u i)]⟩ := by
  obtain ⟨ao', len', cap', he, hm, hx⟩ := h
  simp only [List.cons.injEq, Value.slice.injEq, and_true] at he
  obtain ⟨rfl, rfl, rfl⟩ := he
  have hG : ∀ i, ∃ n : Int, (0 ≤ n ∧ n ≤ 255) ∧ (i < len → ∃ b off, ao = some ⟨b, off, none⟩ ∧ b < w.heap.size ∧ w.cell? ⟨b, off + i, none⟩ = some (.int .u8 n)) := fun i => by
    by_cases hi : i < len
    · obtain ⟨b, off, es, ha, hes, hc, n, rfl, h0, h1⟩ := hx i hi
      have hc0 := hc 0 (by decide)
      simp only [Ty.size, Nat.mul_one, Nat.add_zero] at hc0
      exact ⟨n, ⟨h0, h1⟩, fun _ => ⟨b, off, ha, World.block_lt_of_cell? w _ hc0, hc0⟩⟩
    · exact ⟨0, by omega, fun h => absurd h hi⟩
  refine ⟨fun i => (hG i).choose, fun i => (hG i).choose_spec.1, rfl, fun _ hn => ?_, fun ho => (by cases ho)⟩
  obtain ⟨b, off, ha, hb, _⟩ := (hG 0).choose_spec.2 hn
  refine ⟨b, off, ha, hb, fun i hi c f hf => ?_⟩
  obtain ⟨b', off', ha', _, hc'⟩ := (hG i).choose_spec.2 hi
  rw [ha] at ha'
  injection ha' with ha'
  injection ha' with e1 e2
  subst e1 e2
  cases c with
  | zero =>
    simp at hf
    subst hf
    rw [show off + (i * 1 + 0) = off + i by omega]
    exact hc'
  | succ c => simp at hf
end Go.Proofs.Ytmgjmglmjfjliab

/-
  What a struct argument holds, field by field.
-/
import Derived.Test.YtmgjmglmjfjliabHas
namespace Go.Proofs.Ytmgjmglmjfjliab
set_option linter.unusedVariables false
set_option linter.unusedSimpArgs false
theorem has_int {w : World} {t : Ty} {l : List Value} (h : Has w (.cons .int t) l) : ∃ (n : Int) (r : List Value), l = .int .i64 n :: r ∧ (-9223372036854775808 ≤ n ∧ n ≤ 9223372036854775807) ∧ Has w t r := by
  obtain ⟨ca, cb, rfl, ⟨n, rfl, h1, h2⟩, hb⟩ := h
  exact ⟨n, cb, rfl, ⟨h1, h2⟩, hb⟩
theorem has_bool {w : World} {t : Ty} {l : List Value} (h : Has w (.cons .bool t) l) : ∃ (n : Bool) (r : List Value), l = .bool n :: r ∧ Has w t r := by
  obtain ⟨ca, cb, rfl, ⟨n, rfl⟩, hb⟩ := h
  exact ⟨n, cb, rfl, hb⟩
theorem has_nil {w : World} {l : List Value} (h : Has w .nil l) : l = [] := h
theorem arr_of {cs : Array Value} {l : List Value} (h : cs.toList = l) : cs = l.toArray := by rw [← h]
theorem has_iii {w : World} {cs : Array Value} (h : Has w (.cons .int (.cons .int (.cons .int .nil))) cs.toList) : ∃ a b c : Int, cs = #[.int .i64 a, .int .i64 b, .int .i64 c] ∧ (-9223372036854775808 ≤ a ∧ a ≤ 9223372036854775807) ∧ (-9223372036854775808 ≤ b ∧ b ≤ 9223372036854775807) ∧ (-9223372036854775808 ≤ c ∧ c ≤ 9223372036854775807) := by
  obtain ⟨a, r1, e1, ha, h⟩ := has_int h
  obtain ⟨b, r2, rfl, hb, h⟩ := has_int h
  obtain ⟨c, r3, rfl, hc, h⟩ := has_int h
  obtain rfl := has_nil h
  exact ⟨a, b, c, arr_of e1, ha, hb, hc⟩
theorem has_iiii {w : World} {cs : Array Value} (h : Has w (.cons .int (.cons .int (.cons .int (.cons .int .nil)))) cs.toList) : ∃ a b c d : Int, cs = #[.int .i64 a, .int .i64 b, .int .i64 c, .int .i64 d] ∧ (-9223372036854775808 ≤ a ∧ a ≤ 9223372036854775807) ∧ (-9223372036854775808 ≤ b ∧ b ≤ 9223372036854775807) ∧ (-9223372036854775808 ≤ c ∧ c ≤ 9223372036854775807) ∧ (-9223372036854775808 ≤ d ∧ d ≤ 9223372036854775807) := by
  obtain ⟨a, r1, e1, ha, h⟩ := has_int h
  obtain ⟨b, r2, rfl, hb, h⟩ := has_int h
  obtain ⟨c, r3, rfl, hc, h⟩ := has_int h
  obtain ⟨d, r4, rfl, hd, h⟩ := has_int h
  obtain rfl := has_nil h
  exact ⟨a, b, c, d, arr_of e1, ha, hb, hc, hd⟩
end Go.Proofs.Ytmgjmglmjfjliab

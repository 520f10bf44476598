/-
  Trees of counts: old nodes under a new root, and a changed count, are seen. No program in sight.
-/
import Derived.Test.YtppeocfcdeiemaaSxTrN
namespace Go.Proofs.Ytppeocfcdeiemaa
set_option linter.unusedVariables false
set_option linter.unusedSimpArgs false
open Go.RowKit

theorem okW4_small {key l c x : Int} (hk : isW key = true) (hl : 0 ≤ l ∧ l ≤ 4294967295) (hc : 0 ≤ c ∧ c ≤ 4294967295) (hx : 0 ≤ x ∧ x ≤ 4294967295) : okW4 key l c x = true := by
  have h1 : isW l = true := btw_yes hl
  have h2 : isW c = true := btw_yes hc
  have h3 : isW x = true := btw_yes hx
  simp only [okW4, hk, h1, h2, h3, Bool.and_self]
theorem isW_small {x : Int} (hx : 0 ≤ x ∧ x ≤ 4294967295) : isW x = true := btw_yes hx
theorem GoodT.oldNodes {key root : Int} {mc mt lc lt : Nat → Int} {b : Int} (h : GoodT key root mc mt lc lt b) (hb : b + 1 ≤ 1000000000) {j : Int} (h0 : 0 ≤ j ∧ j ≤ 7) : lcOk key (root + 1) 2 8 mc mt lc lt j = false := by
  obtain ⟨n, rfl⟩ : ∃ n : Nat, j = n := ⟨j.toNat, by omega⟩
  have e1 : ((n : Int) / 4).toNat = n / 4 := by omega
  have e2 : (n : Int) / 4 = ((n / 4 : Nat) : Int) := by omega
  have hm := h.hmid (n / 4) (by omega)
  have hr := h.hroot
  cases hc : lcOk key (root + 1) 2 8 mc mt lc lt (n : Int)
  · rfl
  · exfalso
    simp only [lcOk, Bool.and_eq_true] at hc
    have he := eq_of_beq hc.1.2
    rw [e1, hm.2, e2] at he
    exact tagW_counter (okW4_small h.hkey (by omega) (by omega) (by omega)) (isW_small (by omega)) (by omega) he
/-- A leaf whose count was raised by d. -/
theorem GoodT.forged {key root : Int} {mc mt lc lt lc' : Nat → Int} {b d : Int} (h : GoodT key root mc mt lc lt b) (hb : b + d ≤ 1000000000) (hd : 1 ≤ d) {k : Nat} (hk : k < 8) (hl : lc' k = lc k + d) : lcOk key root 2 8 mc mt lc' lt (k : Int) = false := by
  have e1 : ((k : Int) / 4).toNat = k / 4 := by omega
  have hm := h.hmid (k / 4) (by omega)
  have hf := h.hleaf k hk
  cases hc : lcOk key root 2 8 mc mt lc' lt (k : Int)
  · rfl
  · exfalso
    simp only [lcOk, Bool.and_eq_true] at hc
    have he := eq_of_beq hc.2
    rw [Int.toNat_natCast, e1, hf.2, hl] at he
    exact tagW_word (okW4_small h.hkey (by omega) (by omega) (by omega)) (isW_small (by omega)) (by omega) he
theorem GoodT.other {key root : Int} {mc mt lc lt lc' : Nat → Int} {b : Int} (h : GoodT key root mc mt lc lt b) (hb : b ≤ 1000000000) {j : Nat} (hj : j < 8) (hl : lc' j = lc j) : lcOk key root 2 8 mc mt lc' lt (j : Int) = true := by
  have := h.lc hb (j := (j : Int)) (by omega)
  simp only [lcOk, Int.toNat_natCast] at this ⊢
  rw [hl]
  exact this
end Go.Proofs.Ytppeocfcdeiemaa

/-
  Whatever single bits are wrong, a run of the link brings over every command once and in order. No program in sight.
-/
import Derived.Test.YtkfinkolllpcgaaSxRun0
import Derived.Test.YtkfinkolllpcgaaSxFlip
namespace Go.Proofs.Ytkfinkolllpcgaa
set_option linter.unusedVariables false
set_option linter.unusedSimpArgs false
open Go.RowKit

def badN (q : Nat → Int) : Nat → Nat
  | 0 => 0
  | j + 1 => badN q j + if q j = 0 then 0 else 1
def cmC (n : Nat) (f0 f1 f2 f3 : Nat → Int) : Prop := ∀ i, i < n → formB (f0 i) (f1 i) (f2 i) (f3 i) = true
theorem badN_le (q : Nat → Int) : ∀ j, badN q j ≤ j := by
  intro j
  induction j with
  | zero => exact Nat.le_refl _
  | succ j ih => simp only [badN]; split <;> omega
/-- What holds of the state after j words. -/
structure LkJ (fN m : Nat) (f0 f1 f2 f3 q : Nat → Int) (j : Nat) (s : LkD) : Prop where
  nx : s.nx = s.rn
  cnt : s.cnt = s.rn
  rn : s.rn ≤ fN
  cs : ∀ i, i < s.rn → s.c0 i = f0 i ∧ s.c1 i = f1 i ∧ s.c2 i = f2 i ∧ s.c3 i = f3 i
  j : j = s.rn + badN q (min j m)
theorem xor_zero {x : Int} (h : 0 ≤ x ∧ x < 4294967296) : bits .xor .i64 x 0 = x := by
  obtain ⟨n, rfl⟩ : ∃ n : Nat, x = n := ⟨x.toNat, by omega⟩
  have := bits_xor_i64 n 0 (by omega) (by omega)
  simpa using this
theorem lkGo_link {fN m : Nat} {f0 f1 f2 f3 q : Nat → Int} (hf : cmC fN f0 f1 f2 f3) (hn : fN ≤ 8) (hq : ∀ i, i < m → q i = 0 ∨ ∃ e : Nat, e < 15 ∧ q i = ((2 ^ e : Nat) : Int)) (hm : m ≤ 30) :
    ∀ (k j : Nat) (s : LkD), LkJ fN m f0 f1 f2 f3 q j s → 300 ≤ j + k →
      LkJ fN m f0 f1 f2 f3 q (lkGo fN (fr f0 f1 f2 f3) m q k j s).1 (lkGo fN (fr f0 f1 f2 f3) m q k j s).2 ∧ (lkGo fN (fr f0 f1 f2 f3) m q k j s).2.rn = fN := by
  intro k
  induction k with
  | zero =>
    intro j s hs hj
    exfalso
    have h1 := hs.j
    have h2 := badN_le q (min j m)
    have h3 := hs.rn
    omega
  | succ k ih =>
    intro j s hs hj
    have h1 := hs.nx; have h2 := hs.cnt; have h3 := hs.rn; have h4 := hs.j
    simp only [lkGo]
    by_cases hlt : s.rn < fN
    · have hF := hf s.rn hlt
      have hff := frame_facts hF
      have hfr : fr f0 f1 f2 f3 s.nx.toNat = frameV (f0 s.rn) (f1 s.rn) (f2 s.rn) (f3 s.rn) := by
        rw [h1, Int.toNat_natCast]; rfl
      have hsn : sndB fN (fr f0 f1 f2 f3) s.nx = true := by
        simp only [sndB, Bool.and_eq_true]
        refine ⟨btw_mk' (by omega), ?_⟩
        rw [hfr]
        exact btw_mk' (by omega)
      have hv : sndV fN (fr f0 f1 f2 f3) s.nx = s.nx % 64 * 32768 + frameV (f0 s.rn) (f1 s.rn) (f2 s.rn) (f3 s.rn) := by
        simp only [sndV, hsn, if_true, hfr]
      have hX : lkX fN (fr f0 f1 f2 f3) s.nx = s.nx + 1 := by simp only [lkX, hsn, selZ, if_true, iadd]
      rw [if_pos hsn]
      refine ih (j + 1) _ ?_ (by omega)
      by_cases hbad : j < m ∧ q j ≠ 0
      · -- a wrong bit
        obtain ⟨e, he, hqe⟩ := (hq j hbad.1).resolve_left hbad.2
        have hw : lkW fN (fr f0 f1 f2 f3) m q j s.nx = bits .xor .i64 (((s.rn : Nat) : Int) * 32768 + frameV (f0 s.rn) (f1 s.rn) (f2 s.rn) (f3 s.rn)) ((2 ^ e : Nat) : Int) := by
          simp only [lkW, if_pos hbad.1, hv, hqe]
          congr 2
          rw [h1]
          omega
        have hok : rcvB s.cnt (lkW fN (fr f0 f1 f2 f3) m q j s.nx) = false := by rw [hw]; exact rcv_flip hF (by omega) he
        have hst : lkStep fN (fr f0 f1 f2 f3) m q j s = lkF fN (fr f0 f1 f2 f3) (lkW fN (fr f0 f1 f2 f3) m q j s.nx) s := by
          simp only [lkStep, lkO, hok]
          rfl
        rw [hst]
        generalize lkW fN (fr f0 f1 f2 f3) m q j s.nx = x at hok
        have hb : btw s.cnt 0 (s.nx + 1) = true := btw_mk' (by omega)
        refine ⟨?_, ?_, ?_, ?_, ?_⟩
        · simp only [lkF, lkB, hok, rcvZ, rcvN, hX, Bool.false_eq_true, if_false, hb, selZ, if_true]
          exact h2
        · simp only [lkF, lkB, hok, rcvZ, rcvN, Bool.false_eq_true, if_false]
          exact h2
        · simp only [lkF, lkB, hok, rcvN, Bool.false_eq_true, if_false]
          exact h3
        · intro i hi
          simp only [lkF, lkB, hok, rcvN, Bool.false_eq_true, if_false] at hi ⊢
          simp only [rcv0, rcv1, rcv2, rcv3, if_pos hi]
          exact hs.cs i hi
        · simp only [lkF, lkB, hok, rcvN, Bool.false_eq_true, if_false]
          have e1 : min (j + 1) m = min j m + 1 := by omega
          have e2 : min j m = j := by omega
          rw [e1, badN, e2, if_neg hbad.2]
          rw [e2] at h4
          omega
      · -- as it was sent
        have hw : lkW fN (fr f0 f1 f2 f3) m q j s.nx = s.cnt % 64 * 32768 + frameV (f0 s.rn) (f1 s.rn) (f2 s.rn) (f3 s.rn) := by
          have e : s.nx = s.cnt := by rw [h1, h2]
          simp only [lkW]
          split
          · rename_i hjm
            have hq0 : q j = 0 := by
              by_cases h : q j = 0
              · exact h
              · exact absurd ⟨hjm, h⟩ hbad
            rw [hq0, hv, e, xor_zero (by omega)]
          · rw [hv, e]
        have hg := rcv_good hF (cnt := s.cnt) (by omega)
        have hok : rcvB s.cnt (lkW fN (fr f0 f1 f2 f3) m q j s.nx) = true := by rw [hw]; exact hg.1
        have hx : lkW fN (fr f0 f1 f2 f3) m q j s.nx % 32768 = frameV (f0 s.rn) (f1 s.rn) (f2 s.rn) (f3 s.rn) := by rw [hw]; exact hg.2
        have hst : lkStep fN (fr f0 f1 f2 f3) m q j s = lkT fN (fr f0 f1 f2 f3) (lkW fN (fr f0 f1 f2 f3) m q j s.nx) s := by
          simp only [lkStep, lkO, hok]
          rfl
        rw [hst]
        generalize lkW fN (fr f0 f1 f2 f3) m q j s.nx = x at hok hx
        have hrd := rd_frame hF
        have hin := inW s.cnt (by omega)
        refine ⟨?_, ?_, ?_, ?_, ?_⟩
        · simp only [lkT, lkB, hok, rcvN, hX, if_true]
          omega
        · simp only [lkT, lkB, hok, rcvZ, rcvN, if_true, hin]
          omega
        · simp only [lkT, lkB, hok, rcvN, if_true]
          omega
        · intro i hi
          simp only [lkT, lkB, hok, rcvN, if_true] at hi ⊢
          by_cases hir : i < s.rn
          · simp only [rcv0, rcv1, rcv2, rcv3, if_pos hir]
            exact hs.cs i hir
          · have hie : i = s.rn := by omega
            subst hie
            simp only [rcv0, rcv1, rcv2, rcv3, if_neg hir, hx]
            exact hrd.2
        · simp only [lkT, lkB, hok, rcvN, if_true]
          by_cases hjm : j < m
          · have hq0 : q j = 0 := by
              by_cases h : q j = 0
              · exact h
              · exact absurd ⟨hjm, h⟩ hbad
            have e1 : min (j + 1) m = min j m + 1 := by omega
            have e2 : min j m = j := by omega
            rw [e1, badN, e2, if_pos hq0]
            rw [e2] at h4
            omega
          · have e1 : min (j + 1) m = min j m := by omega
            rw [e1]
            omega
    · have hsn : sndB fN (fr f0 f1 f2 f3) s.nx = false := by
        have : btw s.nx 0 ((fN : Int) - 1) = false := by
          cases hb : btw s.nx 0 ((fN : Int) - 1)
          · rfl
          · have := btw_facts' hb
            omega
        simp only [sndB, this, Bool.false_and]
      rw [if_neg (by simp [hsn])]
      exact ⟨hs, by show s.rn = fN; omega⟩
theorem LkJ.zero (fN m : Nat) (f0 f1 f2 f3 q : Nat → Int) : LkJ fN m f0 f1 f2 f3 q 0 lk0 := ⟨rfl, rfl, Nat.zero_le _, fun i hi => absurd hi (Nat.not_lt_zero i), by simp [lk0, badN]⟩
end Go.Proofs.Ytkfinkolllpcgaa

/-
  One wrong symbol.
-/
import Derived.Test.YtmgjmglmjfjliabSxFA
import Derived.Test.YtmgjmglmjfjliabSxNest
namespace Go.Proofs.Ytmgjmglmjfjliab
set_option linter.unusedVariables false
set_option linter.unusedSimpArgs false
open Go.RowKit
set_option maxRecDepth 100000
set_option maxHeartbeats 8000000

def encL : Bool := allN 3 fun j => LE.eqB 8 ((synE j).sub encE) .o
theorem encL_ok : encL = true := by kernel_rfl
/-- A codeword has no syndrome. -/
theorem syn_enc {d : Nat → Int} (h : ∀ i, i < 8 → el (d i)) {j : Nat} (hj : j < 3) : syn (enc d) j = 0 := by
  have h1 := LE.eqI 8 _ _ (allN_get encL_ok hj) h
  rw [LE.sub_ei] at h1
  exact h1
theorem xor_0l {x : Int} (h : el x) : bits .xor .i64 0 x = x := by
  obtain ⟨m, rfl, hm⟩ := el_nat h
  show xorI ((0 : Nat) : Int) _ = _
  rw [xorI_nat (by omega) (by omega)]
  have : Nat.xor 0 m = m := Nat.zero_xor m
  rw [this]
theorem xor_back {x y : Int} (hx : el x) (hy : el y) : bits .xor .i64 (bits .xor .i64 x y) y = x := by
  obtain ⟨m, rfl, hm⟩ := el_nat hx
  obtain ⟨n, rfl, hn⟩ := el_nat hy
  show xorI (xorI (m : Int) (n : Int)) _ = _
  rw [xorI_nat (by omega) (by omega)]
  have hl : Nat.xor m n < 16 := Nat.xor_lt_two_pow (n := 4) hm hn
  rw [xorI_nat (by omega) (by omega)]
  have : Nat.xor (Nat.xor m n) n = m := by
    show (m ^^^ n) ^^^ n = m
    rw [Nat.xor_assoc, Nat.xor_self, Nat.xor_zero]
  rw [this]
def oneL : Bool := allN 11 fun p => allN 16 fun e => Nat.beq e 0 || (match posZ e (gfN e (pwL p)) (gfN e (gfN (pwL p) (pwL p))) with | .ofNat m => Nat.beq m p | .negSucc _ => false)
theorem oneL_ok : oneL = true := by kernel_rfl
theorem pos_one {p e : Nat} (hp : p < 11) (he : e < 16) (h0 : e ≠ 0) : posZ e (gfN e (pwL p)) (gfN e (gfN (pwL p) (pwL p))) = (p : Int) := by
  have h := allN_get (allN_get oneL_ok hp) he
  rw [Bool.or_eq_true] at h
  rcases h with h | h
  · exact absurd (beqN h) h0
  · revert h
    cases posZ e (gfN e (pwL p)) (gfN e (gfN (pwL p) (pwL p))) <;> intro h
    · rw [beqN h]
      rfl
    · cases h
/-- One place of a word without syndrome is turned. -/
theorem bent_syn {f g : Nat → Int} {p : Nat} {e : Int} (hp : p < 11) (hf : ∀ i, i < 11 → el (f i)) (hs : ∀ j, j < 3 → syn f j = 0) (he : el e) (hg : ∀ i, i < 11 → g i = if i = p then bits .xor .i64 (f i) e else f i) :
    syn g 0 = e ∧ syn g 1 = gfM e ((pwL p : Nat) : Int) ∧ syn g 2 = gfM e ((gfN (pwL p) (pwL p) : Nat) : Int) := by
  have hc : ∀ j, j < 3 → syn g j = gfM e ((cofN p j : Nat) : Int) := fun j hj => by
    have h1 := syn_turn hp hf he hg hj
    rw [hs j hj] at h1
    rw [h1]
    refine xor_0l (el_gf he ?_)
    rcases (by omega : j = 0 ∨ j = 1 ∨ j = 2) with rfl | rfl | rfl
    · exact (⟨by decide, by decide⟩ : el ((1 : Nat) : Int))
    · exact el_pw p
    · have h2 := el_gf (el_pw p) (el_pw p)
      simp only [gfM, Int.toNat_natCast] at h2
      exact h2
  refine ⟨?_, hc 1 (by omega), hc 2 (by omega)⟩
  have h0 := hc 0 (by omega)
  rw [h0]
  exact gfM_1 he
theorem bent_cor {f g : Nat → Int} {p : Nat} {e : Int} (hp : p < 11) (hf : ∀ i, i < 11 → el (f i)) (hs : ∀ j, j < 3 → syn f j = 0) (he : el e) (h0 : e ≠ 0) (hg : ∀ i, i < 11 → g i = if i = p then bits .xor .i64 (f i) e else f i) :
    corC g = 1 ∧ ∀ i, i < 11 → corW g i = f i := by
  obtain ⟨s0, s1, s2⟩ := bent_syn hp hf hs he hg
  have hP : corP g = (p : Int) := by
    obtain ⟨m, rfl, hm⟩ := el_nat he
    unfold corP
    rw [s0, s1, s2]
    simp only [gfM, Int.toNat_natCast]
    exact pos_one hp hm (by omega)
  have hz : zerB g = false := by
    cases hz : zerB g
    · rfl
    · simp only [zerB, Bool.and_eq_true, beq_iff_eq] at hz
      rw [s0] at hz
      exact absurd hz.1.1 h0
  refine ⟨?_, fun i hi => ?_⟩
  · unfold corC
    rw [hz, hP]
    simp
  · unfold corW
    rw [hP, s0, hg i hi]
    by_cases e1 : i = p
    · subst e1
      rw [if_pos rfl, if_pos rfl]
      exact xor_back (hf i hi) he
    · rw [if_neg e1, if_neg (by omega)]
theorem clean_cor {f : Nat → Int} (hs : ∀ j, j < 3 → syn f j = 0) : corC f = 0 := by
  unfold corC
  have : zerB f = true := by simp [zerB, hs 0 (by omega), hs 1 (by omega), hs 2 (by omega)]
  rw [this]
  rfl
theorem bent_no {f g h : Nat → Int} {p : Nat} {e : Int} (hp : p < 11) (hf : ∀ i, i < 11 → el (f i)) (hs : ∀ j, j < 3 → syn f j = 0) (he : el e) (h0 : e ≠ 0) (hg : ∀ i, i < 11 → g i = if i = p then bits .xor .i64 (f i) e else f i) (hh : syn h 0 = 0) : ¬ ∀ i, i < 11 → h i = g i := fun q => by
  have h1 := syn_congr q (j := 0) (by omega)
  rw [hh, (bent_syn hp hf hs he hg).1] at h1
  exact h0 h1.symm
end Go.Proofs.Ytmgjmglmjfjliab

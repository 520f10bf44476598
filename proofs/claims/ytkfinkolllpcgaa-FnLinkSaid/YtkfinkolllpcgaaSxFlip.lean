/-
  One wrong bit of a frame is seen: the parity of all fifteen bits.
-/
import Derived.Test.YtkfinkolllpcgaaSxRcv
namespace Go.Proofs.Ytkfinkolllpcgaa
set_option linter.unusedVariables false
set_option linter.unusedSimpArgs false
open Go.RowKit

theorem xor_mod2 (a b : Nat) : (a ^^^ b) % 2 = (a + b) % 2 := by
  have h : (a ^^^ b) % 2 ^ 1 = a % 2 ^ 1 ^^^ b % 2 ^ 1 := Nat.xor_mod_two_pow
  simp only [Nat.pow_one] at h
  rw [h]
  rcases Nat.mod_two_eq_zero_or_one a with ha | ha <;> rcases Nat.mod_two_eq_zero_or_one b with hb | hb <;> rw [ha, hb]
  · show 0 = _; omega
  · show 1 = _; omega
  · show 1 = _; omega
  · show 0 = _; omega
theorem flip_cnt : ∀ k x e, e < k → cntN k (x ^^^ 2 ^ e) % 2 = (cntN k x + 1) % 2 := by
  intro k
  induction k with
  | zero => intro x e h; omega
  | succ k ih =>
    intro x e h
    simp only [cntN]
    have h1 : (x ^^^ 2 ^ e) % 2 = (x + 2 ^ e) % 2 := xor_mod2 _ _
    have h2 : (x ^^^ 2 ^ e) / 2 = x / 2 ^^^ 2 ^ e / 2 := Nat.xor_div_two
    rw [h1, h2]
    cases e with
    | zero =>
      simp only [Nat.pow_zero, show 1 / 2 = 0 from rfl, Nat.xor_zero]
      omega
    | succ e =>
      have h3 : 2 ^ (e + 1) / 2 = 2 ^ e := by omega
      rw [h3]
      have h4 := ih (x / 2) e (by omega)
      omega
theorem cnt_mod : ∀ k x, cntN k (x % 2 ^ k) = cntN k x := by
  intro k
  induction k with
  | zero => intro x; rfl
  | succ k ih =>
    intro x
    simp only [cntN]
    have h1 : x % 2 ^ (k + 1) % 2 = x % 2 := Nat.mod_mod_of_dvd _ (by rw [Nat.pow_succ]; exact Nat.dvd_mul_left _ _)
    have h2 : x % 2 ^ (k + 1) / 2 = x / 2 % 2 ^ k := by
      rw [Nat.pow_succ, Nat.mul_comm, Nat.mod_mul_right_div_self]
    rw [h1, h2, ih]
theorem xor_low (a F e : Nat) (hF : F < 32768) (he : e < 15) : (a * 32768 + F) ^^^ 2 ^ e = a * 32768 + (F ^^^ 2 ^ e) := by
  have hp : 2 ^ e < 2 ^ 15 := Nat.pow_lt_pow_right (by decide) he
  have hx : F ^^^ 2 ^ e < 2 ^ 15 := Nat.xor_lt_two_pow hF hp
  have h1 : ((a * 32768 + F) ^^^ 2 ^ e) / 2 ^ 15 = (a * 32768 + F) / 2 ^ 15 ^^^ 2 ^ e / 2 ^ 15 := Nat.xor_div_two_pow
  have h2 : ((a * 32768 + F) ^^^ 2 ^ e) % 2 ^ 15 = (a * 32768 + F) % 2 ^ 15 ^^^ 2 ^ e % 2 ^ 15 := Nat.xor_mod_two_pow
  have e1 : (a * 32768 + F) / 2 ^ 15 = a := by omega
  have e2 : (a * 32768 + F) % 2 ^ 15 = F := by omega
  rw [e1, Nat.div_eq_of_lt hp, Nat.xor_zero] at h1
  rw [e2, Nat.mod_eq_of_lt hp] at h2
  have := Nat.div_add_mod ((a * 32768 + F) ^^^ 2 ^ e) (2 ^ 15)
  rw [h1, h2] at this
  omega

theorem rd_even {w : Int} (hw : 0 ≤ w ∧ w ≤ 32767) (h : rdB w = true) : cntN 15 w.toNat % 2 = 0 := by
  simp only [rdB, Bool.and_eq_true] at h
  have hq := eq_of_beq h.2
  generalize w % 16 = k at hq
  generalize w / 16 % 8 = b at hq
  generalize w / 128 % 16 = r at hq
  generalize w / 2048 % 8 = c at hq
  cases hf : formB k b r c
  · have := (frame_no hf).1
    omega
  · have h1 := (frame_facts hf).1
    have h2 := (pack_facts hf).2
    generalize packV k b r c = pk at h1 h2
    have h3 := ones_low (x := pk) ⟨by omega, by omega⟩
    have h4 : parV pk = ((cntN 14 pk.toNat % 2 : Nat) : Int) := by
      unfold parV
      rw [h3]
      rfl
    have hn : w.toNat = pk.toNat + 16384 * (cntN 14 pk.toNat % 2) := by omega
    have h5 := cnt_next 14 w.toNat
    have h6 := cnt_mod 14 w.toNat
    have h7 : w.toNat % 2 ^ 14 = pk.toNat := by omega
    have h8 : w.toNat / 2 ^ 14 % 2 = cntN 14 pk.toNat % 2 := by omega
    rw [h7] at h6
    rw [show cntN 15 w.toNat = cntN (14 + 1) w.toNat from rfl, h5, h8, ← h6]
    omega
theorem rd_frame {k b r c : Int} (h : formB k b r c = true) : rdB (frameV k b r c) = true ∧ rdK (frameV k b r c) = k ∧ rdBk (frameV k b r c) = b ∧ rdR (frameV k b r c) = r ∧ rdCo (frameV k b r c) = c := by
  have h1 := frame_facts h
  have h2 := pack_facts h
  have h3 := form_facts h
  have hp := par01 (packV k b r c)
  have e1 : frameV k b r c % 16 = k := by omega
  have e2 : frameV k b r c / 16 % 8 = b := by omega
  have e3 : frameV k b r c / 128 % 16 = r := by omega
  have e4 : frameV k b r c / 2048 % 8 = c := by omega
  have hr : rdB (frameV k b r c) = true := by
    unfold rdB
    rw [e1, e2, e3, e4, btw_mk' (by omega)]
    simp
  refine ⟨hr, ?_, ?_, ?_, ?_⟩
  · simp [rdK, hr, e1]
  · simp [rdBk, hr, e2]
  · simp [rdR, hr, e3]
  · simp [rdCo, hr, e4]
theorem flip_word {k b r c : Int} (h : formB k b r c = true) {a e : Nat} (ha : a < 64) (he : e < 15) :
    bits .xor .i64 ((a : Int) * 32768 + frameV k b r c) ((2 ^ e : Nat) : Int) = (a : Int) * 32768 + ((((frameV k b r c).toNat ^^^ 2 ^ e : Nat)) : Int) ∧ (frameV k b r c).toNat ^^^ 2 ^ e < 32768 ∧ rdB ((((frameV k b r c).toNat ^^^ 2 ^ e : Nat)) : Int) = false := by
  have h1 := frame_facts h
  generalize hF : frameV k b r c = F at h1
  obtain ⟨n, hn⟩ : ∃ n : Nat, F = n := ⟨F.toNat, by omega⟩
  subst hn
  have hp : 2 ^ e < 2 ^ 15 := Nat.pow_lt_pow_right (by decide) he
  have hlt : n ^^^ 2 ^ e < 2 ^ 15 := Nat.xor_lt_two_pow (by omega) hp
  have e1 : (a : Int) * 32768 + (n : Int) = ((a * 32768 + n : Nat) : Int) := by omega
  refine ⟨?_, by simpa using hlt, ?_⟩
  · rw [e1, bits_xor_i64 _ _ (by omega) (by omega), xor_low a n e (by omega) he]
    simp
  · cases hr : rdB (((n : Int).toNat ^^^ 2 ^ e : Nat) : Int)
    · rfl
    · have hb : (n : Int).toNat ^^^ 2 ^ e < 32768 := by simpa using hlt
      have h2 := rd_even (w := (((n : Int).toNat ^^^ 2 ^ e : Nat) : Int)) ⟨by omega, by omega⟩ hr
      have h3 := rd_frame h
      rw [hF] at h3
      have h4 := rd_even (w := (n : Int)) ⟨by omega, by omega⟩ h3.1
      have h5 := flip_cnt 15 n e he
      simp only [Int.toNat_natCast] at h2 h4
      omega
/-- A word with one wrong bit below 15 is not accepted. -/
theorem rcv_flip {k b r c : Int} (h : formB k b r c = true) {a e : Nat} {cnt : Int} (ha : a < 64) (he : e < 15) : rcvB cnt (bits .xor .i64 ((a : Int) * 32768 + frameV k b r c) ((2 ^ e : Nat) : Int)) = false := by
  obtain ⟨h1, h2, h3⟩ := flip_word h ha he
  rw [h1]
  generalize (frameV k b r c).toNat ^^^ 2 ^ e = y at h2 h3
  have : ((a : Int) * 32768 + (y : Int)) % 32768 = (y : Int) := by omega
  simp only [rcvB, this, h3, Bool.and_false]
/-- A word as it was sent is accepted by a receiver that counts as its sender. -/
theorem rcv_good {k b r c : Int} (h : formB k b r c = true) {cnt : Int} (hc : 0 ≤ cnt) : rcvB cnt (cnt % 64 * 32768 + frameV k b r c) = true ∧ (cnt % 64 * 32768 + frameV k b r c) % 32768 = frameV k b r c := by
  have h1 := frame_facts h
  have h3 := (rd_frame h).1
  have e2 : (cnt % 64 * 32768 + frameV k b r c) % 32768 = frameV k b r c := by omega
  refine ⟨?_, e2⟩
  have e1 : (cnt % 64 * 32768 + frameV k b r c) / 32768 = cnt % 64 := by omega
  have e3 : ¬ cnt < 0 := by omega
  simp only [rcvB, e1, e2, h3, btw_mk' (show 0 ≤ cnt % 64 * 32768 + frameV k b r c ∧ cnt % 64 * 32768 + frameV k b r c ≤ 2097151 by omega)]
  simp [e3]
end Go.Proofs.Ytkfinkolllpcgaa

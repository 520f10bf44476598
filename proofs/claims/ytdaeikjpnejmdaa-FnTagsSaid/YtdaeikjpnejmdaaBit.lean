/-
  One bit of a word, read and written.
-/
import Derived.Test.YtdaeikjpnejmdaaPure
namespace Go.Proofs.Ytdaeikjpnejmdaa
open Go.RowKit
def flipN (x i : Nat) : Nat := x ^^^ 2 ^ i
theorem p32 {i : Nat} (hi : i < 32) : 2 ^ i < 4294967296 := Nat.pow_lt_pow_right (a := 2) (by decide) hi
theorem flipN_lt {x i : Nat} (hx : x < 4294967296) (hi : i < 32) : flipN x i < 4294967296 := Nat.xor_lt_two_pow (n := 32) hx (p32 hi)
theorem flipN_ne (x i : Nat) : flipN x i ≠ x := by
  intro h
  have : (x ^^^ 2 ^ i).testBit i = x.testBit i := by unfold flipN at h; rw [h]
  rw [Nat.testBit_xor, Nat.testBit_two_pow] at this
  simp at this
theorem bits_or_i64 (a b : Nat) (ha : a < 4294967296) (hb : b < 4294967296) : bits .or .i64 (a : Int) (b : Int) = ((a ||| b : Nat) : Int) := by
  have hx : a ||| b < 2 ^ 32 := Nat.or_lt_two_pow (by omega) (by omega)
  have h1 : (BitVec.ofInt 64 (a : Int)).toNat = a := by simp; omega
  have h2 : (BitVec.ofInt 64 (b : Int)).toNat = b := by simp; omega
  show IntKind.i64.wrap (((BitVec.ofInt 64 (a : Int)) ||| (BitVec.ofInt 64 (b : Int))).toNat : Int) = _
  rw [BitVec.toNat_or, h1, h2, IntKind.wrap_i64]
  have : ((a ||| b : Nat) : Int) < 4294967296 := by omega
  omega
theorem bits_andNot_i64 (a b : Nat) (ha : a < 4294967296) (hb : b < 4294967296) : bits .andNot .i64 (a : Int) (b : Int) = ((a &&& (2 ^ 64 - (b + 1)) : Nat) : Int) := by
  have hx : a &&& (2 ^ 64 - (b + 1)) ≤ a := Nat.and_le_left
  have h1 : (BitVec.ofInt 64 (a : Int)).toNat = a := by simp; omega
  have h2 : (BitVec.ofInt 64 (b : Int)).toNat = b := by simp; omega
  show IntKind.i64.wrap (((BitVec.ofInt 64 (a : Int)) &&& ~~~(BitVec.ofInt 64 (b : Int))).toNat : Int) = _
  rw [BitVec.toNat_and, BitVec.toNat_not, h1, h2, IntKind.wrap_i64]
  rw [show 2 ^ 64 - 1 - b = 2 ^ 64 - (b + 1) by omega]
  generalize a &&& (2 ^ 64 - (b + 1)) = y at *
  omega
theorem bits_and1_i64 (a : Nat) (ha : a < 4294967296) : bits .and .i64 (a : Int) 1 = ((a % 2 : Nat) : Int) := by
  have h1 : (BitVec.ofInt 64 (a : Int)).toNat = a := by simp; omega
  have h2 : (BitVec.ofInt 64 (1 : Int)).toNat = 1 := by decide
  show IntKind.i64.wrap (((BitVec.ofInt 64 (a : Int)) &&& (BitVec.ofInt 64 (1 : Int))).toNat : Int) = _
  rw [BitVec.toNat_and, h1, h2, IntKind.wrap_i64, Nat.and_one_is_mod]
  omega
theorem bit_of {x i : Nat} (hx : x < 4294967296) : bits .and .i64 ((x : Int) / 2 ^ i) 1 = ((x >>> i % 2 : Nat) : Int) := by
  have e : ((x : Int) / 2 ^ i) = ((x / 2 ^ i : Nat) : Int) := by simp
  rw [e, bits_and1_i64 _ (Nat.lt_of_le_of_lt (Nat.div_le_self _ _) hx), Nat.shiftRight_eq_div_pow]
theorem bit_lt (x i : Nat) : x >>> i % 2 < 2 := Nat.mod_lt _ (by decide)
theorem with_bit {x i b : Nat} (hx : x < 4294967296) (hi : i < 32) (hb : b = 1 - x >>> i % 2) :
    bits .or .i64 (bits .andNot .i64 (x : Int) (wrap64 (2 ^ i))) (wrap64 ((b : Int) * 2 ^ i)) = ((flipN x i : Nat) : Int) := by
  have h2 := p32 hi
  have e1 : wrap64 (2 ^ i) = ((2 ^ i : Nat) : Int) := by
    have : ((2 : Int) ^ i) = ((2 ^ i : Nat) : Int) := by simp
    rw [this]
    generalize 2 ^ i = y at *
    unfold wrap64; omega
  have hb2 : b * 2 ^ i < 4294967296 := by
    have : b ≤ 1 := by omega
    have h3 := Nat.mul_le_mul_right (2 ^ i) this
    rw [Nat.one_mul] at h3
    exact Nat.lt_of_le_of_lt h3 h2
  have e2 : wrap64 ((b : Int) * 2 ^ i) = ((b * 2 ^ i : Nat) : Int) := by
    have : ((b : Int) * 2 ^ i) = ((b * 2 ^ i : Nat) : Int) := by simp
    rw [this]
    generalize b * 2 ^ i = y at *
    unfold wrap64; omega
  rw [e1, e2, bits_andNot_i64 _ _ hx h2, bits_or_i64 _ _ (Nat.lt_of_le_of_lt Nat.and_le_left hx) hb2]
  congr 1
  unfold flipN
  apply Nat.eq_of_testBit_eq
  intro j
  have hbit : x.testBit i = decide (x >>> i % 2 = 1) := by rw [Nat.testBit_eq_decide_div_mod_eq, Nat.shiftRight_eq_div_pow]
  rw [Nat.testBit_or, Nat.testBit_and, Nat.testBit_two_pow_sub_succ (by omega), Nat.testBit_xor, Nat.testBit_two_pow]
  have hl := bit_lt x i
  by_cases hj : j < 64
  · by_cases hij : i = j
    · subst hij
      rcases (show x >>> i % 2 = 0 ∨ x >>> i % 2 = 1 by omega) with h | h
      · have : b = 1 := by omega
        subst this
        simp [hbit, h]
      · have : b = 0 := by omega
        subst this
        simp [hbit, h]
    · rcases (show b = 0 ∨ b = 1 by omega) with rfl | rfl <;> simp [hj, hij]
  · have hxj : x.testBit j = false := Nat.testBit_lt_two_pow (Nat.lt_of_lt_of_le hx (Nat.pow_le_pow_right (n := 2) (by decide) (show 32 ≤ j by omega)))
    have hij : i ≠ j := by omega
    rcases (show b = 0 ∨ b = 1 by omega) with rfl | rfl <;> simp [hj, hij, hxj]

theorem sBitOf_any (x i t : Nat) (w : World) (hx : x < 4294967296) (hi : i < 32) (ht : t = x >>> i % 2) :
    Calls Try.prog 39 #[.int .i64 x, .int .i64 i] w fun e w' => e = .returned (.int .i64 t) ∧ w = w' := by
  have Ht := Lib.hid ht
  clear ht
  have b1 := isW_nat hx
  have b2 : btw (i : Int) 0 31 = true := btw_mk (by omega) (by omega)
  have hi0 : (0 : Int) ≤ (i : Int) := by omega
  have hi1 : (i : Int) ≤ 31 := by omega
  have H := Lib.hid (bit_of (i := i) hx)
  go_enter Try.func39, Try.ntmps39
  go_wp2_with (first | (go_at_call 37; refine (sIsWord_any _ _ true b1).mono ?_; rintro e w' ⟨rfl, rfl⟩) | (go_at_call 81; refine (l01In_any _ _ _ _ true b2).mono ?_; rintro e w' ⟨rfl, rfl⟩))
  go_ret
  exact ⟨by rw [Ht.out, ← H.out]; rfl, rfl⟩
theorem sWithBit_any (x i b y : Nat) (w : World) (hx : x < 4294967296) (hi : i < 32) (hb : b = 1 - x >>> i % 2) (hy : y = flipN x i) :
    Calls Try.prog 38 #[.int .i64 x, .int .i64 i, .int .i64 b] w fun e w' => e = .returned (.int .i64 y) ∧ w = w' := by
  have Hy := Lib.hid hy
  clear hy
  have b1 := isW_nat hx
  have b2 : btw (i : Int) 0 31 = true := btw_mk (by omega) (by omega)
  have b3 : btw (b : Int) 0 1 = true := btw_mk (by omega) (by omega)
  have hi0 : (0 : Int) ≤ (i : Int) := by omega
  have hi1 : (i : Int) ≤ 31 := by omega
  have H := Lib.hid (with_bit hx hi hb)
  clear hb
  go_enter Try.func38, Try.ntmps38
  go_wp2_with fail
  refine (sIsWord_any _ _ true b1).mono ?_
  rintro e w' ⟨rfl, rfl⟩
  go_wp2_with fail
  refine (l01In_any _ _ _ _ true b2).mono ?_
  rintro e w' ⟨rfl, rfl⟩
  go_wp2_with fail
  refine (l01In_any _ _ _ _ true b3).mono ?_
  rintro e w' ⟨rfl, rfl⟩
  go_wp2
  go_ret
  exact ⟨by rw [Hy.out, ← H.out]; rfl, rfl⟩
end Go.Proofs.Ytdaeikjpnejmdaa

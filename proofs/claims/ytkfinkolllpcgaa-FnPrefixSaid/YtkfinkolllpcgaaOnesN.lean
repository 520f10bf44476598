/-
  Bits counted, for small numbers.
-/
import Derived.Test.YtkfinkolllpcgaaBase
namespace Go.Proofs.Ytkfinkolllpcgaa
set_option linter.unusedVariables false
set_option linter.unusedSimpArgs false
open Go.RowKit
set_option maxRecDepth 100000
set_option maxHeartbeats 8000000

def ocA (x : Int) : Int := IntKind.u64.wrap (bits .and .u64 (x / 2) 6148914691236517205 + bits .and .u64 x 6148914691236517205)
def ocB (x : Int) : Int := IntKind.u64.wrap (bits .and .u64 (x / 4) 3689348814741910323 + bits .and .u64 x 3689348814741910323)
def ocC (x : Int) : Int := bits .and .u64 (IntKind.u64.wrap (x / 16 + x)) 1085102592571150095
def ocD (x : Int) : Int := IntKind.u64.wrap (x + x / 256)
def ocE (x : Int) : Int := IntKind.u64.wrap (x + x / 65536)
def ocF (x : Int) : Int := IntKind.u64.wrap (x + x / 4294967296)
def onesV (x : Int) : Int := bits .and .i64 (IntKind.i64.wrap (ocF (ocE (ocD (ocC (ocB (ocA x))))))) 127
def cntN : Nat → Nat → Nat
  | 0, _ => 0
  | k + 1, x => x % 2 + cntN k (x / 2)
def onesOk (n : Nat) : Bool := decide (onesV (n : Int) = (cntN 14 n : Int))
def allFrom : Nat → Nat → Bool
  | 0, _ => true
  | k + 1, a => onesOk a && allFrom k (a + 1)
theorem allFrom_get : ∀ (k a : Nat), allFrom k a = true → ∀ n, a ≤ n → n < a + k → onesOk n = true := by
  intro k
  induction k with
  | zero => intro a _ n h1 h2; omega
  | succ k ih =>
    intro a h n h1 h2
    simp only [allFrom, Bool.and_eq_true] at h
    by_cases e : n = a
    · rw [e]; exact h.1
    · exact ih (a + 1) h.2 n (by omega) (by omega)
theorem allOnes0 : allFrom 1024 0 = true := by kernel_rfl
theorem allOnes1 : allFrom 1024 1024 = true := by kernel_rfl
theorem allOnes2 : allFrom 1024 2048 = true := by kernel_rfl
theorem allOnes3 : allFrom 1024 3072 = true := by kernel_rfl
theorem allOnes4 : allFrom 1024 4096 = true := by kernel_rfl
theorem allOnes5 : allFrom 1024 5120 = true := by kernel_rfl
theorem allOnes6 : allFrom 1024 6144 = true := by kernel_rfl
theorem allOnes7 : allFrom 1024 7168 = true := by kernel_rfl
theorem allOnes8 : allFrom 1024 8192 = true := by kernel_rfl
theorem allOnes9 : allFrom 1024 9216 = true := by kernel_rfl
theorem allOnes10 : allFrom 1024 10240 = true := by kernel_rfl
theorem allOnes11 : allFrom 1024 11264 = true := by kernel_rfl
theorem allOnes12 : allFrom 1024 12288 = true := by kernel_rfl
theorem allOnes13 : allFrom 1024 13312 = true := by kernel_rfl
theorem allOnes14 : allFrom 1024 14336 = true := by kernel_rfl
theorem allOnes15 : allFrom 1024 15360 = true := by kernel_rfl
theorem ones_low {x : Int} (h : 0 ≤ x ∧ x ≤ 16383) : onesV x = (cntN 14 x.toNat : Int) := by
  obtain ⟨n, rfl⟩ : ∃ n : Nat, x = n := ⟨x.toNat, by omega⟩
  have hn : n < 16384 := by omega
  have key : onesOk n = true := by
    by_cases h0 : n < 1024
    · exact allFrom_get _ _ allOnes0 n (by omega) (by omega)
    by_cases h1 : n < 2048
    · exact allFrom_get _ _ allOnes1 n (by omega) (by omega)
    by_cases h2 : n < 3072
    · exact allFrom_get _ _ allOnes2 n (by omega) (by omega)
    by_cases h3 : n < 4096
    · exact allFrom_get _ _ allOnes3 n (by omega) (by omega)
    by_cases h4 : n < 5120
    · exact allFrom_get _ _ allOnes4 n (by omega) (by omega)
    by_cases h5 : n < 6144
    · exact allFrom_get _ _ allOnes5 n (by omega) (by omega)
    by_cases h6 : n < 7168
    · exact allFrom_get _ _ allOnes6 n (by omega) (by omega)
    by_cases h7 : n < 8192
    · exact allFrom_get _ _ allOnes7 n (by omega) (by omega)
    by_cases h8 : n < 9216
    · exact allFrom_get _ _ allOnes8 n (by omega) (by omega)
    by_cases h9 : n < 10240
    · exact allFrom_get _ _ allOnes9 n (by omega) (by omega)
    by_cases h10 : n < 11264
    · exact allFrom_get _ _ allOnes10 n (by omega) (by omega)
    by_cases h11 : n < 12288
    · exact allFrom_get _ _ allOnes11 n (by omega) (by omega)
    by_cases h12 : n < 13312
    · exact allFrom_get _ _ allOnes12 n (by omega) (by omega)
    by_cases h13 : n < 14336
    · exact allFrom_get _ _ allOnes13 n (by omega) (by omega)
    by_cases h14 : n < 15360
    · exact allFrom_get _ _ allOnes14 n (by omega) (by omega)
    by_cases h15 : n < 16384
    · exact allFrom_get _ _ allOnes15 n (by omega) (by omega)
    omega
  rw [of_decide_eq_true key]
  rfl
theorem cnt_le : ∀ k x, cntN k x ≤ k := by
  intro k
  induction k with
  | zero => intro x; exact Nat.le_refl _
  | succ k ih => intro x; have := ih (x / 2); simp only [cntN]; omega
end Go.Proofs.Ytkfinkolllpcgaa

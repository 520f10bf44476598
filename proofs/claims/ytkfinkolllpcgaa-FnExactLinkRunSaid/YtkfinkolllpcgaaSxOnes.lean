/-
  Bits counted, for small numbers.
-/
import Derived.Test.YtkfinkolllpcgaaSxBtw
namespace Go.Proofs.Ytkfinkolllpcgaa
set_option linter.unusedVariables false
set_option linter.unusedSimpArgs false
open Go.RowKit
set_option maxRecDepth 100000
set_option maxHeartbeats 8000000

theorem btw_facts' {x lo hi : Int} (h : btw x lo hi = true) : lo ≤ x ∧ x ≤ hi := by simp [btw] at h; omega
theorem btw_mk' {x lo hi : Int} (h : lo ≤ x ∧ x ≤ hi) : btw x lo hi = true := by simp [btw]; omega
def ocA (x : Int) : Int := IntKind.u64.wrap (bits .and .u64 (x / 2) 6148914691236517205 + bits .and .u64 x 6148914691236517205)
def ocB (x : Int) : Int := IntKind.u64.wrap (bits .and .u64 (x / 4) 3689348814741910323 + bits .and .u64 x 3689348814741910323)
def ocC (x : Int) : Int := bits .and .u64 (IntKind.u64.wrap (x / 16 + x)) 1085102592571150095
def ocD (x : Int) : Int := IntKind.u64.wrap (x + x / 256)
def ocE (x : Int) : Int := IntKind.u64.wrap (x + x / 65536)
def ocF (x : Int) : Int := IntKind.u64.wrap (x + x / 4294967296)
def onesV (x : Int) : Int := bits .and .i64 (IntKind.i64.wrap (ocF (ocE (ocD (ocC (ocB (ocA x))))))) 127
theorem ones64_T (x : Int) : (exFn Try.prog {} 400 Try.f88 ([.a (.c (.u64 x))]) ([]) (fun v _ => v.den = .int .i64 (onesV x))) = (
  (∀ z0 : Int,
  (z0 = (x / (2 : Int)) →
  (∀ z1 : Int,
   (z1 = (bitsU BinOp.and z0 (6148914691236517205 : Int)) →
   (∀ z2 : Int,
    (z2 = (bitsU BinOp.and x (6148914691236517205 : Int)) →
    (∀ z3 : Int,
     (z3 = (wrapU (z1 + z2)) →
     (∀ z4 : Int,
      (z4 = (z3 / (4 : Int)) →
      (∀ z5 : Int,
       (z5 = (bitsU BinOp.and z4 (3689348814741910323 : Int)) →
       (∀ z6 : Int,
        (z6 = (bitsU BinOp.and z3 (3689348814741910323 : Int)) →
        (∀ z7 : Int,
         (z7 = (wrapU (z5 + z6)) →
         (∀ z8 : Int,
          (z8 = (z7 / (16 : Int)) →
          (∀ z9 : Int,
           (z9 = (wrapU (z8 + z7)) →
           (∀ z10 : Int,
            (z10 = (bitsU BinOp.and z9 (1085102592571150095 : Int)) →
            (∀ z11 : Int,
             (z11 = (z10 / (256 : Int)) →
             (∀ z12 : Int,
              (z12 = (wrapU (z10 + z11)) →
              (∀ z13 : Int,
               (z13 = (z12 / (65536 : Int)) →
               (∀ z14 : Int,
                (z14 = (wrapU (z12 + z13)) →
                (∀ z15 : Int,
                 (z15 = (z14 / (4294967296 : Int)) →
                 (∀ z16 : Int,
                  (z16 = (wrapU (z14 + z15)) →
                  (Value.int IntKind.i64 (bits BinOp.and .i64 (wrapI z16) (127 : Int))) = (Value.int IntKind.i64 (onesV x))))))))))))))))))))))))))))))))))))) := by kernel_rfl
theorem ones64_any (x : Int) (w : World) : Calls Try.prog 88 #[.int .u64 x] w fun e w' => e = .returned (.int .i64 (onesV x)) ∧ Below w.heap.size w w' := by
  refine fnB (tb := []) trivial Try.func88 (@Eq.mpr _ _ (ones64_T x) ?_) (HS.start w (fun _ => False)) (fun v ch' w' hk hs => ⟨by rw [hk], hs.below⟩)
  intro z0 h0 z1 h1 z2 h2 z3 h3 z4 h4 z5 h5 z6 h6 z7 h7 z8 h8 z9 h9 z10 h10 z11 h11 z12 h12 z13 h13 z14 h14 z15 h15 z16 h16
  have a3 : z3 = ocA x := by rw [h3, h1, h2, h0]; rfl
  have a7 : z7 = ocB (ocA x) := by rw [← a3, h7, h5, h6, h4]; rfl
  have a10 : z10 = ocC (ocB (ocA x)) := by rw [← a7, h10, h9, h8]; rfl
  have a12 : z12 = ocD (ocC (ocB (ocA x))) := by rw [← a10, h12, h11]; rfl
  have a14 : z14 = ocE (ocD (ocC (ocB (ocA x)))) := by rw [← a12, h14, h13]; rfl
  have a16 : z16 = ocF (ocE (ocD (ocC (ocB (ocA x))))) := by rw [← a14, h16, h15]; rfl
  rw [a16]
  rfl
def sOnes : Sm := fun args ch k => match args with
  | [.a (.c (.u64 x))] => k (.a (.c (.int (onesV x)))) ch []
  | _ => False
theorem sOnes_ok : SmOK Try.prog 88 sOnes := by
  refine smB Try.call88 fun args ch k w X h0 hs => ?_
  unfold sOnes at h0
  split at h0
  · rename_i x
    exact ⟨_, h0, ones64_any x w⟩
  · exact h0.elim
def cntN : Nat → Nat → Nat
  | 0, _ => 0
  | k + 1, x => x % 2 + cntN k (x / 2)
def onesOk (n : Nat) : Bool := decide (onesV (n : Int) = (cntN 14 n : Int))
def allFrom : Nat → Nat → Bool
  | 0, _ => true
  | k + 1, a => onesOk a && allFrom k (a + 1)
theorem allFrom_get : ∀ (k a : Nat), allFrom k a = true → ∀ n, a ≤ n → n < a + k → onesOk n = true := by
  intro k
  induction k with
  | zero => intro a _ n h1 h2; omega
  | succ k ih =>
    intro a h n h1 h2
    simp only [allFrom, Bool.and_eq_true] at h
    by_cases e : n = a
    · rw [e]; exact h.1
    · exact ih (a + 1) h.2 n (by omega) (by omega)
theorem allOnes0 : allFrom 1024 0 = true := by kernel_rfl
theorem allOnes1 : allFrom 1024 1024 = true := by kernel_rfl
theorem allOnes2 : allFrom 1024 2048 = true := by kernel_rfl
theorem allOnes3 : allFrom 1024 3072 = true := by kernel_rfl
theorem allOnes4 : allFrom 1024 4096 = true := by kernel_rfl
theorem allOnes5 : allFrom 1024 5120 = true := by kernel_rfl
theorem allOnes6 : allFrom 1024 6144 = true := by kernel_rfl
theorem allOnes7 : allFrom 1024 7168 = true := by kernel_rfl
theorem allOnes8 : allFrom 1024 8192 = true := by kernel_rfl
theorem allOnes9 : allFrom 1024 9216 = true := by kernel_rfl
theorem allOnes10 : allFrom 1024 10240 = true := by kernel_rfl
theorem allOnes11 : allFrom 1024 11264 = true := by kernel_rfl
theorem allOnes12 : allFrom 1024 12288 = true := by kernel_rfl
theorem allOnes13 : allFrom 1024 13312 = true := by kernel_rfl
theorem allOnes14 : allFrom 1024 14336 = true := by kernel_rfl
theorem allOnes15 : allFrom 1024 15360 = true := by kernel_rfl
theorem ones_low {x : Int} (h : 0 ≤ x ∧ x ≤ 16383) : onesV x = (cntN 14 x.toNat : Int) := by
  obtain ⟨n, rfl⟩ : ∃ n : Nat, x = n := ⟨x.toNat, by omega⟩
  have hn : n < 16384 := by omega
  have key : onesOk n = true := by
    by_cases h0 : n < 1024
    · exact allFrom_get _ _ allOnes0 n (by omega) (by omega)
    by_cases h1 : n < 2048
    · exact allFrom_get _ _ allOnes1 n (by omega) (by omega)
    by_cases h2 : n < 3072
    · exact allFrom_get _ _ allOnes2 n (by omega) (by omega)
    by_cases h3 : n < 4096
    · exact allFrom_get _ _ allOnes3 n (by omega) (by omega)
    by_cases h4 : n < 5120
    · exact allFrom_get _ _ allOnes4 n (by omega) (by omega)
    by_cases h5 : n < 6144
    · exact allFrom_get _ _ allOnes5 n (by omega) (by omega)
    by_cases h6 : n < 7168
    · exact allFrom_get _ _ allOnes6 n (by omega) (by omega)
    by_cases h7 : n < 8192
    · exact allFrom_get _ _ allOnes7 n (by omega) (by omega)
    by_cases h8 : n < 9216
    · exact allFrom_get _ _ allOnes8 n (by omega) (by omega)
    by_cases h9 : n < 10240
    · exact allFrom_get _ _ allOnes9 n (by omega) (by omega)
    by_cases h10 : n < 11264
    · exact allFrom_get _ _ allOnes10 n (by omega) (by omega)
    by_cases h11 : n < 12288
    · exact allFrom_get _ _ allOnes11 n (by omega) (by omega)
    by_cases h12 : n < 13312
    · exact allFrom_get _ _ allOnes12 n (by omega) (by omega)
    by_cases h13 : n < 14336
    · exact allFrom_get _ _ allOnes13 n (by omega) (by omega)
    by_cases h14 : n < 15360
    · exact allFrom_get _ _ allOnes14 n (by omega) (by omega)
    by_cases h15 : n < 16384
    · exact allFrom_get _ _ allOnes15 n (by omega) (by omega)
    omega
  rw [of_decide_eq_true key]
  rfl
theorem cnt_le : ∀ k x, cntN k x ≤ k := by
  intro k
  induction k with
  | zero => intro x; exact Nat.le_refl _
  | succ k ih => intro x; have := ih (x / 2); simp only [cntN]; omega
end Go.Proofs.Ytkfinkolllpcgaa

/-
  Bits counted.
-/
import Derived.Test.YtkfinkolllpcgaaSxBtw
import Derived.Test.YtkfinkolllpcgaaOnesN
namespace Go.Proofs.Ytkfinkolllpcgaa
set_option linter.unusedVariables false
set_option linter.unusedSimpArgs false
open Go.RowKit
set_option maxRecDepth 100000
set_option maxHeartbeats 8000000

theorem btw_facts' {x lo hi : Int} (h : btw x lo hi = true) : lo ≤ x ∧ x ≤ hi := by simp [btw] at h; omega
theorem btw_mk' {x lo hi : Int} (h : lo ≤ x ∧ x ≤ hi) : btw x lo hi = true := by simp [btw]; omega
theorem ones64_T (x : Int) : (exFn Try.prog {} 400 Try.f88 ([.a (.c (.u64 x))]) ([]) (fun v _ => v.den = .int .i64 (onesV x))) = (
  (∀ z0 : Int,
  (z0 = (x / (2 : Int)) →
  (∀ z1 : Int,
   (z1 = (bitsU BinOp.and z0 (6148914691236517205 : Int)) →
   (∀ z2 : Int,
    (z2 = (bitsU BinOp.and x (6148914691236517205 : Int)) →
    (∀ z3 : Int,
     (z3 = (wrapU (z1 + z2)) →
     (∀ z4 : Int,
      (z4 = (z3 / (4 : Int)) →
      (∀ z5 : Int,
       (z5 = (bitsU BinOp.and z4 (3689348814741910323 : Int)) →
       (∀ z6 : Int,
        (z6 = (bitsU BinOp.and z3 (3689348814741910323 : Int)) →
        (∀ z7 : Int,
         (z7 = (wrapU (z5 + z6)) →
         (∀ z8 : Int,
          (z8 = (z7 / (16 : Int)) →
          (∀ z9 : Int,
           (z9 = (wrapU (z8 + z7)) →
           (∀ z10 : Int,
            (z10 = (bitsU BinOp.and z9 (1085102592571150095 : Int)) →
            (∀ z11 : Int,
             (z11 = (z10 / (256 : Int)) →
             (∀ z12 : Int,
              (z12 = (wrapU (z10 + z11)) →
              (∀ z13 : Int,
               (z13 = (z12 / (65536 : Int)) →
               (∀ z14 : Int,
                (z14 = (wrapU (z12 + z13)) →
                (∀ z15 : Int,
                 (z15 = (z14 / (4294967296 : Int)) →
                 (∀ z16 : Int,
                  (z16 = (wrapU (z14 + z15)) →
                  (Value.int IntKind.i64 (bits BinOp.and .i64 (wrapI z16) (127 : Int))) = (Value.int IntKind.i64 (onesV x))))))))))))))))))))))))))))))))))))) := by kernel_rfl
theorem ones64_any (x : Int) (w : World) : Calls Try.prog 88 #[.int .u64 x] w fun e w' => e = .returned (.int .i64 (onesV x)) ∧ Below w.heap.size w w' := by
  refine fnB (tb := []) trivial Try.func88 (@Eq.mpr _ _ (ones64_T x) ?_) (HS.start w (fun _ => False)) (fun v ch' w' hk hs => ⟨by rw [hk], hs.below⟩)
  intro z0 h0 z1 h1 z2 h2 z3 h3 z4 h4 z5 h5 z6 h6 z7 h7 z8 h8 z9 h9 z10 h10 z11 h11 z12 h12 z13 h13 z14 h14 z15 h15 z16 h16
  have a3 : z3 = ocA x := by rw [h3, h1, h2, h0]; rfl
  have a7 : z7 = ocB (ocA x) := by rw [← a3, h7, h5, h6, h4]; rfl
  have a10 : z10 = ocC (ocB (ocA x)) := by rw [← a7, h10, h9, h8]; rfl
  have a12 : z12 = ocD (ocC (ocB (ocA x))) := by rw [← a10, h12, h11]; rfl
  have a14 : z14 = ocE (ocD (ocC (ocB (ocA x)))) := by rw [← a12, h14, h13]; rfl
  have a16 : z16 = ocF (ocE (ocD (ocC (ocB (ocA x))))) := by rw [← a14, h16, h15]; rfl
  rw [a16]
  rfl
def sOnes : Sm := fun args ch k => match args with
  | [.a (.c (.u64 x))] => k (.a (.c (.int (onesV x)))) ch []
  | _ => False
theorem sOnes_ok : SmOK Try.prog 88 sOnes := by
  refine smB Try.call88 fun args ch k w X h0 hs => ?_
  unfold sOnes at h0
  split at h0
  · rename_i x
    exact ⟨_, h0, ones64_any x w⟩
  · exact h0.elim
end Go.Proofs.Ytkfinkolllpcgaa

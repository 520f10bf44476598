/-
  FnExactIntervalNeed, walked.
-/
import Derived.Test.YtlkklplnomecgaaSxTim
import Derived.Test.YtlkklplnomecgaaOpen
namespace Go.Proofs.Ytlkklplnomecgaa
open Go.RowKit
set_option maxRecDepth 100000

theorem lawNeed_T (tRCD tRP tRAS tRRDS tRRDL tFAW tCCDS tCCDL tRTP tWR tWTRS tWTRL tRTW tRFC tCKE tXP tXS : Int) : (exFn Try.prog {tb := [(23, sToTiming), (22, sNeed), (24, sNeed)]} 400 Try.f5 ([.a (.agg [.int tRCD, .int tRP, .int tRAS, .int tRRDS, .int tRRDL, .int tFAW, .int tCCDS, .int tCCDL, .int tRTP, .int tWR, .int tWTRS, .int tWTRL, .int tRTW, .int tRFC, .int tCKE, .int tXP, .int tXS])]) ([]) (fun v _ => v.den = .bool (true))) = (
  (∀ b0 : Nat,
  (b0 = b0 ∧
  (b0 = b0 ∧
  ((((needI tRCD tRP tRAS tRRDS tRRDL tFAW tCCDS tCCDL tRTP tWR tWTRS tWTRL tRTW tRFC tCKE tXP tXS) != (needI tRCD tRP tRAS tRRDS tRRDL tFAW tCCDS tCCDL tRTP tWR tWTRS tWTRL tRTW tRFC tCKE tXP tXS)) = Bool.true →
  (Value.bool Bool.false) = (Value.bool Bool.true)) ∧
  (((needI tRCD tRP tRAS tRRDS tRRDL tFAW tCCDS tCCDL tRTP tWR tWTRS tWTRL tRTW tRFC tCKE tXP tXS) != (needI tRCD tRP tRAS tRRDS tRRDL tFAW tCCDS tCCDL tRTP tWR tWTRS tWTRL tRTW tRFC tCKE tXP tXS)) = Bool.false →
  (Value.bool Bool.true) = (Value.bool Bool.true))))))) := by kernel_rfl
theorem lawNeed_any (tRCD tRP tRAS tRRDS tRRDL tFAW tCCDS tCCDL tRTP tWR tWTRS tWTRL tRTW tRFC tCKE tXP tXS : Int) (w : World) : Calls Try.prog 5 #[.agg #[.int .i64 tRCD, .int .i64 tRP, .int .i64 tRAS, .int .i64 tRRDS, .int .i64 tRRDL, .int .i64 tFAW, .int .i64 tCCDS, .int .i64 tCCDL, .int .i64 tRTP, .int .i64 tWR, .int .i64 tWTRS, .int .i64 tWTRL, .int .i64 tRTW, .int .i64 tRFC, .int .i64 tCKE, .int .i64 tXP, .int .i64 tXS]] w fun e w' => e = .returned (.bool (true)) ∧ Below w.heap.size w w' := by
  refine fnB (tb := [(23, sToTiming), (22, sNeed), (24, sNeed)]) ⟨(sToTiming_ok Try.call23 toTiming_any), (sNeed_ok Try.call22 needS_any), (sNeed_ok Try.call24 needI_any), trivial⟩ Try.func5 ((lawNeed_T tRCD tRP tRAS tRRDS tRRDL tFAW tCCDS tCCDL tRTP tWR tWTRS tWTRL tRTW tRFC tCKE tXP tXS).mpr ?_) (HS.start w (fun _ => False)) (fun v ch' w' hk hs => ⟨by rw [hk], hs.below⟩)
  intros
  simp
theorem walk_FnExactIntervalNeed (cs : Array Value) (W : World) (h : Has W (.cons .int (.cons .int (.cons .int (.cons .int (.cons .int (.cons .int (.cons .int (.cons .int (.cons .int (.cons .int (.cons .int (.cons .int (.cons .int (.cons .int (.cons .int (.cons .int (.cons .int .nil))))))))))))))))) cs.toList) : Calls Try.prog 5 #[.agg cs] W fun e W' => e = .returned (.bool true) ∧ Below W.heap.size W W' := by
  obtain ⟨tRCD, r0, e, _, h⟩ := has_int h
  obtain ⟨tRP, r1, rfl, _, h⟩ := has_int h
  obtain ⟨tRAS, r2, rfl, _, h⟩ := has_int h
  obtain ⟨tRRDS, r3, rfl, _, h⟩ := has_int h
  obtain ⟨tRRDL, r4, rfl, _, h⟩ := has_int h
  obtain ⟨tFAW, r5, rfl, _, h⟩ := has_int h
  obtain ⟨tCCDS, r6, rfl, _, h⟩ := has_int h
  obtain ⟨tCCDL, r7, rfl, _, h⟩ := has_int h
  obtain ⟨tRTP, r8, rfl, _, h⟩ := has_int h
  obtain ⟨tWR, r9, rfl, _, h⟩ := has_int h
  obtain ⟨tWTRS, r10, rfl, _, h⟩ := has_int h
  obtain ⟨tWTRL, r11, rfl, _, h⟩ := has_int h
  obtain ⟨tRTW, r12, rfl, _, h⟩ := has_int h
  obtain ⟨tRFC, r13, rfl, _, h⟩ := has_int h
  obtain ⟨tCKE, r14, rfl, _, h⟩ := has_int h
  obtain ⟨tXP, r15, rfl, _, h⟩ := has_int h
  obtain ⟨tXS, r16, rfl, _, h⟩ := has_int h
  obtain rfl := has_nil h
  rw [arr_of e]
  exact lawNeed_any tRCD tRP tRAS tRRDS tRRDL tFAW tCCDS tCCDL tRTP tWR tWTRS tWTRL tRTW tRFC tCKE tXP tXS W
end Go.Proofs.Ytlkklplnomecgaa

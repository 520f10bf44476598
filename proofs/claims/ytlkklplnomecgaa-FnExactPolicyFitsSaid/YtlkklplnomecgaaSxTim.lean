/-
  Timings: copied, judged; the need of an interval.
-/
import Derived.Test.YtlkklplnomecgaaSxBtw
namespace Go.Proofs.Ytlkklplnomecgaa
set_option linter.unusedVariables false
set_option linter.unusedSimpArgs false
open Go.RowKit
set_option maxRecDepth 100000

theorem toTiming_T (tRCD tRP tRAS tRRDS tRRDL tFAW tCCDS tCCDL tRTP tWR tWTRS tWTRL tRTW tRFC tCKE tXP tXS : Int) : (exFn Try.prog {tb := []} 400 Try.f23 ([.a (.agg [.int tRCD, .int tRP, .int tRAS, .int tRRDS, .int tRRDL, .int tFAW, .int tCCDS, .int tCCDL, .int tRTP, .int tWR, .int tWTRS, .int tWTRL, .int tRTW, .int tRFC, .int tCKE, .int tXP, .int tXS])]) ([]) (fun v _ => v.den = .agg #[.int .i64 (tRCD), .int .i64 (tRP), .int .i64 (tRAS), .int .i64 (tRRDS), .int .i64 (tRRDL), .int .i64 (tFAW), .int .i64 (tCCDS), .int .i64 (tCCDL), .int .i64 (tRTP), .int .i64 (tWR), .int .i64 (tWTRS), .int .i64 (tWTRL), .int .i64 (tRTW), .int .i64 (tRFC), .int .i64 (tCKE), .int .i64 (tXP), .int .i64 (tXS)])) = (
  (∀ b0 : Nat,
  (∀ b1 : Nat,
  (∀ b2 : Nat,
  (b0 = b0 ∧
  (b2 = b2 ∧
  (b0 = b0 ∧
  (b2 = b2 ∧
  (b0 = b0 ∧
  (b2 = b2 ∧
  (b0 = b0 ∧
  (b2 = b2 ∧
  (b0 = b0 ∧
  (b2 = b2 ∧
  (b0 = b0 ∧
  (b2 = b2 ∧
  (b0 = b0 ∧
  (b2 = b2 ∧
  (b0 = b0 ∧
  (b2 = b2 ∧
  (b0 = b0 ∧
  (b2 = b2 ∧
  (b0 = b0 ∧
  (b2 = b2 ∧
  (b0 = b0 ∧
  (b2 = b2 ∧
  (b0 = b0 ∧
  (b2 = b2 ∧
  (b0 = b0 ∧
  (b2 = b2 ∧
  (b0 = b0 ∧
  (b2 = b2 ∧
  (b0 = b0 ∧
  (b2 = b2 ∧
  (b0 = b0 ∧
  (b2 = b2 ∧
  (b0 = b0 ∧
  (b2 = b2 ∧
  (b2 = b2 ∧
  (b1 = b1 ∧
  (b1 = b1 ∧
  (Value.agg (List.toArray [(Value.int IntKind.i64 tRCD), (Value.int IntKind.i64 tRP), (Value.int IntKind.i64 tRAS), (Value.int IntKind.i64 tRRDS), (Value.int IntKind.i64 tRRDL), (Value.int IntKind.i64 tFAW), (Value.int IntKind.i64 tCCDS), (Value.int IntKind.i64 tCCDL), (Value.int IntKind.i64 tRTP), (Value.int IntKind.i64 tWR), (Value.int IntKind.i64 tWTRS), (Value.int IntKind.i64 tWTRL), (Value.int IntKind.i64 tRTW), (Value.int IntKind.i64 tRFC), (Value.int IntKind.i64 tCKE), (Value.int IntKind.i64 tXP), (Value.int IntKind.i64 tXS)])) = (Value.agg (List.toArray [(Value.int IntKind.i64 tRCD), (Value.int IntKind.i64 tRP), (Value.int IntKind.i64 tRAS), (Value.int IntKind.i64 tRRDS), (Value.int IntKind.i64 tRRDL), (Value.int IntKind.i64 tFAW), (Value.int IntKind.i64 tCCDS), (Value.int IntKind.i64 tCCDL), (Value.int IntKind.i64 tRTP), (Value.int IntKind.i64 tWR), (Value.int IntKind.i64 tWTRS), (Value.int IntKind.i64 tWTRL), (Value.int IntKind.i64 tRTW), (Value.int IntKind.i64 tRFC), (Value.int IntKind.i64 tCKE), (Value.int IntKind.i64 tXP), (Value.int IntKind.i64 tXS)]))))))))))))))))))))))))))))))))))))))))))) := by kernel_rfl
theorem toTiming_any (tRCD tRP tRAS tRRDS tRRDL tFAW tCCDS tCCDL tRTP tWR tWTRS tWTRL tRTW tRFC tCKE tXP tXS : Int) (w : World) : Calls Try.prog 23 #[.agg #[.int .i64 tRCD, .int .i64 tRP, .int .i64 tRAS, .int .i64 tRRDS, .int .i64 tRRDL, .int .i64 tFAW, .int .i64 tCCDS, .int .i64 tCCDL, .int .i64 tRTP, .int .i64 tWR, .int .i64 tWTRS, .int .i64 tWTRL, .int .i64 tRTW, .int .i64 tRFC, .int .i64 tCKE, .int .i64 tXP, .int .i64 tXS]] w fun e w' => e = .returned (.agg #[.int .i64 (tRCD), .int .i64 (tRP), .int .i64 (tRAS), .int .i64 (tRRDS), .int .i64 (tRRDL), .int .i64 (tFAW), .int .i64 (tCCDS), .int .i64 (tCCDL), .int .i64 (tRTP), .int .i64 (tWR), .int .i64 (tWTRS), .int .i64 (tWTRL), .int .i64 (tRTW), .int .i64 (tRFC), .int .i64 (tCKE), .int .i64 (tXP), .int .i64 (tXS)]) ∧ Below w.heap.size w w' := by
  refine fnB (tb := []) trivial Try.func23 ((toTiming_T tRCD tRP tRAS tRRDS tRRDL tFAW tCCDS tCCDL tRTP tWR tWTRS tWTRL tRTW tRFC tCKE tXP tXS).mpr ?_) (HS.start w (fun _ => False)) (fun v ch' w' hk hs => ⟨by rw [hk], hs.below⟩)
  intros
  simp
def sToTiming : Sm := fun args ch k =>
  match args with
  | [.a (.agg [c0, c1, c2, c3, c4, c5, c6, c7, c8, c9, c10, c11, c12, c13, c14, c15, c16])] =>
    match ints [c0, c1, c2, c3, c4, c5, c6, c7, c8, c9, c10, c11, c12, c13, c14, c15, c16], bools [] with
    | some [tRCD, tRP, tRAS, tRRDS, tRRDL, tFAW, tCCDS, tCCDL, tRTP, tWR, tWTRS, tWTRL, tRTW, tRFC, tCKE, tXP, tXS], some [] => k (.a (.agg [.int (tRCD), .int (tRP), .int (tRAS), .int (tRRDS), .int (tRRDL), .int (tFAW), .int (tCCDS), .int (tCCDL), .int (tRTP), .int (tWR), .int (tWTRS), .int (tWTRL), .int (tRTW), .int (tRFC), .int (tCKE), .int (tXP), .int (tXS)])) ch []
    | _, _ => False
  | _ => False
theorem sToTiming_ok {f : FuncId} (hc : ∀ args w, (callFunc f args).run Try.prog w = .ok (.enter f args) w) (h : ∀ (tRCD tRP tRAS tRRDS tRRDL tFAW tCCDS tCCDL tRTP tWR tWTRS tWTRL tRTW tRFC tCKE tXP tXS : Int) (w : World), Calls Try.prog f #[.agg #[.int .i64 tRCD, .int .i64 tRP, .int .i64 tRAS, .int .i64 tRRDS, .int .i64 tRRDL, .int .i64 tFAW, .int .i64 tCCDS, .int .i64 tCCDL, .int .i64 tRTP, .int .i64 tWR, .int .i64 tWTRS, .int .i64 tWTRL, .int .i64 tRTW, .int .i64 tRFC, .int .i64 tCKE, .int .i64 tXP, .int .i64 tXS]] w fun e w' => e = .returned (.agg #[.int .i64 (tRCD), .int .i64 (tRP), .int .i64 (tRAS), .int .i64 (tRRDS), .int .i64 (tRRDL), .int .i64 (tFAW), .int .i64 (tCCDS), .int .i64 (tCCDL), .int .i64 (tRTP), .int .i64 (tWR), .int .i64 (tWTRS), .int .i64 (tWTRL), .int .i64 (tRTW), .int .i64 (tRFC), .int .i64 (tCKE), .int .i64 (tXP), .int .i64 (tXS)]) ∧ Below w.heap.size w w') : SmOK Try.prog f sToTiming := by
  refine smB hc fun args ch k w X h0 hs => ?_
  unfold sToTiming at h0
  split at h0
  · split at h0
    · rename_i tRCD tRP tRAS tRRDS tRRDL tFAW tCCDS tCCDL tRTP tWR tWTRS tWTRL tRTW tRFC tCKE tXP tXS hi hb
      obtain ⟨e0, hi1⟩ := ints_cons hi
      obtain ⟨e1, hi2⟩ := ints_cons hi1
      obtain ⟨e2, hi3⟩ := ints_cons hi2
      obtain ⟨e3, hi4⟩ := ints_cons hi3
      obtain ⟨e4, hi5⟩ := ints_cons hi4
      obtain ⟨e5, hi6⟩ := ints_cons hi5
      obtain ⟨e6, hi7⟩ := ints_cons hi6
      obtain ⟨e7, hi8⟩ := ints_cons hi7
      obtain ⟨e8, hi9⟩ := ints_cons hi8
      obtain ⟨e9, hi10⟩ := ints_cons hi9
      obtain ⟨e10, hi11⟩ := ints_cons hi10
      obtain ⟨e11, hi12⟩ := ints_cons hi11
      obtain ⟨e12, hi13⟩ := ints_cons hi12
      obtain ⟨e13, hi14⟩ := ints_cons hi13
      obtain ⟨e14, hi15⟩ := ints_cons hi14
      obtain ⟨e15, hi16⟩ := ints_cons hi15
      obtain ⟨e16, hi17⟩ := ints_cons hi16
      refine ⟨_, h0, ?_⟩
      simp only [List.map_cons, List.map_nil, den_a, den_c, SA.den, e0, e1, e2, e3, e4, e5, e6, e7, e8, e9, e10, e11, e12, e13, e14, e15, e16]
      exact h tRCD tRP tRAS tRRDS tRRDL tFAW tCCDS tCCDL tRTP tWR tWTRS tWTRL tRTW tRFC tCKE tXP tXS w
    · exact h0.elim
  · exact h0.elim
def timB (tRCD tRP tRAS tRRDS tRRDL tFAW tCCDS tCCDL tRTP tWR tWTRS tWTRL tRTW tRFC tCKE tXP tXS : Int) : Bool := [tRCD, tRP, tRAS, tRRDS, tRRDL, tFAW, tCCDS, tCCDL, tRTP, tWR, tWTRS, tWTRL, tRTW, tRFC, tCKE, tXP, tXS].all (fun x => btw x 1 64) && decide (tRCD ≤ tRAS) && decide (tRRDS ≤ tRRDL) && decide (tCCDS ≤ tCCDL) && decide (tWTRS ≤ tWTRL)
theorem timingI_T (tRCD tRP tRAS tRRDS tRRDL tFAW tCCDS tCCDL tRTP tWR tWTRS tWTRL tRTW tRFC tCKE tXP tXS : Int) : (exFn Try.prog {tb := [(60, sBtw)]} 400 Try.f62 ([.a (.agg [.int tRCD, .int tRP, .int tRAS, .int tRRDS, .int tRRDL, .int tFAW, .int tCCDS, .int tCCDL, .int tRTP, .int tWR, .int tWTRS, .int tWTRL, .int tRTW, .int tRFC, .int tCKE, .int tXP, .int tXS])]) ([]) (fun v _ => v.den = .bool (timB tRCD tRP tRAS tRRDS tRRDL tFAW tCCDS tCCDL tRTP tWR tWTRS tWTRL tRTW tRFC tCKE tXP tXS))) = (
  (∀ b0 : Nat,
  (b0 = b0 ∧
  (b0 = b0 ∧
  (b0 = b0 ∧
  (b0 = b0 ∧
  (b0 = b0 ∧
  (b0 = b0 ∧
  (b0 = b0 ∧
  (b0 = b0 ∧
  (b0 = b0 ∧
  (b0 = b0 ∧
  (b0 = b0 ∧
  (b0 = b0 ∧
  (b0 = b0 ∧
  (b0 = b0 ∧
  (b0 = b0 ∧
  (b0 = b0 ∧
  (b0 = b0 ∧
  (∀ b1 : Nat,
  (b1 = b1 ∧
  (((!(btw tRCD (1 : Int) (64 : Int))) = Bool.true →
  (Value.bool Bool.false) = (Value.bool (timB tRCD tRP tRAS tRRDS tRRDL tFAW tCCDS tCCDL tRTP tWR tWTRS tWTRL tRTW tRFC tCKE tXP tXS))) ∧
  ((!(btw tRCD (1 : Int) (64 : Int))) = Bool.false →
  (b1 = b1 ∧
   (((!(btw tRP (1 : Int) (64 : Int))) = Bool.true →
   (Value.bool Bool.false) = (Value.bool (timB tRCD tRP tRAS tRRDS tRRDL tFAW tCCDS tCCDL tRTP tWR tWTRS tWTRL tRTW tRFC tCKE tXP tXS))) ∧
   ((!(btw tRP (1 : Int) (64 : Int))) = Bool.false →
   (b1 = b1 ∧
    (((!(btw tRAS (1 : Int) (64 : Int))) = Bool.true →
    (Value.bool Bool.false) = (Value.bool (timB tRCD tRP tRAS tRRDS tRRDL tFAW tCCDS tCCDL tRTP tWR tWTRS tWTRL tRTW tRFC tCKE tXP tXS))) ∧
    ((!(btw tRAS (1 : Int) (64 : Int))) = Bool.false →
    (b1 = b1 ∧
     (((!(btw tRRDS (1 : Int) (64 : Int))) = Bool.true →
     (Value.bool Bool.false) = (Value.bool (timB tRCD tRP tRAS tRRDS tRRDL tFAW tCCDS tCCDL tRTP tWR tWTRS tWTRL tRTW tRFC tCKE tXP tXS))) ∧
     ((!(btw tRRDS (1 : Int) (64 : Int))) = Bool.false →
     (b1 = b1 ∧
      (((!(btw tRRDL (1 : Int) (64 : Int))) = Bool.true →
      (Value.bool Bool.false) = (Value.bool (timB tRCD tRP tRAS tRRDS tRRDL tFAW tCCDS tCCDL tRTP tWR tWTRS tWTRL tRTW tRFC tCKE tXP tXS))) ∧
      ((!(btw tRRDL (1 : Int) (64 : Int))) = Bool.false →
      (b1 = b1 ∧
       (((!(btw tFAW (1 : Int) (64 : Int))) = Bool.true →
       (Value.bool Bool.false) = (Value.bool (timB tRCD tRP tRAS tRRDS tRRDL tFAW tCCDS tCCDL tRTP tWR tWTRS tWTRL tRTW tRFC tCKE tXP tXS))) ∧
       ((!(btw tFAW (1 : Int) (64 : Int))) = Bool.false →
       (b1 = b1 ∧
        (((!(btw tCCDS (1 : Int) (64 : Int))) = Bool.true →
        (Value.bool Bool.false) = (Value.bool (timB tRCD tRP tRAS tRRDS tRRDL tFAW tCCDS tCCDL tRTP tWR tWTRS tWTRL tRTW tRFC tCKE tXP tXS))) ∧
        ((!(btw tCCDS (1 : Int) (64 : Int))) = Bool.false →
        (b1 = b1 ∧
         (((!(btw tCCDL (1 : Int) (64 : Int))) = Bool.true →
         (Value.bool Bool.false) = (Value.bool (timB tRCD tRP tRAS tRRDS tRRDL tFAW tCCDS tCCDL tRTP tWR tWTRS tWTRL tRTW tRFC tCKE tXP tXS))) ∧
         ((!(btw tCCDL (1 : Int) (64 : Int))) = Bool.false →
         (b1 = b1 ∧
          (((!(btw tRTP (1 : Int) (64 : Int))) = Bool.true →
          (Value.bool Bool.false) = (Value.bool (timB tRCD tRP tRAS tRRDS tRRDL tFAW tCCDS tCCDL tRTP tWR tWTRS tWTRL tRTW tRFC tCKE tXP tXS))) ∧
          ((!(btw tRTP (1 : Int) (64 : Int))) = Bool.false →
          (b1 = b1 ∧
           (((!(btw tWR (1 : Int) (64 : Int))) = Bool.true →
           (Value.bool Bool.false) = (Value.bool (timB tRCD tRP tRAS tRRDS tRRDL tFAW tCCDS tCCDL tRTP tWR tWTRS tWTRL tRTW tRFC tCKE tXP tXS))) ∧
           ((!(btw tWR (1 : Int) (64 : Int))) = Bool.false →
           (b1 = b1 ∧
            (((!(btw tWTRS (1 : Int) (64 : Int))) = Bool.true →
            (Value.bool Bool.false) = (Value.bool (timB tRCD tRP tRAS tRRDS tRRDL tFAW tCCDS tCCDL tRTP tWR tWTRS tWTRL tRTW tRFC tCKE tXP tXS))) ∧
            ((!(btw tWTRS (1 : Int) (64 : Int))) = Bool.false →
            (b1 = b1 ∧
             (((!(btw tWTRL (1 : Int) (64 : Int))) = Bool.true →
             (Value.bool Bool.false) = (Value.bool (timB tRCD tRP tRAS tRRDS tRRDL tFAW tCCDS tCCDL tRTP tWR tWTRS tWTRL tRTW tRFC tCKE tXP tXS))) ∧
             ((!(btw tWTRL (1 : Int) (64 : Int))) = Bool.false →
             (b1 = b1 ∧
              (((!(btw tRTW (1 : Int) (64 : Int))) = Bool.true →
              (Value.bool Bool.false) = (Value.bool (timB tRCD tRP tRAS tRRDS tRRDL tFAW tCCDS tCCDL tRTP tWR tWTRS tWTRL tRTW tRFC tCKE tXP tXS))) ∧
              ((!(btw tRTW (1 : Int) (64 : Int))) = Bool.false →
              (b1 = b1 ∧
               (((!(btw tRFC (1 : Int) (64 : Int))) = Bool.true →
               (Value.bool Bool.false) = (Value.bool (timB tRCD tRP tRAS tRRDS tRRDL tFAW tCCDS tCCDL tRTP tWR tWTRS tWTRL tRTW tRFC tCKE tXP tXS))) ∧
               ((!(btw tRFC (1 : Int) (64 : Int))) = Bool.false →
               (b1 = b1 ∧
                (((!(btw tCKE (1 : Int) (64 : Int))) = Bool.true →
                (Value.bool Bool.false) = (Value.bool (timB tRCD tRP tRAS tRRDS tRRDL tFAW tCCDS tCCDL tRTP tWR tWTRS tWTRL tRTW tRFC tCKE tXP tXS))) ∧
                ((!(btw tCKE (1 : Int) (64 : Int))) = Bool.false →
                (b1 = b1 ∧
                 (((!(btw tXP (1 : Int) (64 : Int))) = Bool.true →
                 (Value.bool Bool.false) = (Value.bool (timB tRCD tRP tRAS tRRDS tRRDL tFAW tCCDS tCCDL tRTP tWR tWTRS tWTRL tRTW tRFC tCKE tXP tXS))) ∧
                 ((!(btw tXP (1 : Int) (64 : Int))) = Bool.false →
                 (b1 = b1 ∧
                  (((!(btw tXS (1 : Int) (64 : Int))) = Bool.true →
                  (Value.bool Bool.false) = (Value.bool (timB tRCD tRP tRAS tRRDS tRRDL tFAW tCCDS tCCDL tRTP tWR tWTRS tWTRL tRTW tRFC tCKE tXP tXS))) ∧
                  ((!(btw tXS (1 : Int) (64 : Int))) = Bool.false →
                  (b0 = b0 ∧
                   (b0 = b0 ∧
                   (((decide (tRCD ≤ tRAS)) = Bool.true →
                   (b0 = b0 ∧
                    (b0 = b0 ∧
                    (((decide (tRRDS ≤ tRRDL)) = Bool.true →
                    (b0 = b0 ∧
                     (b0 = b0 ∧
                     (((decide (tCCDS ≤ tCCDL)) = Bool.true →
                     (b0 = b0 ∧
                      (b0 = b0 ∧
                      (Value.bool (decide (tWTRS ≤ tWTRL))) = (Value.bool (timB tRCD tRP tRAS tRRDS tRRDL tFAW tCCDS tCCDL tRTP tWR tWTRS tWTRL tRTW tRFC tCKE tXP tXS))))) ∧
                     ((decide (tCCDS ≤ tCCDL)) = Bool.false →
                     (Value.bool Bool.false) = (Value.bool (timB tRCD tRP tRAS tRRDS tRRDL tFAW tCCDS tCCDL tRTP tWR tWTRS tWTRL tRTW tRFC tCKE tXP tXS))))))) ∧
                    ((decide (tRRDS ≤ tRRDL)) = Bool.false →
                    (Value.bool Bool.false) = (Value.bool (timB tRCD tRP tRAS tRRDS tRRDL tFAW tCCDS tCCDL tRTP tWR tWTRS tWTRL tRTW tRFC tCKE tXP tXS))))))) ∧
                   ((decide (tRCD ≤ tRAS)) = Bool.false →
                   (Value.bool Bool.false) = (Value.bool (timB tRCD tRP tRAS tRRDS tRRDL tFAW tCCDS tCCDL tRTP tWR tWTRS tWTRL tRTW tRFC tCKE tXP tXS))))))))))))))))))))))))))))))))))))))))))))))))))))))))))))))))))))))))))))) := by kernel_rfl
theorem timingI_any (tRCD tRP tRAS tRRDS tRRDL tFAW tCCDS tCCDL tRTP tWR tWTRS tWTRL tRTW tRFC tCKE tXP tXS : Int) (w : World) : Calls Try.prog 62 #[.agg #[.int .i64 tRCD, .int .i64 tRP, .int .i64 tRAS, .int .i64 tRRDS, .int .i64 tRRDL, .int .i64 tFAW, .int .i64 tCCDS, .int .i64 tCCDL, .int .i64 tRTP, .int .i64 tWR, .int .i64 tWTRS, .int .i64 tWTRL, .int .i64 tRTW, .int .i64 tRFC, .int .i64 tCKE, .int .i64 tXP, .int .i64 tXS]] w fun e w' => e = .returned (.bool (timB tRCD tRP tRAS tRRDS tRRDL tFAW tCCDS tCCDL tRTP tWR tWTRS tWTRL tRTW tRFC tCKE tXP tXS)) ∧ Below w.heap.size w w' := by
  refine fnB (tb := [(60, sBtw)]) ⟨sBtwI_ok, trivial⟩ Try.func62 ((timingI_T tRCD tRP tRAS tRRDS tRRDL tFAW tCCDS tCCDL tRTP tWR tWTRS tWTRL tRTW tRFC tCKE tXP tXS).mpr ?_) (HS.start w (fun _ => False)) (fun v ch' w' hk hs => ⟨by rw [hk], hs.below⟩)
  simp only [timB]
  repeat' (first | exact rfl | exact True.intro | refine And.intro ?_ ?_ | intro _)
  all_goals (try (simp_all; done))
  all_goals (try (simp_all; omega))
def sTimingOk : Sm := fun args ch k =>
  match args with
  | [.a (.agg [c0, c1, c2, c3, c4, c5, c6, c7, c8, c9, c10, c11, c12, c13, c14, c15, c16])] =>
    match ints [c0, c1, c2, c3, c4, c5, c6, c7, c8, c9, c10, c11, c12, c13, c14, c15, c16], bools [] with
    | some [tRCD, tRP, tRAS, tRRDS, tRRDL, tFAW, tCCDS, tCCDL, tRTP, tWR, tWTRS, tWTRL, tRTW, tRFC, tCKE, tXP, tXS], some [] => k (.a (.c (.bool (timB tRCD tRP tRAS tRRDS tRRDL tFAW tCCDS tCCDL tRTP tWR tWTRS tWTRL tRTW tRFC tCKE tXP tXS)))) ch []
    | _, _ => False
  | _ => False
theorem sTimingOk_ok {f : FuncId} (hc : ∀ args w, (callFunc f args).run Try.prog w = .ok (.enter f args) w) (h : ∀ (tRCD tRP tRAS tRRDS tRRDL tFAW tCCDS tCCDL tRTP tWR tWTRS tWTRL tRTW tRFC tCKE tXP tXS : Int) (w : World), Calls Try.prog f #[.agg #[.int .i64 tRCD, .int .i64 tRP, .int .i64 tRAS, .int .i64 tRRDS, .int .i64 tRRDL, .int .i64 tFAW, .int .i64 tCCDS, .int .i64 tCCDL, .int .i64 tRTP, .int .i64 tWR, .int .i64 tWTRS, .int .i64 tWTRL, .int .i64 tRTW, .int .i64 tRFC, .int .i64 tCKE, .int .i64 tXP, .int .i64 tXS]] w fun e w' => e = .returned (.bool (timB tRCD tRP tRAS tRRDS tRRDL tFAW tCCDS tCCDL tRTP tWR tWTRS tWTRL tRTW tRFC tCKE tXP tXS)) ∧ Below w.heap.size w w') : SmOK Try.prog f sTimingOk := by
  refine smB hc fun args ch k w X h0 hs => ?_
  unfold sTimingOk at h0
  split at h0
  · split at h0
    · rename_i tRCD tRP tRAS tRRDS tRRDL tFAW tCCDS tCCDL tRTP tWR tWTRS tWTRL tRTW tRFC tCKE tXP tXS hi hb
      obtain ⟨e0, hi1⟩ := ints_cons hi
      obtain ⟨e1, hi2⟩ := ints_cons hi1
      obtain ⟨e2, hi3⟩ := ints_cons hi2
      obtain ⟨e3, hi4⟩ := ints_cons hi3
      obtain ⟨e4, hi5⟩ := ints_cons hi4
      obtain ⟨e5, hi6⟩ := ints_cons hi5
      obtain ⟨e6, hi7⟩ := ints_cons hi6
      obtain ⟨e7, hi8⟩ := ints_cons hi7
      obtain ⟨e8, hi9⟩ := ints_cons hi8
      obtain ⟨e9, hi10⟩ := ints_cons hi9
      obtain ⟨e10, hi11⟩ := ints_cons hi10
      obtain ⟨e11, hi12⟩ := ints_cons hi11
      obtain ⟨e12, hi13⟩ := ints_cons hi12
      obtain ⟨e13, hi14⟩ := ints_cons hi13
      obtain ⟨e14, hi15⟩ := ints_cons hi14
      obtain ⟨e15, hi16⟩ := ints_cons hi15
      obtain ⟨e16, hi17⟩ := ints_cons hi16
      refine ⟨_, h0, ?_⟩
      simp only [List.map_cons, List.map_nil, den_a, den_c, SA.den, e0, e1, e2, e3, e4, e5, e6, e7, e8, e9, e10, e11, e12, e13, e14, e15, e16]
      exact h tRCD tRP tRAS tRRDS tRRDL tFAW tCCDS tCCDL tRTP tWR tWTRS tWTRL tRTW tRFC tCKE tXP tXS w
    · exact h0.elim
  · exact h0.elim

/-- The list of a timing's numbers: seventeen cells of the call's own. -/
theorem l07_T (tRCD tRP tRAS tRRDS tRRDL tFAW tCCDS tCCDL tRTP tWR tWTRS tWTRL tRTW tRFC tCKE tXP tXS : Int) : (exFn Try.prog {} 400 Try.f93 ([.a (.agg [.int tRCD, .int tRP, .int tRAS, .int tRRDS, .int tRRDL, .int tFAW, .int tCCDS, .int tCCDL, .int tRTP, .int tWR, .int tWTRS, .int tWTRL, .int tRTW, .int tRFC, .int tCKE, .int tXP, .int tXS])]) ([]) (fun v ch => ∃ b, v.den = .slice (some ⟨b, 0, none⟩) 17 17 ∧ ch[1]? = some (.cells b 3 [.int tRCD, .int tRP, .int tRAS, .int tRRDS, .int tRRDL, .int tFAW, .int tCCDS, .int tCCDL, .int tRTP, .int tWR, .int tWTRS, .int tWTRL, .int tRTW, .int tRFC, .int tCKE, .int tXP, .int tXS]))) = (
  (∀ b0 : Nat,
  (b0 = b0 ∧
  (b0 = b0 ∧
  (b0 = b0 ∧
  (b0 = b0 ∧
  (b0 = b0 ∧
  (b0 = b0 ∧
  (b0 = b0 ∧
  (b0 = b0 ∧
  (b0 = b0 ∧
  (b0 = b0 ∧
  (b0 = b0 ∧
  (b0 = b0 ∧
  (b0 = b0 ∧
  (b0 = b0 ∧
  (b0 = b0 ∧
  (b0 = b0 ∧
  (b0 = b0 ∧
  (∀ b1 : Nat,
  (Exists (fun (b2 : Nat) => ((Value.slice (Option.some (Addr.mk b1 0 Option.none)) 17 17) = (Value.slice (Option.some (Addr.mk b2 0 Option.none)) 17 17) ∧
  (Option.some (Ch.cells b1 3 [(SC.int tRCD), (SC.int tRP), (SC.int tRAS), (SC.int tRRDS), (SC.int tRRDL), (SC.int tFAW), (SC.int tCCDS), (SC.int tCCDL), (SC.int tRTP), (SC.int tWR), (SC.int tWTRS), (SC.int tWTRL), (SC.int tRTW), (SC.int tRFC), (SC.int tCKE), (SC.int tXP), (SC.int tXS)])) = (Option.some (Ch.cells b2 3 [(SC.int tRCD), (SC.int tRP), (SC.int tRAS), (SC.int tRRDS), (SC.int tRRDL), (SC.int tFAW), (SC.int tCCDS), (SC.int tCCDL), (SC.int tRTP), (SC.int tWR), (SC.int tWTRS), (SC.int tWTRL), (SC.int tRTW), (SC.int tRFC), (SC.int tCKE), (SC.int tXP), (SC.int tXS)]))))))))))))))))))))))))) := by kernel_rfl
theorem l07_any (tRCD tRP tRAS tRRDS tRRDL tFAW tCCDS tCCDL tRTP tWR tWTRS tWTRL tRTW tRFC tCKE tXP tXS : Int) (w : World) : Calls Try.prog 93 #[.agg #[.int .i64 tRCD, .int .i64 tRP, .int .i64 tRAS, .int .i64 tRRDS, .int .i64 tRRDL, .int .i64 tFAW, .int .i64 tCCDS, .int .i64 tCCDL, .int .i64 tRTP, .int .i64 tWR, .int .i64 tWTRS, .int .i64 tWTRL, .int .i64 tRTW, .int .i64 tRFC, .int .i64 tCKE, .int .i64 tXP, .int .i64 tXS]] w fun e w' => ∃ b, e = .returned (.slice (some ⟨b, 0, none⟩) 17 17) ∧ HS ⟨w, fun _ => False⟩ [.cells b 3 [.int tRCD, .int tRP, .int tRAS, .int tRRDS, .int tRRDL, .int tFAW, .int tCCDS, .int tCCDL, .int tRTP, .int tWR, .int tWTRS, .int tWTRL, .int tRTW, .int tRFC, .int tCKE, .int tXP, .int tXS]] w' := by
  refine fnB (tb := []) trivial Try.func93 ((l07_T tRCD tRP tRAS tRRDS tRRDL tFAW tCCDS tCCDL tRTP tWR tWTRS tWTRL tRTW tRFC tCKE tXP tXS).mpr ?_) (HS.start w (fun _ => False)) (fun v ch' w' ⟨b, hv, hc⟩ hs => ⟨b, by rw [hv], ?_⟩)
  · intros
    simp
  · have := hs.sel [1] (by simp)
    simpa [selC, hc] using this
def sL07 : Sm := fun args ch k =>
  match args with
  | [.a (.agg xs)] =>
    match ints xs with
    | some [tRCD, tRP, tRAS, tRRDS, tRRDL, tFAW, tCCDS, tCCDL, tRTP, tWR, tWTRS, tWTRL, tRTW, tRFC, tCKE, tXP, tXS] => ∀ b, k (.a (.c (.slc ch.length b 17 17))) (ch ++ [.cells b 3 [.int tRCD, .int tRP, .int tRAS, .int tRRDS, .int tRRDL, .int tFAW, .int tCCDS, .int tCCDL, .int tRTP, .int tWR, .int tWTRS, .int tWTRL, .int tRTW, .int tRFC, .int tCKE, .int tXP, .int tXS]]) []
    | _ => False
  | _ => False
theorem sL07_ok : SmOK Try.prog 93 sL07 := by
  refine smN Try.call93 fun args ch k w X h0 hs => ?_
  unfold sL07 at h0
  split at h0
  · rename_i xs
    split at h0
    · rename_i tRCD tRP tRAS tRRDS tRRDL tFAW tCCDS tCCDL tRTP tWR tWTRS tWTRL tRTW tRFC tCKE tXP tXS hi
      have he : xs.map SC.den = [.int .i64 tRCD, .int .i64 tRP, .int .i64 tRAS, .int .i64 tRRDS, .int .i64 tRRDL, .int .i64 tFAW, .int .i64 tCCDS, .int .i64 tCCDL, .int .i64 tRTP, .int .i64 tWR, .int .i64 tWTRS, .int .i64 tWTRL, .int .i64 tRTW, .int .i64 tRFC, .int .i64 tCKE, .int .i64 tXP, .int .i64 tXS] := by
        rw [ints_den hi]
        rfl
      simp only [List.map_cons, List.map_nil, den_a, SA.den, he]
      exact Calls.mono (l07_any tRCD tRP tRAS tRRDS tRRDL tFAW tCCDS tCCDL tRTP tWR tWTRS tWTRL tRTW tRFC tCKE tXP tXS w) fun e w' ⟨b, he, hs'⟩ => ⟨.a (.c (.slc ch.length b 17 17)), _, he, hs', rfl, h0 b⟩
    · exact h0.elim
  · exact h0.elim

theorem timingS_T (tRCD tRP tRAS tRRDS tRRDL tFAW tCCDS tCCDL tRTP tWR tWTRS tWTRL tRTW tRFC tCKE tXP tXS : Int) : (exFn Try.prog {tb := [(59, sBtw), (93, sL07)]} 400 Try.f61 ([.a (.agg [.int tRCD, .int tRP, .int tRAS, .int tRRDS, .int tRRDL, .int tFAW, .int tCCDS, .int tCCDL, .int tRTP, .int tWR, .int tWTRS, .int tWTRL, .int tRTW, .int tRFC, .int tCKE, .int tXP, .int tXS])]) ([]) (fun v _ => v.den = .bool (timB tRCD tRP tRAS tRRDS tRRDL tFAW tCCDS tCCDL tRTP tWR tWTRS tWTRL tRTW tRFC tCKE tXP tXS))) = (
  (∀ b0 : Nat,
  (b0 = b0 ∧
  (∀ b1 : Nat,
  (b1 = b1 ∧
  (((!(btw tRCD (1 : Int) (64 : Int))) = Bool.true →
  (Value.bool Bool.false) = (Value.bool (timB tRCD tRP tRAS tRRDS tRRDL tFAW tCCDS tCCDL tRTP tWR tWTRS tWTRL tRTW tRFC tCKE tXP tXS))) ∧
  ((!(btw tRCD (1 : Int) (64 : Int))) = Bool.false →
  (b1 = b1 ∧
   (((!(btw tRP (1 : Int) (64 : Int))) = Bool.true →
   (Value.bool Bool.false) = (Value.bool (timB tRCD tRP tRAS tRRDS tRRDL tFAW tCCDS tCCDL tRTP tWR tWTRS tWTRL tRTW tRFC tCKE tXP tXS))) ∧
   ((!(btw tRP (1 : Int) (64 : Int))) = Bool.false →
   (b1 = b1 ∧
    (((!(btw tRAS (1 : Int) (64 : Int))) = Bool.true →
    (Value.bool Bool.false) = (Value.bool (timB tRCD tRP tRAS tRRDS tRRDL tFAW tCCDS tCCDL tRTP tWR tWTRS tWTRL tRTW tRFC tCKE tXP tXS))) ∧
    ((!(btw tRAS (1 : Int) (64 : Int))) = Bool.false →
    (b1 = b1 ∧
     (((!(btw tRRDS (1 : Int) (64 : Int))) = Bool.true →
     (Value.bool Bool.false) = (Value.bool (timB tRCD tRP tRAS tRRDS tRRDL tFAW tCCDS tCCDL tRTP tWR tWTRS tWTRL tRTW tRFC tCKE tXP tXS))) ∧
     ((!(btw tRRDS (1 : Int) (64 : Int))) = Bool.false →
     (b1 = b1 ∧
      (((!(btw tRRDL (1 : Int) (64 : Int))) = Bool.true →
      (Value.bool Bool.false) = (Value.bool (timB tRCD tRP tRAS tRRDS tRRDL tFAW tCCDS tCCDL tRTP tWR tWTRS tWTRL tRTW tRFC tCKE tXP tXS))) ∧
      ((!(btw tRRDL (1 : Int) (64 : Int))) = Bool.false →
      (b1 = b1 ∧
       (((!(btw tFAW (1 : Int) (64 : Int))) = Bool.true →
       (Value.bool Bool.false) = (Value.bool (timB tRCD tRP tRAS tRRDS tRRDL tFAW tCCDS tCCDL tRTP tWR tWTRS tWTRL tRTW tRFC tCKE tXP tXS))) ∧
       ((!(btw tFAW (1 : Int) (64 : Int))) = Bool.false →
       (b1 = b1 ∧
        (((!(btw tCCDS (1 : Int) (64 : Int))) = Bool.true →
        (Value.bool Bool.false) = (Value.bool (timB tRCD tRP tRAS tRRDS tRRDL tFAW tCCDS tCCDL tRTP tWR tWTRS tWTRL tRTW tRFC tCKE tXP tXS))) ∧
        ((!(btw tCCDS (1 : Int) (64 : Int))) = Bool.false →
        (b1 = b1 ∧
         (((!(btw tCCDL (1 : Int) (64 : Int))) = Bool.true →
         (Value.bool Bool.false) = (Value.bool (timB tRCD tRP tRAS tRRDS tRRDL tFAW tCCDS tCCDL tRTP tWR tWTRS tWTRL tRTW tRFC tCKE tXP tXS))) ∧
         ((!(btw tCCDL (1 : Int) (64 : Int))) = Bool.false →
         (b1 = b1 ∧
          (((!(btw tRTP (1 : Int) (64 : Int))) = Bool.true →
          (Value.bool Bool.false) = (Value.bool (timB tRCD tRP tRAS tRRDS tRRDL tFAW tCCDS tCCDL tRTP tWR tWTRS tWTRL tRTW tRFC tCKE tXP tXS))) ∧
          ((!(btw tRTP (1 : Int) (64 : Int))) = Bool.false →
          (b1 = b1 ∧
           (((!(btw tWR (1 : Int) (64 : Int))) = Bool.true →
           (Value.bool Bool.false) = (Value.bool (timB tRCD tRP tRAS tRRDS tRRDL tFAW tCCDS tCCDL tRTP tWR tWTRS tWTRL tRTW tRFC tCKE tXP tXS))) ∧
           ((!(btw tWR (1 : Int) (64 : Int))) = Bool.false →
           (b1 = b1 ∧
            (((!(btw tWTRS (1 : Int) (64 : Int))) = Bool.true →
            (Value.bool Bool.false) = (Value.bool (timB tRCD tRP tRAS tRRDS tRRDL tFAW tCCDS tCCDL tRTP tWR tWTRS tWTRL tRTW tRFC tCKE tXP tXS))) ∧
            ((!(btw tWTRS (1 : Int) (64 : Int))) = Bool.false →
            (b1 = b1 ∧
             (((!(btw tWTRL (1 : Int) (64 : Int))) = Bool.true →
             (Value.bool Bool.false) = (Value.bool (timB tRCD tRP tRAS tRRDS tRRDL tFAW tCCDS tCCDL tRTP tWR tWTRS tWTRL tRTW tRFC tCKE tXP tXS))) ∧
             ((!(btw tWTRL (1 : Int) (64 : Int))) = Bool.false →
             (b1 = b1 ∧
              (((!(btw tRTW (1 : Int) (64 : Int))) = Bool.true →
              (Value.bool Bool.false) = (Value.bool (timB tRCD tRP tRAS tRRDS tRRDL tFAW tCCDS tCCDL tRTP tWR tWTRS tWTRL tRTW tRFC tCKE tXP tXS))) ∧
              ((!(btw tRTW (1 : Int) (64 : Int))) = Bool.false →
              (b1 = b1 ∧
               (((!(btw tRFC (1 : Int) (64 : Int))) = Bool.true →
               (Value.bool Bool.false) = (Value.bool (timB tRCD tRP tRAS tRRDS tRRDL tFAW tCCDS tCCDL tRTP tWR tWTRS tWTRL tRTW tRFC tCKE tXP tXS))) ∧
               ((!(btw tRFC (1 : Int) (64 : Int))) = Bool.false →
               (b1 = b1 ∧
                (((!(btw tCKE (1 : Int) (64 : Int))) = Bool.true →
                (Value.bool Bool.false) = (Value.bool (timB tRCD tRP tRAS tRRDS tRRDL tFAW tCCDS tCCDL tRTP tWR tWTRS tWTRL tRTW tRFC tCKE tXP tXS))) ∧
                ((!(btw tCKE (1 : Int) (64 : Int))) = Bool.false →
                (b1 = b1 ∧
                 (((!(btw tXP (1 : Int) (64 : Int))) = Bool.true →
                 (Value.bool Bool.false) = (Value.bool (timB tRCD tRP tRAS tRRDS tRRDL tFAW tCCDS tCCDL tRTP tWR tWTRS tWTRL tRTW tRFC tCKE tXP tXS))) ∧
                 ((!(btw tXP (1 : Int) (64 : Int))) = Bool.false →
                 (b1 = b1 ∧
                  (((!(btw tXS (1 : Int) (64 : Int))) = Bool.true →
                  (Value.bool Bool.false) = (Value.bool (timB tRCD tRP tRAS tRRDS tRRDL tFAW tCCDS tCCDL tRTP tWR tWTRS tWTRL tRTW tRFC tCKE tXP tXS))) ∧
                  ((!(btw tXS (1 : Int) (64 : Int))) = Bool.false →
                  (b0 = b0 ∧
                   (b0 = b0 ∧
                   (((decide (tRCD ≤ tRAS)) = Bool.true →
                   (b0 = b0 ∧
                    (b0 = b0 ∧
                    (((decide (tRRDS ≤ tRRDL)) = Bool.true →
                    (b0 = b0 ∧
                     (b0 = b0 ∧
                     (((decide (tCCDS ≤ tCCDL)) = Bool.true →
                     (b0 = b0 ∧
                      (b0 = b0 ∧
                      (Value.bool (decide (tWTRS ≤ tWTRL))) = (Value.bool (timB tRCD tRP tRAS tRRDS tRRDL tFAW tCCDS tCCDL tRTP tWR tWTRS tWTRL tRTW tRFC tCKE tXP tXS))))) ∧
                     ((decide (tCCDS ≤ tCCDL)) = Bool.false →
                     (Value.bool Bool.false) = (Value.bool (timB tRCD tRP tRAS tRRDS tRRDL tFAW tCCDS tCCDL tRTP tWR tWTRS tWTRL tRTW tRFC tCKE tXP tXS))))))) ∧
                    ((decide (tRRDS ≤ tRRDL)) = Bool.false →
                    (Value.bool Bool.false) = (Value.bool (timB tRCD tRP tRAS tRRDS tRRDL tFAW tCCDS tCCDL tRTP tWR tWTRS tWTRL tRTW tRFC tCKE tXP tXS))))))) ∧
                   ((decide (tRCD ≤ tRAS)) = Bool.false →
                   (Value.bool Bool.false) = (Value.bool (timB tRCD tRP tRAS tRRDS tRRDL tFAW tCCDS tCCDL tRTP tWR tWTRS tWTRL tRTW tRFC tCKE tXP tXS))))))))))))))))))))))))))))))))))))))))))))))))))))))))))))) := by kernel_rfl
theorem timingS_any (tRCD tRP tRAS tRRDS tRRDL tFAW tCCDS tCCDL tRTP tWR tWTRS tWTRL tRTW tRFC tCKE tXP tXS : Int) (w : World) : Calls Try.prog 61 #[.agg #[.int .i64 tRCD, .int .i64 tRP, .int .i64 tRAS, .int .i64 tRRDS, .int .i64 tRRDL, .int .i64 tFAW, .int .i64 tCCDS, .int .i64 tCCDL, .int .i64 tRTP, .int .i64 tWR, .int .i64 tWTRS, .int .i64 tWTRL, .int .i64 tRTW, .int .i64 tRFC, .int .i64 tCKE, .int .i64 tXP, .int .i64 tXS]] w fun e w' => e = .returned (.bool (timB tRCD tRP tRAS tRRDS tRRDL tFAW tCCDS tCCDL tRTP tWR tWTRS tWTRL tRTW tRFC tCKE tXP tXS)) ∧ Below w.heap.size w w' := by
  refine fnB (tb := [(59, sBtw), (93, sL07)]) ⟨sBtwS_ok, sL07_ok, trivial⟩ Try.func61 ((timingS_T tRCD tRP tRAS tRRDS tRRDL tFAW tCCDS tCCDL tRTP tWR tWTRS tWTRL tRTW tRFC tCKE tXP tXS).mpr ?_) (HS.start w (fun _ => False)) (fun v ch' w' hk hs => ⟨by rw [hk], hs.below⟩)
  simp only [timB]
  repeat' (first | exact rfl | exact True.intro | refine And.intro ?_ ?_ | intro _)
  all_goals (try (simp_all; done))
  all_goals (try (simp_all; omega))
def needI (tRCD tRP tRAS tRRDS tRRDL tFAW tCCDS tCCDL tRTP tWR tWTRS tWTRL tRTW tRFC tCKE tXP tXS : Int) : Int := if timB tRCD tRP tRAS tRRDS tRRDL tFAW tCCDS tCCDL tRTP tWR tWTRS tWTRL tRTW tRFC tCKE tXP tXS = true then 2 * (tCKE + tXP + tRAS + tWR + tRTP + tRP + tRFC + tRCD + 8 * tRRDL + 16) else 0

theorem tim_bounds (tRCD tRP tRAS tRRDS tRRDL tFAW tCCDS tCCDL tRTP tWR tWTRS tWTRL tRTW tRFC tCKE tXP tXS : Int) (h : timB tRCD tRP tRAS tRRDS tRRDL tFAW tCCDS tCCDL tRTP tWR tWTRS tWTRL tRTW tRFC tCKE tXP tXS = true) : (1 ≤ tRCD ∧ tRCD ≤ 64) ∧ (1 ≤ tRP ∧ tRP ≤ 64) ∧ (1 ≤ tRAS ∧ tRAS ≤ 64) ∧ (1 ≤ tRRDS ∧ tRRDS ≤ 64) ∧ (1 ≤ tRRDL ∧ tRRDL ≤ 64) ∧ (1 ≤ tFAW ∧ tFAW ≤ 64) ∧ (1 ≤ tCCDS ∧ tCCDS ≤ 64) ∧ (1 ≤ tCCDL ∧ tCCDL ≤ 64) ∧ (1 ≤ tRTP ∧ tRTP ≤ 64) ∧ (1 ≤ tWR ∧ tWR ≤ 64) ∧ (1 ≤ tWTRS ∧ tWTRS ≤ 64) ∧ (1 ≤ tWTRL ∧ tWTRL ≤ 64) ∧ (1 ≤ tRTW ∧ tRTW ≤ 64) ∧ (1 ≤ tRFC ∧ tRFC ≤ 64) ∧ (1 ≤ tCKE ∧ tCKE ≤ 64) ∧ (1 ≤ tXP ∧ tXP ≤ 64) ∧ (1 ≤ tXS ∧ tXS ≤ 64) := by
  simp only [timB, List.all_cons, List.all_nil, Bool.and_eq_true, btw, decide_eq_true_eq] at h
  omega
theorem needI_T (tRCD tRP tRAS tRRDS tRRDL tFAW tCCDS tCCDL tRTP tWR tWTRS tWTRL tRTW tRFC tCKE tXP tXS : Int) : (exFn Try.prog {tb := [(62, sTimingOk)]} 400 Try.f24 ([.a (.agg [.int tRCD, .int tRP, .int tRAS, .int tRRDS, .int tRRDL, .int tFAW, .int tCCDS, .int tCCDL, .int tRTP, .int tWR, .int tWTRS, .int tWTRL, .int tRTW, .int tRFC, .int tCKE, .int tXP, .int tXS])]) ([]) (fun v _ => v.den = .int .i64 (needI tRCD tRP tRAS tRRDS tRRDL tFAW tCCDS tCCDL tRTP tWR tWTRS tWTRL tRTW tRFC tCKE tXP tXS))) = (
  (∀ b0 : Nat,
  (b0 = b0 ∧
  (((!(timB tRCD tRP tRAS tRRDS tRRDL tFAW tCCDS tCCDL tRTP tWR tWTRS tWTRL tRTW tRFC tCKE tXP tXS)) = Bool.true →
  (Value.int IntKind.i64 (0 : Int)) = (Value.int IntKind.i64 (needI tRCD tRP tRAS tRRDS tRRDL tFAW tCCDS tCCDL tRTP tWR tWTRS tWTRL tRTW tRFC tCKE tXP tXS))) ∧
  ((!(timB tRCD tRP tRAS tRRDS tRRDL tFAW tCCDS tCCDL tRTP tWR tWTRS tWTRL tRTW tRFC tCKE tXP tXS)) = Bool.false →
  (b0 = b0 ∧
   (b0 = b0 ∧
   ((rng (tCKE + tXP)) ∧
   (b0 = b0 ∧
   ((rng ((tCKE + tXP) + tRAS)) ∧
   (b0 = b0 ∧
   ((rng (((tCKE + tXP) + tRAS) + tWR)) ∧
   (b0 = b0 ∧
   ((rng ((((tCKE + tXP) + tRAS) + tWR) + tRTP)) ∧
   (b0 = b0 ∧
   ((rng (((((tCKE + tXP) + tRAS) + tWR) + tRTP) + tRP)) ∧
   (b0 = b0 ∧
   ((rng ((((((tCKE + tXP) + tRAS) + tWR) + tRTP) + tRP) + tRFC)) ∧
   (b0 = b0 ∧
   ((rng (((((((tCKE + tXP) + tRAS) + tWR) + tRTP) + tRP) + tRFC) + tRCD)) ∧
   (b0 = b0 ∧
   ((rng ((8 : Int) * tRRDL)) ∧
   ((rng ((((((((tCKE + tXP) + tRAS) + tWR) + tRTP) + tRP) + tRFC) + tRCD) + ((8 : Int) * tRRDL))) ∧
   ((rng (((((((((tCKE + tXP) + tRAS) + tWR) + tRTP) + tRP) + tRFC) + tRCD) + ((8 : Int) * tRRDL)) + (16 : Int))) ∧
   ((rng ((2 : Int) * (((((((((tCKE + tXP) + tRAS) + tWR) + tRTP) + tRP) + tRFC) + tRCD) + ((8 : Int) * tRRDL)) + (16 : Int)))) ∧
   (Value.int IntKind.i64 ((2 : Int) * (((((((((tCKE + tXP) + tRAS) + tWR) + tRTP) + tRP) + tRFC) + tRCD) + ((8 : Int) * tRRDL)) + (16 : Int)))) = (Value.int IntKind.i64 (needI tRCD tRP tRAS tRRDS tRRDL tFAW tCCDS tCCDL tRTP tWR tWTRS tWTRL tRTW tRFC tCKE tXP tXS))))))))))))))))))))))))))) := by kernel_rfl
theorem needI_any (tRCD tRP tRAS tRRDS tRRDL tFAW tCCDS tCCDL tRTP tWR tWTRS tWTRL tRTW tRFC tCKE tXP tXS : Int) (w : World) : Calls Try.prog 24 #[.agg #[.int .i64 tRCD, .int .i64 tRP, .int .i64 tRAS, .int .i64 tRRDS, .int .i64 tRRDL, .int .i64 tFAW, .int .i64 tCCDS, .int .i64 tCCDL, .int .i64 tRTP, .int .i64 tWR, .int .i64 tWTRS, .int .i64 tWTRL, .int .i64 tRTW, .int .i64 tRFC, .int .i64 tCKE, .int .i64 tXP, .int .i64 tXS]] w fun e w' => e = .returned (.int .i64 (needI tRCD tRP tRAS tRRDS tRRDL tFAW tCCDS tCCDL tRTP tWR tWTRS tWTRL tRTW tRFC tCKE tXP tXS)) ∧ Below w.heap.size w w' := by
  refine fnB (tb := [(62, sTimingOk)]) ⟨(sTimingOk_ok Try.call62 timingI_any), trivial⟩ Try.func24 ((needI_T tRCD tRP tRAS tRRDS tRRDL tFAW tCCDS tCCDL tRTP tWR tWTRS tWTRL tRTW tRFC tCKE tXP tXS).mpr ?_) (HS.start w (fun _ => False)) (fun v ch' w' hk hs => ⟨by rw [hk], hs.below⟩)
  intro b0
  refine ⟨rfl, fun ht => ?_, fun ht => ?_⟩
  · simp_all [needI]
  · have ht' : timB tRCD tRP tRAS tRRDS tRRDL tFAW tCCDS tCCDL tRTP tWR tWTRS tWTRL tRTW tRFC tCKE tXP tXS = true := by simpa using ht
    have hb := tim_bounds tRCD tRP tRAS tRRDS tRRDL tFAW tCCDS tCCDL tRTP tWR tWTRS tWTRL tRTW tRFC tCKE tXP tXS ht'
    have hn : needI tRCD tRP tRAS tRRDS tRRDL tFAW tCCDS tCCDL tRTP tWR tWTRS tWTRL tRTW tRFC tCKE tXP tXS = 2 * (tCKE + tXP + tRAS + tWR + tRTP + tRP + tRFC + tRCD + 8 * tRRDL + 16) := by simp [needI, ht']
    rw [hn]
    simp only [rng]
    repeat' apply And.intro
    all_goals first | trivial | rfl | omega
theorem needS_T (tRCD tRP tRAS tRRDS tRRDL tFAW tCCDS tCCDL tRTP tWR tWTRS tWTRL tRTW tRFC tCKE tXP tXS : Int) : (exFn Try.prog {tb := [(61, sTimingOk)]} 400 Try.f22 ([.a (.agg [.int tRCD, .int tRP, .int tRAS, .int tRRDS, .int tRRDL, .int tFAW, .int tCCDS, .int tCCDL, .int tRTP, .int tWR, .int tWTRS, .int tWTRL, .int tRTW, .int tRFC, .int tCKE, .int tXP, .int tXS])]) ([]) (fun v _ => v.den = .int .i64 (needI tRCD tRP tRAS tRRDS tRRDL tFAW tCCDS tCCDL tRTP tWR tWTRS tWTRL tRTW tRFC tCKE tXP tXS))) = (
  (∀ b0 : Nat,
  (b0 = b0 ∧
  (((!(timB tRCD tRP tRAS tRRDS tRRDL tFAW tCCDS tCCDL tRTP tWR tWTRS tWTRL tRTW tRFC tCKE tXP tXS)) = Bool.true →
  (Value.int IntKind.i64 (0 : Int)) = (Value.int IntKind.i64 (needI tRCD tRP tRAS tRRDS tRRDL tFAW tCCDS tCCDL tRTP tWR tWTRS tWTRL tRTW tRFC tCKE tXP tXS))) ∧
  ((!(timB tRCD tRP tRAS tRRDS tRRDL tFAW tCCDS tCCDL tRTP tWR tWTRS tWTRL tRTW tRFC tCKE tXP tXS)) = Bool.false →
  (b0 = b0 ∧
   (b0 = b0 ∧
   ((rng (tCKE + tXP)) ∧
   (b0 = b0 ∧
   ((rng ((tCKE + tXP) + tRAS)) ∧
   (b0 = b0 ∧
   ((rng (((tCKE + tXP) + tRAS) + tWR)) ∧
   (b0 = b0 ∧
   ((rng ((((tCKE + tXP) + tRAS) + tWR) + tRTP)) ∧
   (b0 = b0 ∧
   ((rng (((((tCKE + tXP) + tRAS) + tWR) + tRTP) + tRP)) ∧
   (b0 = b0 ∧
   ((rng ((((((tCKE + tXP) + tRAS) + tWR) + tRTP) + tRP) + tRFC)) ∧
   (b0 = b0 ∧
   ((rng (((((((tCKE + tXP) + tRAS) + tWR) + tRTP) + tRP) + tRFC) + tRCD)) ∧
   (b0 = b0 ∧
   ((rng ((8 : Int) * tRRDL)) ∧
   ((rng ((((((((tCKE + tXP) + tRAS) + tWR) + tRTP) + tRP) + tRFC) + tRCD) + ((8 : Int) * tRRDL))) ∧
   ((rng (((((((((tCKE + tXP) + tRAS) + tWR) + tRTP) + tRP) + tRFC) + tRCD) + ((8 : Int) * tRRDL)) + (16 : Int))) ∧
   ((rng ((2 : Int) * (((((((((tCKE + tXP) + tRAS) + tWR) + tRTP) + tRP) + tRFC) + tRCD) + ((8 : Int) * tRRDL)) + (16 : Int)))) ∧
   (Value.int IntKind.i64 ((2 : Int) * (((((((((tCKE + tXP) + tRAS) + tWR) + tRTP) + tRP) + tRFC) + tRCD) + ((8 : Int) * tRRDL)) + (16 : Int)))) = (Value.int IntKind.i64 (needI tRCD tRP tRAS tRRDS tRRDL tFAW tCCDS tCCDL tRTP tWR tWTRS tWTRL tRTW tRFC tCKE tXP tXS))))))))))))))))))))))))))) := by kernel_rfl
theorem needS_any (tRCD tRP tRAS tRRDS tRRDL tFAW tCCDS tCCDL tRTP tWR tWTRS tWTRL tRTW tRFC tCKE tXP tXS : Int) (w : World) : Calls Try.prog 22 #[.agg #[.int .i64 tRCD, .int .i64 tRP, .int .i64 tRAS, .int .i64 tRRDS, .int .i64 tRRDL, .int .i64 tFAW, .int .i64 tCCDS, .int .i64 tCCDL, .int .i64 tRTP, .int .i64 tWR, .int .i64 tWTRS, .int .i64 tWTRL, .int .i64 tRTW, .int .i64 tRFC, .int .i64 tCKE, .int .i64 tXP, .int .i64 tXS]] w fun e w' => e = .returned (.int .i64 (needI tRCD tRP tRAS tRRDS tRRDL tFAW tCCDS tCCDL tRTP tWR tWTRS tWTRL tRTW tRFC tCKE tXP tXS)) ∧ Below w.heap.size w w' := by
  refine fnB (tb := [(61, sTimingOk)]) ⟨(sTimingOk_ok Try.call61 timingS_any), trivial⟩ Try.func22 ((needS_T tRCD tRP tRAS tRRDS tRRDL tFAW tCCDS tCCDL tRTP tWR tWTRS tWTRL tRTW tRFC tCKE tXP tXS).mpr ?_) (HS.start w (fun _ => False)) (fun v ch' w' hk hs => ⟨by rw [hk], hs.below⟩)
  intro b0
  refine ⟨rfl, fun ht => ?_, fun ht => ?_⟩
  · simp_all [needI]
  · have ht' : timB tRCD tRP tRAS tRRDS tRRDL tFAW tCCDS tCCDL tRTP tWR tWTRS tWTRL tRTW tRFC tCKE tXP tXS = true := by simpa using ht
    have hb := tim_bounds tRCD tRP tRAS tRRDS tRRDL tFAW tCCDS tCCDL tRTP tWR tWTRS tWTRL tRTW tRFC tCKE tXP tXS ht'
    have hn : needI tRCD tRP tRAS tRRDS tRRDL tFAW tCCDS tCCDL tRTP tWR tWTRS tWTRL tRTW tRFC tCKE tXP tXS = 2 * (tCKE + tXP + tRAS + tWR + tRTP + tRP + tRFC + tRCD + 8 * tRRDL + 16) := by simp [needI, ht']
    rw [hn]
    simp only [rng]
    repeat' apply And.intro
    all_goals first | trivial | rfl | omega
def sNeed : Sm := fun args ch k =>
  match args with
  | [.a (.agg [c0, c1, c2, c3, c4, c5, c6, c7, c8, c9, c10, c11, c12, c13, c14, c15, c16])] =>
    match ints [c0, c1, c2, c3, c4, c5, c6, c7, c8, c9, c10, c11, c12, c13, c14, c15, c16], bools [] with
    | some [tRCD, tRP, tRAS, tRRDS, tRRDL, tFAW, tCCDS, tCCDL, tRTP, tWR, tWTRS, tWTRL, tRTW, tRFC, tCKE, tXP, tXS], some [] => k (.a (.c (.int (needI tRCD tRP tRAS tRRDS tRRDL tFAW tCCDS tCCDL tRTP tWR tWTRS tWTRL tRTW tRFC tCKE tXP tXS)))) ch []
    | _, _ => False
  | _ => False
theorem sNeed_ok {f : FuncId} (hc : ∀ args w, (callFunc f args).run Try.prog w = .ok (.enter f args) w) (h : ∀ (tRCD tRP tRAS tRRDS tRRDL tFAW tCCDS tCCDL tRTP tWR tWTRS tWTRL tRTW tRFC tCKE tXP tXS : Int) (w : World), Calls Try.prog f #[.agg #[.int .i64 tRCD, .int .i64 tRP, .int .i64 tRAS, .int .i64 tRRDS, .int .i64 tRRDL, .int .i64 tFAW, .int .i64 tCCDS, .int .i64 tCCDL, .int .i64 tRTP, .int .i64 tWR, .int .i64 tWTRS, .int .i64 tWTRL, .int .i64 tRTW, .int .i64 tRFC, .int .i64 tCKE, .int .i64 tXP, .int .i64 tXS]] w fun e w' => e = .returned (.int .i64 (needI tRCD tRP tRAS tRRDS tRRDL tFAW tCCDS tCCDL tRTP tWR tWTRS tWTRL tRTW tRFC tCKE tXP tXS)) ∧ Below w.heap.size w w') : SmOK Try.prog f sNeed := by
  refine smB hc fun args ch k w X h0 hs => ?_
  unfold sNeed at h0
  split at h0
  · split at h0
    · rename_i tRCD tRP tRAS tRRDS tRRDL tFAW tCCDS tCCDL tRTP tWR tWTRS tWTRL tRTW tRFC tCKE tXP tXS hi hb
      obtain ⟨e0, hi1⟩ := ints_cons hi
      obtain ⟨e1, hi2⟩ := ints_cons hi1
      obtain ⟨e2, hi3⟩ := ints_cons hi2
      obtain ⟨e3, hi4⟩ := ints_cons hi3
      obtain ⟨e4, hi5⟩ := ints_cons hi4
      obtain ⟨e5, hi6⟩ := ints_cons hi5
      obtain ⟨e6, hi7⟩ := ints_cons hi6
      obtain ⟨e7, hi8⟩ := ints_cons hi7
      obtain ⟨e8, hi9⟩ := ints_cons hi8
      obtain ⟨e9, hi10⟩ := ints_cons hi9
      obtain ⟨e10, hi11⟩ := ints_cons hi10
      obtain ⟨e11, hi12⟩ := ints_cons hi11
      obtain ⟨e12, hi13⟩ := ints_cons hi12
      obtain ⟨e13, hi14⟩ := ints_cons hi13
      obtain ⟨e14, hi15⟩ := ints_cons hi14
      obtain ⟨e15, hi16⟩ := ints_cons hi15
      obtain ⟨e16, hi17⟩ := ints_cons hi16
      refine ⟨_, h0, ?_⟩
      simp only [List.map_cons, List.map_nil, den_a, den_c, SA.den, e0, e1, e2, e3, e4, e5, e6, e7, e8, e9, e10, e11, e12, e13, e14, e15, e16]
      exact h tRCD tRP tRAS tRRDS tRRDL tFAW tCCDS tCCDL tRTP tWR tWTRS tWTRL tRTW tRFC tCKE tXP tXS w
    · exact h0.elim
  · exact h0.elim
end Go.Proofs.Ytlkklplnomecgaa

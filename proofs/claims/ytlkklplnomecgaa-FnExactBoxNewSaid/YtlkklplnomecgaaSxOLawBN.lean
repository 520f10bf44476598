/-
  BoxNew.
-/
import Derived.Test.YtlkklplnomecgaaSxOBox
import Derived.Test.YtlkklplnomecgaaSxOpen
namespace Go.Proofs.Ytlkklplnomecgaa
set_option linter.unusedVariables false
set_option linter.unusedSimpArgs false
open Go.RowKit
set_option maxRecDepth 100000
set_option maxHeartbeats 8000000

theorem law_FnExactBoxNew_T (v0 : Value) (rs0 : List Row) : (exFn Try.prog {tb := [(41, sToPolicyO), (36, sEqPolicyO), (37, sMarkPolicyO), (38, sHeldPolicyO), (39, sSzPolicyO), (48, sToPolicyBoxO), (50, sEqPolicyBoxO), (51, sMarkPolicyBoxO), (52, sHeldPolicyBoxO), (46, sSzPolicyBoxO), (54, sBNewO), (53, sBNewO)]} 400 Try.f13 ([.a (.c (.obj 0 v0))]) ([.obj false rs0]) (fun v _ => v.den = .bool true)) = (
  ((wholeC Bool.true v0 8) ∧
  (∀ b0 : Nat,
  (b0 = b0 ∧
  (Exists (fun (x1 : PolicyD) => (((isPolicy v0 x1 rs0) ∧
  ((lensPolicy x1) ∧
  (szK (1048576 : Int)))) ∧
  ((Value.bool Bool.true) = (Value.bool Bool.true) ∧
  (∀ z2 : Int,
  ((szO z2 (1048576 : Int)) →
  ((capPolicy x1) →
   (((decide (z2 < (0 : Int))) = Bool.true →
    (Value.bool Bool.true) = (Value.bool Bool.true)) ∧
    ((decide (z2 < (0 : Int))) = Bool.false →
    (b0 = b0 ∧
     (Exists (fun (x3 : PolicyD) => (((isPolicy v0 x3 rs0) ∧
     (capPolicy x3)) ∧
     (∀ v'4 : Value,
     (∀ rs'5 : (List Row),
     ((isPolicy v'4 x3 rs'5) →
     (Exists (fun (p6 : PolicyD) => (((isPolicy v'4 p6 rs'5) ∧
      (capPolicy p6)) ∧
      (∀ v'7 : Value,
      (∀ rs'8 : (List Row),
      ((isPolicyBox v'7 (bnewD p6) rs'8) →
      (∀ b9 : Nat,
       ((b9 = b9 ∧
       (wholeC Bool.true v'7 17)) ∧
       (b0 = b0 ∧
       (Exists (fun (x10 : PolicyD) => (((isPolicy v0 x10 rs0) ∧
       (capPolicy x10)) ∧
       (∀ v'11 : Value,
       (∀ rs'12 : (List Row),
       ((isPolicy v'11 x10 rs'12) →
       (∀ b13 : Nat,
        ((b13 = b13 ∧
        (wholeC Bool.true v'11 8)) ∧
        (b13 = b13 ∧
        (Exists (fun (p14 : PolicyD) => (((isPolicy v'11 p14 rs'12) ∧
        (capPolicy p14)) ∧
        (∀ v'15 : Value,
        (∀ rs'16 : (List Row),
        ((isPolicyBox v'15 (bnewD p14) rs'16) →
        (∀ b17 : Nat,
         ((b17 = b17 ∧
         (wholeC Bool.true v'15 17)) ∧
         (b17 = b17 ∧
         (b9 = b9 ∧
         (Exists (fun (x18 : PolicyBoxD) => (((isPolicyBox v'15 x18 rs'16) ∧
         ((isPolicyBox v'7 x18 rs'8) ∧
         (capPolicyBox x18))) ∧
         ((((polD p14) != (polD p6)) = Bool.true →
         (Value.bool Bool.false) = (Value.bool Bool.true)) ∧
         (((polD p14) != (polD p6)) = Bool.false →
         (b13 = b13 ∧
          (b0 = b0 ∧
          (Exists (fun (x19 : PolicyD) => (((isPolicy v0 x19 rs0) ∧
          (capPolicy x19)) ∧
          (∀ v'20 : Value,
          (∀ rs'21 : (List Row),
          ((isPolicy v'20 x19 rs'21) →
          (True ∧
           (Exists (fun (x22 : PolicyD) => (((isPolicy v'11 x22 rs'12) ∧
           ((isPolicy v'20 x22 rs'21) ∧
           (capPolicy x22))) ∧
           (True ∧
           (b13 = b13 ∧
           (Exists (fun (x23 : PolicyD) => (((isPolicy v'11 x23 rs'12) ∧
           ((capPolicy x23) ∧
           (mrkC (1 : Int)))) ∧
           ((endC (1 : Int) (endPolicy (1 : Int) x23) (16777216 : Int)) →
           (∀ rs'24 : (List Row),
            ((isPolicy v'11 (markPolicyD (1 : Int) x23) rs'24) →
            (((decide ((endPolicy (1 : Int) x23) < (0 : Int))) = Bool.false →
             (b17 = b17 ∧
              (b9 = b9 ∧
              (Exists (fun (x25 : PolicyBoxD) => (((isPolicyBox v'15 x25 rs'16) ∧
              ((isPolicyBox v'7 x25 rs'8) ∧
              (capPolicyBox x25))) ∧
              ((((polD p14) != (polD p6)) = Bool.true →
              (Value.bool Bool.false) = (Value.bool Bool.true)) ∧
              (((polD p14) != (polD p6)) = Bool.false →
              (b17 = b17 ∧
               (Exists (fun (x26 : PolicyBoxD) => (((isPolicyBox v'15 x26 rs'16) ∧
               ((capPolicyBox x26) ∧
               (mrkC (1 : Int)))) ∧
               ((endC (1 : Int) (endPolicyBox (1 : Int) x26) (33554432 : Int)) →
               (∀ rs'27 : (List Row),
                ((isPolicyBox v'15 (markPolicyBoxD (1 : Int) x26) rs'27) →
                (b17 = b17 ∧
                 (Exists (fun (x28 : PolicyBoxD) => (((isPolicyBox v'15 (markPolicyBoxD (1 : Int) x28) rs'27) ∧
                 ((capPolicyBox x28) ∧
                 (mrkC (1 : Int)))) ∧
                 (((decide ((endPolicyBox (1 : Int) x28) < (0 : Int))) = Bool.true →
                 (Value.bool Bool.false) = (Value.bool Bool.true)) ∧
                 ((decide ((endPolicyBox (1 : Int) x28) < (0 : Int))) = Bool.false →
                 ((((endPolicyBox (1 : Int) x28) != (endPolicyBox (1 : Int) x26)) = Bool.true →
                  (Value.bool Bool.false) = (Value.bool Bool.true)) ∧
                  (((endPolicyBox (1 : Int) x28) != (endPolicyBox (1 : Int) x26)) = Bool.false →
                  (b0 = b0 ∧
                   (Exists (fun (x29 : PolicyD) => (((isPolicy v0 x29 rs0) ∧
                   (capPolicy x29)) ∧
                   (∀ v'30 : Value,
                   (∀ rs'31 : (List Row),
                   ((isPolicy v'30 x29 rs'31) →
                   (Exists (fun (p32 : PolicyD) => (((isPolicy v'30 p32 rs'31) ∧
                    (capPolicy p32)) ∧
                    (∀ v'33 : Value,
                    (∀ rs'34 : (List Row),
                    ((isPolicyBox v'33 (bnewD p32) rs'34) →
                    (∀ b35 : Nat,
                     ((b35 = b35 ∧
                     (wholeC Bool.true v'33 17)) ∧
                     (b35 = b35 ∧
                     (b9 = b9 ∧
                     (Exists (fun (x36 : PolicyBoxD) => (((isPolicyBox v'33 x36 rs'34) ∧
                     ((isPolicyBox v'7 x36 rs'8) ∧
                     (capPolicyBox x36))) ∧
                     ((((polD p32) != (polD p6)) = Bool.true →
                     (Value.bool Bool.false) = (Value.bool Bool.true)) ∧
                     (((polD p32) != (polD p6)) = Bool.false →
                     (b17 = b17 ∧
                      (Exists (fun (x37 : PolicyBoxD) => (((isPolicyBox v'15 (markPolicyBoxD (1 : Int) x37) rs'27) ∧
                      ((capPolicyBox x37) ∧
                      (mrkC (1 : Int)))) ∧
                      (((decide ((endPolicyBox (1 : Int) x37) < (0 : Int))) = Bool.true →
                      (Value.bool Bool.false) = (Value.bool Bool.true)) ∧
                      ((decide ((endPolicyBox (1 : Int) x37) < (0 : Int))) = Bool.false →
                      ((((endPolicyBox (1 : Int) x37) != (endPolicyBox (1 : Int) x26)) = Bool.true →
                       (Value.bool Bool.false) = (Value.bool Bool.true)) ∧
                       (((endPolicyBox (1 : Int) x37) != (endPolicyBox (1 : Int) x26)) = Bool.false →
                       (Value.bool Bool.true) = (Value.bool Bool.true)))))))))))))))))))))))))))))))))))))))))))))))))))))) ∧
             ((decide ((endPolicy (1 : Int) x23) < (0 : Int))) = Bool.true →
             (Value.bool Bool.false) = (Value.bool Bool.true)))))))))))))))))))))))))))))))))))))))))))))))))))))))))))))))))))))))))))) := by kernel_rfl
theorem law_FnExactBoxNew_any (v0 : Value) (rs0 : List Row) (W : World) (x0 : PolicyD) (hx0 : isPolicy v0 x0 rs0) (hw0 : ∀ r ∈ rs0, r.own = false ∧ r.sat W) (hn0 : x0.WeightsN ≤ 9223372036854775807) (hb0 : (-9223372036854775808 ≤ x0.Page ∧ x0.Page ≤ 9223372036854775807) ∧ (-9223372036854775808 ≤ x0.Cap ∧ x0.Cap ≤ 9223372036854775807) ∧ (-9223372036854775808 ≤ x0.Limit ∧ x0.Limit ≤ 9223372036854775807) ∧ (-9223372036854775808 ≤ x0.Low ∧ x0.Low ≤ 9223372036854775807) ∧ (-9223372036854775808 ≤ x0.High ∧ x0.High ≤ 9223372036854775807) ∧ (-9223372036854775808 ≤ x0.RuleDown ∧ x0.RuleDown ≤ 9223372036854775807) ∧ (-9223372036854775808 ≤ x0.RuleSleep ∧ x0.RuleSleep ≤ 9223372036854775807)) : Calls Try.prog 13 #[v0] W fun e W' => e = .returned (.bool true) ∧ Below W.heap.size W W' := by
  refine fnB (tb := [(41, sToPolicyO), (36, sEqPolicyO), (37, sMarkPolicyO), (38, sHeldPolicyO), (39, sSzPolicyO), (48, sToPolicyBoxO), (50, sEqPolicyBoxO), (51, sMarkPolicyBoxO), (52, sHeldPolicyBoxO), (46, sSzPolicyBoxO), (54, sBNewO), (53, sBNewO)]) ⟨sToPolicyO_ok_laws_toPolicy, sEqPolicyO_ok, sMarkPolicyO_ok, sHeldPolicyO_ok, sSzPolicyO_ok, sToPolicyBoxO_ok_laws_toPolicyBox, sEqPolicyBoxO_ok, sMarkPolicyBoxO_ok, sHeldPolicyBoxO_ok, sSzPolicyBoxO_ok, sBNewO_ok_impl_BoxNew, sBNewO_ok_spec_BoxNew, trivial⟩ Try.func13 ((law_FnExactBoxNew_T v0 rs0).mpr ?_) (HS.objs (fun _ => False) [rs0] (seen_cons hw0 seen_nil)) (fun v ch' w' hk hs => ⟨by rw [hk], hs.below⟩)
  clear hw0
  repeat' (first
    | exact rfl
    | exact True.intro
    | assumption
    | exact capBNew (by assumption)
    | exact wholePolicy (by assumption)
    | exact wholePolicyBox (by assumption)
    | refine And.intro ?_ ?_
    | apply Exists.intro
    | omega
    | (intro h; exfalso; revert h; simp; done)
    | (intro h; exfalso; simp at h; omega)
    | intro _)
theorem walk_FnExactBoxNew (cs0 : Array Value) (W : World) (h0 : Has W (.cons .int (.cons .int (.cons .int (.cons .int (.cons .int (.cons (.slice .int) (.cons (.cons .int (.cons .int .nil)) .nil))))))) cs0.toList) : Calls Try.prog 13 #[.agg cs0] W fun e W' => e = .returned (.bool true) ∧ Below W.heap.size W W' := by
  obtain ⟨l0, hl0⟩ : ∃ l, cs0.toList = l := ⟨_, rfl⟩
  rw [hl0] at h0
  obtain ⟨aPPage, _, rfl, baPPage, h0_f0⟩ := has_int h0
  obtain ⟨aPCap, _, rfl, baPCap, h0_f1⟩ := has_int h0_f0
  obtain ⟨aPLimit, _, rfl, baPLimit, h0_f2⟩ := has_int h0_f1
  obtain ⟨aPLow, _, rfl, baPLow, h0_f3⟩ := has_int h0_f2
  obtain ⟨aPHigh, _, rfl, baPHigh, h0_f4⟩ := has_int h0_f3
  obtain ⟨aPWeightsO, aPWeightsN, aPWeightsC, _, rfl, hsaPWeights, h0_f5⟩ := has_slice h0_f4
  obtain ⟨hnaPWeights, aPWeightsG, bGaPWeights, hraPWeights⟩ := row_of_has (s := 1) (.inl ⟨rfl, rfl⟩) (by omega) rfl hsaPWeights
  obtain ⟨_, _, rfl, h0Rule, h0_f6⟩ := has_struct h0_f5
  obtain ⟨aPRuleDown, _, rfl, baPRuleDown, h0Rule_f0⟩ := has_int h0Rule
  obtain ⟨aPRuleSleep, _, rfl, baPRuleSleep, h0Rule_f1⟩ := has_int h0Rule_f0
  obtain rfl := has_nil h0Rule_f1
  obtain rfl := has_nil h0_f6
  rw [arr_of hl0]
  exact law_FnExactBoxNew_any (.agg #[.int .i64 aPPage, .int .i64 aPCap, .int .i64 aPLimit, .int .i64 aPLow, .int .i64 aPHigh, .slice aPWeightsO aPWeightsN aPWeightsC, .int .i64 aPRuleDown, .int .i64 aPRuleSleep]) [⟨false, aPWeightsO, 0, 1, aPWeightsN, 0, [fun i => .int (aPWeightsG 0 i)]⟩] W ⟨aPPage, aPCap, aPLimit, aPLow, aPHigh, aPWeightsN, (aPWeightsG 0), aPRuleDown, aPRuleSleep⟩ ⟨_, _, _, _, _, rfl, rfl⟩ (rows_seen [⟨false, aPWeightsO, 0, 1, aPWeightsN, 0, [fun i => .int (aPWeightsG 0 i)]⟩] (by simp; exact hraPWeights)) hnaPWeights ⟨baPPage, baPCap, baPLimit, baPLow, baPHigh, baPRuleDown, baPRuleSleep⟩
end Go.Proofs.Ytlkklplnomecgaa

/-
  PolicyOk.
-/
import Derived.Test.YtlkklplnomecgaaSxOPol
import Derived.Test.YtlkklplnomecgaaSxPol3
import Derived.Test.YtlkklplnomecgaaSxOpen
namespace Go.Proofs.Ytlkklplnomecgaa
open Go.RowKit
set_option maxRecDepth 100000
set_option maxHeartbeats 8000000

def polD (p : PolicyD) : Bool := polB p.Page p.Cap p.Limit p.Low p.High p.WeightsN p.Weightsg0 p.RuleDown p.RuleSleep
def sPolO : Sm := fun args ch k =>
  match args with
  | [.a (.c (.obj i0 v0))] =>
    match ch[i0]? with
    | some (.obj _ r0) => ∃ (p : PolicyD), (isPolicy v0 p r0 ∧ capPolicy p) ∧ k (.a (.c (.bool (polD p)))) ch []
    | _ => False
  | _ => False
theorem sPolO_ok_impl_PolicyOk : SmOK Try.prog 42 sPolO := by
  refine smB Try.call42 fun args ch k w X h0 hs => ?_
  unfold sPolO at h0
  split at h0
  · rename_i i0 v0
    split at h0
    · rename_i o0 r0 hi0
      obtain ⟨p, ⟨⟨_, _, _, _, _, rfl, rfl⟩, hpre⟩, h0⟩ := h0
      have hw0 := hs.seeObj hi0
      refine ⟨_, h0, ?_⟩
      simp only [List.map_cons, List.map_nil, den_a, den_c, SA.den, den_obj]
      exact polI_any p.Page p.Cap p.Limit p.Low p.High _ p.WeightsN _ p.Weightsg0 p.RuleDown p.RuleSleep w (Row.seenAs (hw0 _ (mem0)).2 rfl rfl) hpre
    · exact h0.elim
  · exact h0.elim
theorem sPolO_ok_spec_PolicyOk : SmOK Try.prog 40 sPolO := by
  refine smB Try.call40 fun args ch k w X h0 hs => ?_
  unfold sPolO at h0
  split at h0
  · rename_i i0 v0
    split at h0
    · rename_i o0 r0 hi0
      obtain ⟨p, ⟨⟨_, _, _, _, _, rfl, rfl⟩, hpre⟩, h0⟩ := h0
      have hw0 := hs.seeObj hi0
      refine ⟨_, h0, ?_⟩
      simp only [List.map_cons, List.map_nil, den_a, den_c, SA.den, den_obj]
      exact polS_any p.Page p.Cap p.Limit p.Low p.High _ p.WeightsN _ p.Weightsg0 p.RuleDown p.RuleSleep w (Row.seenAs (hw0 _ (mem0)).2 rfl rfl) hpre
    · exact h0.elim
  · exact h0.elim
theorem law_FnExactPolicyOk_T (v0 : Value) (rs0 : List Row) : (exFn Try.prog {tb := [(41, sToPolicyO), (36, sEqPolicyO), (37, sMarkPolicyO), (38, sHeldPolicyO), (39, sSzPolicyO), (42, sPolO), (40, sPolO)]} 400 Try.f10 ([.a (.c (.obj 0 v0))]) ([.obj false rs0]) (fun v _ => v.den = .bool true)) = (
  ((wholeC Bool.true v0 8) ∧
  (∀ b0 : Nat,
  (b0 = b0 ∧
  (Exists (fun (x1 : PolicyD) => (((isPolicy v0 x1 rs0) ∧
  ((lensPolicy x1) ∧
  (szK (1048576 : Int)))) ∧
  ((Value.bool Bool.true) = (Value.bool Bool.true) ∧
  (∀ z2 : Int,
  ((szO z2 (1048576 : Int)) →
  ((capPolicy x1) →
   (((decide (z2 < (0 : Int))) = Bool.true →
    (Value.bool Bool.true) = (Value.bool Bool.true)) ∧
    ((decide (z2 < (0 : Int))) = Bool.false →
    (b0 = b0 ∧
     (Exists (fun (x3 : PolicyD) => (((isPolicy v0 x3 rs0) ∧
     (capPolicy x3)) ∧
     (∀ v'4 : Value,
     (∀ rs'5 : (List Row),
     ((isPolicy v'4 x3 rs'5) →
     (Exists (fun (p6 : PolicyD) => (((isPolicy v'4 p6 rs'5) ∧
      (capPolicy p6)) ∧
      (b0 = b0 ∧
      (Exists (fun (x7 : PolicyD) => (((isPolicy v0 x7 rs0) ∧
      (capPolicy x7)) ∧
      (∀ v'8 : Value,
      (∀ rs'9 : (List Row),
      ((isPolicy v'8 x7 rs'9) →
      (∀ b10 : Nat,
       ((b10 = b10 ∧
       (wholeC Bool.true v'8 8)) ∧
       (b10 = b10 ∧
       (Exists (fun (p11 : PolicyD) => (((isPolicy v'8 p11 rs'9) ∧
       (capPolicy p11)) ∧
       ((((polD p11) != (polD p6)) = Bool.true →
       (Value.bool Bool.false) = (Value.bool Bool.true)) ∧
       (((polD p11) != (polD p6)) = Bool.false →
       (b10 = b10 ∧
        (b0 = b0 ∧
        (Exists (fun (x12 : PolicyD) => (((isPolicy v0 x12 rs0) ∧
        (capPolicy x12)) ∧
        (∀ v'13 : Value,
        (∀ rs'14 : (List Row),
        ((isPolicy v'13 x12 rs'14) →
        (True ∧
         (Exists (fun (x15 : PolicyD) => (((isPolicy v'8 x15 rs'9) ∧
         ((isPolicy v'13 x15 rs'14) ∧
         (capPolicy x15))) ∧
         (True ∧
         (Value.bool Bool.true) = (Value.bool Bool.true)))))))))))))))))))))))))))))))))))))))))))))))))))) := by kernel_rfl
theorem law_FnExactPolicyOk_any (v0 : Value) (rs0 : List Row) (W : World) (x0 : PolicyD) (hx0 : isPolicy v0 x0 rs0) (hw0 : ∀ r ∈ rs0, r.own = false ∧ r.sat W) (hn0 : x0.WeightsN ≤ 9223372036854775807) (hb0 : (-9223372036854775808 ≤ x0.Page ∧ x0.Page ≤ 9223372036854775807) ∧ (-9223372036854775808 ≤ x0.Cap ∧ x0.Cap ≤ 9223372036854775807) ∧ (-9223372036854775808 ≤ x0.Limit ∧ x0.Limit ≤ 9223372036854775807) ∧ (-9223372036854775808 ≤ x0.Low ∧ x0.Low ≤ 9223372036854775807) ∧ (-9223372036854775808 ≤ x0.High ∧ x0.High ≤ 9223372036854775807) ∧ (-9223372036854775808 ≤ x0.RuleDown ∧ x0.RuleDown ≤ 9223372036854775807) ∧ (-9223372036854775808 ≤ x0.RuleSleep ∧ x0.RuleSleep ≤ 9223372036854775807)) : Calls Try.prog 10 #[v0] W fun e W' => e = .returned (.bool true) ∧ Below W.heap.size W W' := by
  refine fnB (tb := [(41, sToPolicyO), (36, sEqPolicyO), (37, sMarkPolicyO), (38, sHeldPolicyO), (39, sSzPolicyO), (42, sPolO), (40, sPolO)]) ⟨sToPolicyO_ok_laws_toPolicy, sEqPolicyO_ok, sMarkPolicyO_ok, sHeldPolicyO_ok, sSzPolicyO_ok, sPolO_ok_impl_PolicyOk, sPolO_ok_spec_PolicyOk, trivial⟩ Try.func10 ((law_FnExactPolicyOk_T v0 rs0).mpr ?_) (HS.objs (fun _ => False) [rs0] (seen_cons hw0 seen_nil)) (fun v ch' w' hk hs => ⟨by rw [hk], hs.below⟩)
  clear hw0
  repeat' (first
    | exact rfl
    | exact True.intro
    | assumption
    | exact wholePolicy (by assumption)
    | refine And.intro ?_ ?_
    | apply Exists.intro
    | omega
    | (intro h; exfalso; revert h; simp; done)
    | (intro h; exfalso; simp at h; omega)
    | intro _)
theorem walk_FnExactPolicyOk (cs0 : Array Value) (W : World) (h0 : Has W (.cons .int (.cons .int (.cons .int (.cons .int (.cons .int (.cons (.slice .int) (.cons (.cons .int (.cons .int .nil)) .nil))))))) cs0.toList) : Calls Try.prog 10 #[.agg cs0] W fun e W' => e = .returned (.bool true) ∧ Below W.heap.size W W' := by
  obtain ⟨l0, hl0⟩ : ∃ l, cs0.toList = l := ⟨_, rfl⟩
  rw [hl0] at h0
  obtain ⟨aPPage, _, rfl, baPPage, h0_f0⟩ := has_int h0
  obtain ⟨aPCap, _, rfl, baPCap, h0_f1⟩ := has_int h0_f0
  obtain ⟨aPLimit, _, rfl, baPLimit, h0_f2⟩ := has_int h0_f1
  obtain ⟨aPLow, _, rfl, baPLow, h0_f3⟩ := has_int h0_f2
  obtain ⟨aPHigh, _, rfl, baPHigh, h0_f4⟩ := has_int h0_f3
  obtain ⟨aPWeightsO, aPWeightsN, aPWeightsC, _, rfl, hsaPWeights, h0_f5⟩ := has_slice h0_f4
  obtain ⟨hnaPWeights, aPWeightsG, bGaPWeights, hraPWeights⟩ := row_of_has (s := 1) (.inl ⟨rfl, rfl⟩) (by omega) rfl hsaPWeights
  obtain ⟨_, _, rfl, h0Rule, h0_f6⟩ := has_struct h0_f5
  obtain ⟨aPRuleDown, _, rfl, baPRuleDown, h0Rule_f0⟩ := has_int h0Rule
  obtain ⟨aPRuleSleep, _, rfl, baPRuleSleep, h0Rule_f1⟩ := has_int h0Rule_f0
  obtain rfl := has_nil h0Rule_f1
  obtain rfl := has_nil h0_f6
  rw [arr_of hl0]
  exact law_FnExactPolicyOk_any (.agg #[.int .i64 aPPage, .int .i64 aPCap, .int .i64 aPLimit, .int .i64 aPLow, .int .i64 aPHigh, .slice aPWeightsO aPWeightsN aPWeightsC, .int .i64 aPRuleDown, .int .i64 aPRuleSleep]) [⟨false, aPWeightsO, 0, 1, aPWeightsN, 0, [fun i => .int (aPWeightsG 0 i)]⟩] W ⟨aPPage, aPCap, aPLimit, aPLow, aPHigh, aPWeightsN, (aPWeightsG 0), aPRuleDown, aPRuleSleep⟩ ⟨_, _, _, _, _, rfl, rfl⟩ (rows_seen [⟨false, aPWeightsO, 0, 1, aPWeightsN, 0, [fun i => .int (aPWeightsG 0 i)]⟩] (by simp; exact hraPWeights)) hnaPWeights ⟨baPPage, baPCap, baPLimit, baPLow, baPHigh, baPRuleDown, baPRuleSleep⟩
end Go.Proofs.Ytlkklplnomecgaa

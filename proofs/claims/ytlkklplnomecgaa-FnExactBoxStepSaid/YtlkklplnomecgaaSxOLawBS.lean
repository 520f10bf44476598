/-
  BoxStep.
-/
import Derived.Test.YtlkklplnomecgaaSxOPol
import Derived.Test.YtlkklplnomecgaaSxBox
import Derived.Test.YtlkklplnomecgaaSxOpen
namespace Go.Proofs.Ytlkklplnomecgaa
open Go.RowKit
set_option maxRecDepth 100000
set_option maxHeartbeats 8000000

def stepD (b : PolicyBoxD) (safe : Bool) : PolicyBoxD := ⟨selZ (bothB safe b.Waits) b.NextPage b.ActivePage, selZ (bothB safe b.Waits) b.NextCap b.ActiveCap, selZ (bothB safe b.Waits) b.NextLimit b.ActiveLimit, selZ (bothB safe b.Waits) b.NextLow b.ActiveLow, selZ (bothB safe b.Waits) b.NextHigh b.ActiveHigh, selN (bothB safe b.Waits) b.NextWeightsN b.ActiveWeightsN, fun i => selZ (bothB safe b.Waits) (b.NextWeightsg0 i) (b.ActiveWeightsg0 i), selZ (bothB safe b.Waits) b.NextRuleDown b.ActiveRuleDown, selZ (bothB safe b.Waits) b.NextRuleSleep b.ActiveRuleSleep, b.NextPage, b.NextCap, b.NextLimit, b.NextLow, b.NextHigh, b.NextWeightsN, b.NextWeightsg0, b.NextRuleDown, b.NextRuleSleep, (lessB b.Waits safe)⟩
def stepOk (b : PolicyBoxD) (safe : Bool) : Bool := (bothB safe b.Waits)
theorem capStep {b : PolicyBoxD} {safe : Bool} (h : capPolicyBox b) : capPolicyBox (stepD b safe) := by
  refine ⟨?_, h.2⟩
  simp only [stepD, selN]
  split
  · exact h.2
  · exact h.1
def sStepO : Sm := fun args ch k =>
  match args with
  | [.a (.c (.obj i0 v0)), .a (.c c0)] =>
    match ch[i0]?, bools [c0] with
    | some (.obj _ r0), some [safe] => ∃ (b : PolicyBoxD), (isPolicyBox v0 b r0 ∧ capPolicyBox b) ∧ ∀ (v' : Value) (rs' : List Row), isPolicyBox v' (stepD b safe) rs' → k (.tup [.c (.obj ch.length v'), .c (.bool (stepOk b safe))]) (ch ++ [.obj true rs']) []
    | _, _ => False
  | _ => False
theorem sStepO_ok_impl_BoxStep : SmOK Try.prog 49 sStepO := by
  refine smN Try.call49 fun args ch k w X h0 hs => ?_
  unfold sStepO at h0
  split at h0
  · rename_i i0 v0 c0
    split at h0
    · rename_i o0 r0 safe hi0 hB
      obtain ⟨b, ⟨⟨_, _, _, _, _, _, _, _, _, _, rfl, rfl⟩, hpre⟩, h0⟩ := h0
      obtain ⟨ec0, hB⟩ := bools_cons hB
      have hw0 := hs.seeObj hi0
      simp only [List.map_cons, List.map_nil, den_a, den_c, SA.den, den_obj, ec0]
      refine Calls.mono (stepI_any b.ActivePage b.ActiveCap b.ActiveLimit b.ActiveLow b.ActiveHigh _ b.ActiveWeightsN _ b.ActiveWeightsg0 b.ActiveRuleDown b.ActiveRuleSleep b.NextPage b.NextCap b.NextLimit b.NextLow b.NextHigh _ b.NextWeightsN _ b.NextWeightsg0 b.NextRuleDown b.NextRuleSleep b.Waits safe w (Row.seenAs (hw0 _ (mem0)).2 rfl rfl) (Row.seenAs (hw0 _ ((memS mem0))).2 rfl rfl) hpre) fun e w' ⟨ro0, rc0, ro1, rc1, he, hs'⟩ => ⟨_, [.obj true _], ?_, hs'.pack (rs := [_, _]) (by simp), rfl, h0 _ _ ⟨ro0, ro1, rc0, _, _, rc1, _, _, _, _, rfl, rfl⟩⟩
      rw [he]
      rfl
    · exact h0.elim
  · exact h0.elim
theorem sStepO_ok_spec_BoxStep : SmOK Try.prog 47 sStepO := by
  refine smN Try.call47 fun args ch k w X h0 hs => ?_
  unfold sStepO at h0
  split at h0
  · rename_i i0 v0 c0
    split at h0
    · rename_i o0 r0 safe hi0 hB
      obtain ⟨b, ⟨⟨_, _, _, _, _, _, _, _, _, _, rfl, rfl⟩, hpre⟩, h0⟩ := h0
      obtain ⟨ec0, hB⟩ := bools_cons hB
      have hw0 := hs.seeObj hi0
      simp only [List.map_cons, List.map_nil, den_a, den_c, SA.den, den_obj, ec0]
      refine Calls.mono (stepS_any b.ActivePage b.ActiveCap b.ActiveLimit b.ActiveLow b.ActiveHigh _ b.ActiveWeightsN _ b.ActiveWeightsg0 b.ActiveRuleDown b.ActiveRuleSleep b.NextPage b.NextCap b.NextLimit b.NextLow b.NextHigh _ b.NextWeightsN _ b.NextWeightsg0 b.NextRuleDown b.NextRuleSleep b.Waits safe w (Row.seenAs (hw0 _ (mem0)).2 rfl rfl) (Row.seenAs (hw0 _ ((memS mem0))).2 rfl rfl) hpre) fun e w' ⟨ro0, rc0, ro1, rc1, he, hs'⟩ => ⟨_, [.obj true _], ?_, hs'.pack (rs := [_, _]) (by simp), rfl, h0 _ _ ⟨ro0, ro1, rc0, _, _, rc1, _, _, _, _, rfl, rfl⟩⟩
      rw [he]
      rfl
    · exact h0.elim
  · exact h0.elim
theorem law_FnExactBoxStep_T (v0 : Value) (rs0 : List Row) (aSafe : Bool) : (exFn Try.prog {tb := [(48, sToPolicyBoxO), (50, sEqPolicyBoxO), (51, sMarkPolicyBoxO), (52, sHeldPolicyBoxO), (46, sSzPolicyBoxO), (49, sStepO), (47, sStepO)]} 400 Try.f12 ([.a (.c (.obj 0 v0)), .a (.c (.bool aSafe))]) ([.obj false rs0]) (fun v _ => v.den = .bool true)) = (
  ((wholeC Bool.true v0 17) ∧
  (∀ b0 : Nat,
  (b0 = b0 ∧
  (Exists (fun (x1 : PolicyBoxD) => (((isPolicyBox v0 x1 rs0) ∧
  ((lensPolicyBox x1) ∧
  (szK (1048576 : Int)))) ∧
  ((Value.bool Bool.true) = (Value.bool Bool.true) ∧
  (∀ z2 : Int,
  ((szO z2 (1048576 : Int)) →
  ((capPolicyBox x1) →
   (((decide (z2 < (0 : Int))) = Bool.true →
    (Value.bool Bool.true) = (Value.bool Bool.true)) ∧
    ((decide (z2 < (0 : Int))) = Bool.false →
    (b0 = b0 ∧
     (Exists (fun (x3 : PolicyBoxD) => (((isPolicyBox v0 x3 rs0) ∧
     (capPolicyBox x3)) ∧
     (∀ v'4 : Value,
     (∀ rs'5 : (List Row),
     ((isPolicyBox v'4 x3 rs'5) →
     (Exists (fun (b6 : PolicyBoxD) => (((isPolicyBox v'4 b6 rs'5) ∧
      (capPolicyBox b6)) ∧
      (∀ v'7 : Value,
      (∀ rs'8 : (List Row),
      ((isPolicyBox v'7 (stepD b6 aSafe) rs'8) →
      (∀ b9 : Nat,
       ((b9 = b9 ∧
       (wholeC Bool.true v'7 17)) ∧
       (b0 = b0 ∧
       (Exists (fun (x10 : PolicyBoxD) => (((isPolicyBox v0 x10 rs0) ∧
       (capPolicyBox x10)) ∧
       (∀ v'11 : Value,
       (∀ rs'12 : (List Row),
       ((isPolicyBox v'11 x10 rs'12) →
       (∀ b13 : Nat,
        ((b13 = b13 ∧
        (wholeC Bool.true v'11 17)) ∧
        (b13 = b13 ∧
        (Exists (fun (b14 : PolicyBoxD) => (((isPolicyBox v'11 b14 rs'12) ∧
        (capPolicyBox b14)) ∧
        (∀ v'15 : Value,
        (∀ rs'16 : (List Row),
        ((isPolicyBox v'15 (stepD b14 aSafe) rs'16) →
        (∀ b17 : Nat,
         ((b17 = b17 ∧
         (wholeC Bool.true v'15 17)) ∧
         (b17 = b17 ∧
         (b9 = b9 ∧
         (Exists (fun (x18 : PolicyBoxD) => (((isPolicyBox v'15 x18 rs'16) ∧
         ((isPolicyBox v'7 x18 rs'8) ∧
         (capPolicyBox x18))) ∧
         ((((stepOk b14 aSafe) != (stepOk b6 aSafe)) = Bool.true →
         (Value.bool Bool.false) = (Value.bool Bool.true)) ∧
         (((stepOk b14 aSafe) != (stepOk b6 aSafe)) = Bool.false →
         (b13 = b13 ∧
          (b0 = b0 ∧
          (Exists (fun (x19 : PolicyBoxD) => (((isPolicyBox v0 x19 rs0) ∧
          (capPolicyBox x19)) ∧
          (∀ v'20 : Value,
          (∀ rs'21 : (List Row),
          ((isPolicyBox v'20 x19 rs'21) →
          (True ∧
           (Exists (fun (x22 : PolicyBoxD) => (((isPolicyBox v'11 x22 rs'12) ∧
           ((isPolicyBox v'20 x22 rs'21) ∧
           (capPolicyBox x22))) ∧
           (True ∧
           (b13 = b13 ∧
           (Exists (fun (x23 : PolicyBoxD) => (((isPolicyBox v'11 x23 rs'12) ∧
           ((capPolicyBox x23) ∧
           (mrkC (1 : Int)))) ∧
           ((endC (1 : Int) (endPolicyBox (1 : Int) x23) (33554432 : Int)) →
           (∀ rs'24 : (List Row),
            ((isPolicyBox v'11 (markPolicyBoxD (1 : Int) x23) rs'24) →
            (((decide ((endPolicyBox (1 : Int) x23) < (0 : Int))) = Bool.false →
             (b17 = b17 ∧
              (b9 = b9 ∧
              (Exists (fun (x25 : PolicyBoxD) => (((isPolicyBox v'15 x25 rs'16) ∧
              ((isPolicyBox v'7 x25 rs'8) ∧
              (capPolicyBox x25))) ∧
              ((((stepOk b14 aSafe) != (stepOk b6 aSafe)) = Bool.true →
              (Value.bool Bool.false) = (Value.bool Bool.true)) ∧
              (((stepOk b14 aSafe) != (stepOk b6 aSafe)) = Bool.false →
              (b17 = b17 ∧
               (Exists (fun (x26 : PolicyBoxD) => (((isPolicyBox v'15 x26 rs'16) ∧
               ((capPolicyBox x26) ∧
               (mrkC (1 : Int)))) ∧
               ((endC (1 : Int) (endPolicyBox (1 : Int) x26) (33554432 : Int)) →
               (∀ rs'27 : (List Row),
                ((isPolicyBox v'15 (markPolicyBoxD (1 : Int) x26) rs'27) →
                (b17 = b17 ∧
                 (Exists (fun (x28 : PolicyBoxD) => (((isPolicyBox v'15 (markPolicyBoxD (1 : Int) x28) rs'27) ∧
                 ((capPolicyBox x28) ∧
                 (mrkC (1 : Int)))) ∧
                 (((decide ((endPolicyBox (1 : Int) x28) < (0 : Int))) = Bool.true →
                 (Value.bool Bool.false) = (Value.bool Bool.true)) ∧
                 ((decide ((endPolicyBox (1 : Int) x28) < (0 : Int))) = Bool.false →
                 ((((endPolicyBox (1 : Int) x28) != (endPolicyBox (1 : Int) x26)) = Bool.true →
                  (Value.bool Bool.false) = (Value.bool Bool.true)) ∧
                  (((endPolicyBox (1 : Int) x28) != (endPolicyBox (1 : Int) x26)) = Bool.false →
                  (b0 = b0 ∧
                   (Exists (fun (x29 : PolicyBoxD) => (((isPolicyBox v0 x29 rs0) ∧
                   (capPolicyBox x29)) ∧
                   (∀ v'30 : Value,
                   (∀ rs'31 : (List Row),
                   ((isPolicyBox v'30 x29 rs'31) →
                   (Exists (fun (b32 : PolicyBoxD) => (((isPolicyBox v'30 b32 rs'31) ∧
                    (capPolicyBox b32)) ∧
                    (∀ v'33 : Value,
                    (∀ rs'34 : (List Row),
                    ((isPolicyBox v'33 (stepD b32 aSafe) rs'34) →
                    (∀ b35 : Nat,
                     ((b35 = b35 ∧
                     (wholeC Bool.true v'33 17)) ∧
                     (b35 = b35 ∧
                     (b9 = b9 ∧
                     (Exists (fun (x36 : PolicyBoxD) => (((isPolicyBox v'33 x36 rs'34) ∧
                     ((isPolicyBox v'7 x36 rs'8) ∧
                     (capPolicyBox x36))) ∧
                     ((((stepOk b32 aSafe) != (stepOk b6 aSafe)) = Bool.true →
                     (Value.bool Bool.false) = (Value.bool Bool.true)) ∧
                     (((stepOk b32 aSafe) != (stepOk b6 aSafe)) = Bool.false →
                     (b17 = b17 ∧
                      (Exists (fun (x37 : PolicyBoxD) => (((isPolicyBox v'15 (markPolicyBoxD (1 : Int) x37) rs'27) ∧
                      ((capPolicyBox x37) ∧
                      (mrkC (1 : Int)))) ∧
                      (((decide ((endPolicyBox (1 : Int) x37) < (0 : Int))) = Bool.true →
                      (Value.bool Bool.false) = (Value.bool Bool.true)) ∧
                      ((decide ((endPolicyBox (1 : Int) x37) < (0 : Int))) = Bool.false →
                      ((((endPolicyBox (1 : Int) x37) != (endPolicyBox (1 : Int) x26)) = Bool.true →
                       (Value.bool Bool.false) = (Value.bool Bool.true)) ∧
                       (((endPolicyBox (1 : Int) x37) != (endPolicyBox (1 : Int) x26)) = Bool.false →
                       (Value.bool Bool.true) = (Value.bool Bool.true)))))))))))))))))))))))))))))))))))))))))))))))))))))) ∧
             ((decide ((endPolicyBox (1 : Int) x23) < (0 : Int))) = Bool.true →
             (Value.bool Bool.false) = (Value.bool Bool.true)))))))))))))))))))))))))))))))))))))))))))))))))))))))))))))))))))))))))))) := by kernel_rfl
theorem law_FnExactBoxStep_any (v0 : Value) (rs0 : List Row) (aSafe : Bool) (W : World) (x0 : PolicyBoxD) (hx0 : isPolicyBox v0 x0 rs0) (hw0 : ∀ r ∈ rs0, r.own = false ∧ r.sat W) (hn0 : x0.ActiveWeightsN ≤ 9223372036854775807 ∧ x0.NextWeightsN ≤ 9223372036854775807) (hb0 : (-9223372036854775808 ≤ x0.ActivePage ∧ x0.ActivePage ≤ 9223372036854775807) ∧ (-9223372036854775808 ≤ x0.ActiveCap ∧ x0.ActiveCap ≤ 9223372036854775807) ∧ (-9223372036854775808 ≤ x0.ActiveLimit ∧ x0.ActiveLimit ≤ 9223372036854775807) ∧ (-9223372036854775808 ≤ x0.ActiveLow ∧ x0.ActiveLow ≤ 9223372036854775807) ∧ (-9223372036854775808 ≤ x0.ActiveHigh ∧ x0.ActiveHigh ≤ 9223372036854775807) ∧ (-9223372036854775808 ≤ x0.ActiveRuleDown ∧ x0.ActiveRuleDown ≤ 9223372036854775807) ∧ (-9223372036854775808 ≤ x0.ActiveRuleSleep ∧ x0.ActiveRuleSleep ≤ 9223372036854775807) ∧ (-9223372036854775808 ≤ x0.NextPage ∧ x0.NextPage ≤ 9223372036854775807) ∧ (-9223372036854775808 ≤ x0.NextCap ∧ x0.NextCap ≤ 9223372036854775807) ∧ (-9223372036854775808 ≤ x0.NextLimit ∧ x0.NextLimit ≤ 9223372036854775807) ∧ (-9223372036854775808 ≤ x0.NextLow ∧ x0.NextLow ≤ 9223372036854775807) ∧ (-9223372036854775808 ≤ x0.NextHigh ∧ x0.NextHigh ≤ 9223372036854775807) ∧ (-9223372036854775808 ≤ x0.NextRuleDown ∧ x0.NextRuleDown ≤ 9223372036854775807) ∧ (-9223372036854775808 ≤ x0.NextRuleSleep ∧ x0.NextRuleSleep ≤ 9223372036854775807)) : Calls Try.prog 12 #[v0, .bool aSafe] W fun e W' => e = .returned (.bool true) ∧ Below W.heap.size W W' := by
  refine fnB (tb := [(48, sToPolicyBoxO), (50, sEqPolicyBoxO), (51, sMarkPolicyBoxO), (52, sHeldPolicyBoxO), (46, sSzPolicyBoxO), (49, sStepO), (47, sStepO)]) ⟨sToPolicyBoxO_ok_laws_toPolicyBox, sEqPolicyBoxO_ok, sMarkPolicyBoxO_ok, sHeldPolicyBoxO_ok, sSzPolicyBoxO_ok, sStepO_ok_impl_BoxStep, sStepO_ok_spec_BoxStep, trivial⟩ Try.func12 ((law_FnExactBoxStep_T v0 rs0 aSafe).mpr ?_) (HS.objs (fun _ => False) [rs0] (seen_cons hw0 seen_nil)) (fun v ch' w' hk hs => ⟨by rw [hk], hs.below⟩)
  clear hw0
  repeat' (first
    | exact rfl
    | exact True.intro
    | assumption
    | exact capStep (by assumption)
    | exact wholePolicyBox (by assumption)
    | refine And.intro ?_ ?_
    | apply Exists.intro
    | omega
    | (intro h; exfalso; revert h; simp; done)
    | (intro h; exfalso; simp at h; omega)
    | intro _)
theorem walk_FnExactBoxStep (cs0 : Array Value) (aSafe : Bool) (W : World) (h0 : Has W (.cons (.cons .int (.cons .int (.cons .int (.cons .int (.cons .int (.cons (.slice .int) (.cons (.cons .int (.cons .int .nil)) .nil))))))) (.cons (.cons .int (.cons .int (.cons .int (.cons .int (.cons .int (.cons (.slice .int) (.cons (.cons .int (.cons .int .nil)) .nil))))))) (.cons .bool .nil))) cs0.toList) : Calls Try.prog 12 #[.agg cs0, .bool aSafe] W fun e W' => e = .returned (.bool true) ∧ Below W.heap.size W W' := by
  obtain ⟨l0, hl0⟩ : ∃ l, cs0.toList = l := ⟨_, rfl⟩
  rw [hl0] at h0
  obtain ⟨_, _, rfl, h0Active, h0_f0⟩ := has_struct h0
  obtain ⟨aBActivePage, _, rfl, baBActivePage, h0Active_f0⟩ := has_int h0Active
  obtain ⟨aBActiveCap, _, rfl, baBActiveCap, h0Active_f1⟩ := has_int h0Active_f0
  obtain ⟨aBActiveLimit, _, rfl, baBActiveLimit, h0Active_f2⟩ := has_int h0Active_f1
  obtain ⟨aBActiveLow, _, rfl, baBActiveLow, h0Active_f3⟩ := has_int h0Active_f2
  obtain ⟨aBActiveHigh, _, rfl, baBActiveHigh, h0Active_f4⟩ := has_int h0Active_f3
  obtain ⟨aBActiveWeightsO, aBActiveWeightsN, aBActiveWeightsC, _, rfl, hsaBActiveWeights, h0Active_f5⟩ := has_slice h0Active_f4
  obtain ⟨hnaBActiveWeights, aBActiveWeightsG, bGaBActiveWeights, hraBActiveWeights⟩ := row_of_has (s := 1) (.inl ⟨rfl, rfl⟩) (by omega) rfl hsaBActiveWeights
  obtain ⟨_, _, rfl, h0ActiveRule, h0Active_f6⟩ := has_struct h0Active_f5
  obtain ⟨aBActiveRuleDown, _, rfl, baBActiveRuleDown, h0ActiveRule_f0⟩ := has_int h0ActiveRule
  obtain ⟨aBActiveRuleSleep, _, rfl, baBActiveRuleSleep, h0ActiveRule_f1⟩ := has_int h0ActiveRule_f0
  obtain rfl := has_nil h0ActiveRule_f1
  obtain rfl := has_nil h0Active_f6
  obtain ⟨_, _, rfl, h0Next, h0_f1⟩ := has_struct h0_f0
  obtain ⟨aBNextPage, _, rfl, baBNextPage, h0Next_f0⟩ := has_int h0Next
  obtain ⟨aBNextCap, _, rfl, baBNextCap, h0Next_f1⟩ := has_int h0Next_f0
  obtain ⟨aBNextLimit, _, rfl, baBNextLimit, h0Next_f2⟩ := has_int h0Next_f1
  obtain ⟨aBNextLow, _, rfl, baBNextLow, h0Next_f3⟩ := has_int h0Next_f2
  obtain ⟨aBNextHigh, _, rfl, baBNextHigh, h0Next_f4⟩ := has_int h0Next_f3
  obtain ⟨aBNextWeightsO, aBNextWeightsN, aBNextWeightsC, _, rfl, hsaBNextWeights, h0Next_f5⟩ := has_slice h0Next_f4
  obtain ⟨hnaBNextWeights, aBNextWeightsG, bGaBNextWeights, hraBNextWeights⟩ := row_of_has (s := 1) (.inl ⟨rfl, rfl⟩) (by omega) rfl hsaBNextWeights
  obtain ⟨_, _, rfl, h0NextRule, h0Next_f6⟩ := has_struct h0Next_f5
  obtain ⟨aBNextRuleDown, _, rfl, baBNextRuleDown, h0NextRule_f0⟩ := has_int h0NextRule
  obtain ⟨aBNextRuleSleep, _, rfl, baBNextRuleSleep, h0NextRule_f1⟩ := has_int h0NextRule_f0
  obtain rfl := has_nil h0NextRule_f1
  obtain rfl := has_nil h0Next_f6
  obtain ⟨aBWaits, _, rfl, h0_f2⟩ := has_bool h0_f1
  obtain rfl := has_nil h0_f2
  rw [arr_of hl0]
  exact law_FnExactBoxStep_any (.agg #[.int .i64 aBActivePage, .int .i64 aBActiveCap, .int .i64 aBActiveLimit, .int .i64 aBActiveLow, .int .i64 aBActiveHigh, .slice aBActiveWeightsO aBActiveWeightsN aBActiveWeightsC, .int .i64 aBActiveRuleDown, .int .i64 aBActiveRuleSleep, .int .i64 aBNextPage, .int .i64 aBNextCap, .int .i64 aBNextLimit, .int .i64 aBNextLow, .int .i64 aBNextHigh, .slice aBNextWeightsO aBNextWeightsN aBNextWeightsC, .int .i64 aBNextRuleDown, .int .i64 aBNextRuleSleep, .bool aBWaits]) [⟨false, aBActiveWeightsO, 0, 1, aBActiveWeightsN, 0, [fun i => .int (aBActiveWeightsG 0 i)]⟩, ⟨false, aBNextWeightsO, 0, 1, aBNextWeightsN, 0, [fun i => .int (aBNextWeightsG 0 i)]⟩] aSafe W ⟨aBActivePage, aBActiveCap, aBActiveLimit, aBActiveLow, aBActiveHigh, aBActiveWeightsN, (aBActiveWeightsG 0), aBActiveRuleDown, aBActiveRuleSleep, aBNextPage, aBNextCap, aBNextLimit, aBNextLow, aBNextHigh, aBNextWeightsN, (aBNextWeightsG 0), aBNextRuleDown, aBNextRuleSleep, aBWaits⟩ ⟨_, _, _, _, _, _, _, _, _, _, rfl, rfl⟩ (rows_seen [⟨false, aBActiveWeightsO, 0, 1, aBActiveWeightsN, 0, [fun i => .int (aBActiveWeightsG 0 i)]⟩, ⟨false, aBNextWeightsO, 0, 1, aBNextWeightsN, 0, [fun i => .int (aBNextWeightsG 0 i)]⟩] (by simp; exact ⟨hraBActiveWeights, hraBNextWeights⟩)) ⟨hnaBActiveWeights, hnaBNextWeights⟩ ⟨baBActivePage, baBActiveCap, baBActiveLimit, baBActiveLow, baBActiveHigh, baBActiveRuleDown, baBActiveRuleSleep, baBNextPage, baBNextCap, baBNextLimit, baBNextLow, baBNextHigh, baBNextRuleDown, baBNextRuleSleep⟩
end Go.Proofs.Ytlkklplnomecgaa

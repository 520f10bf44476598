/-
  Policies checked.
-/
import Derived.Test.YtlkklplnomecgaaSxPol2
namespace Go.Proofs.Ytlkklplnomecgaa
set_option linter.unusedVariables false
set_option linter.unusedSimpArgs false
open Go.RowKit
set_option maxRecDepth 100000
set_option maxHeartbeats 8000000

def polB (page cap limit low high : Int) (n : Nat) (g : Nat → Int) (d s : Int) : Bool := btw page 0 1 && btw cap 0 100000 && btw limit 3 1000 && drainB low high && ((n : Int) == 4) && shB n g g && ruleB d s
theorem polI_T (pPage : Int) (pCap : Int) (pLimit : Int) (pLow : Int) (pHigh : Int) (pWeightsO : Option Addr) (pWeightsN pWeightsC : Nat) (pWeightsg0 : Nat → Int) (pRuleDown : Int) (pRuleSleep : Int) : (exFn Try.prog {tb := [(77, sShNew), (60, sBtw), (78, sDrainOk), (79, sRuleOk)]} 400 Try.f42 ([.a (.agg [.int pPage, .int pCap, .int pLimit, .int pLow, .int pHigh, .sl 0 pWeightsO pWeightsN pWeightsC, .int pRuleDown, .int pRuleSleep])]) ([.row ⟨false, pWeightsO, 0, 1, pWeightsN, 0, [fun i => .int (pWeightsg0 i)]⟩]) (fun v _ => v.den = .bool (polB pPage pCap pLimit pLow pHigh pWeightsN pWeightsg0 pRuleDown pRuleSleep))) = (
  (∀ b0 : Nat,
  (b0 = b0 ∧
  (Exists (fun (wg01 : (Nat →
  Int)) => ((pWeightsO = pWeightsO ∧
  (pWeightsN = pWeightsN ∧
  ([(fun (i2 : Nat) => (SC.int (pWeightsg0 i2)))] = [(fun (i3 : Nat) => (SC.int (wg01 i3)))] ∧
  (capC pWeightsN)))) ∧
  (∀ ro04 : (Option Addr),
  (∀ rc05 : Nat,
  (b0 = b0 ∧
  (((pPage == (0 : Int)) = Bool.false →
  (b0 = b0 ∧
   (((pPage == (1 : Int)) = Bool.true →
   (b0 = b0 ∧
    (((btw pCap (0 : Int) (100000 : Int)) = Bool.true →
    (b0 = b0 ∧
     (((btw pLimit (3 : Int) (1000 : Int)) = Bool.true →
     (b0 = b0 ∧
      (b0 = b0 ∧
      (((drainB pLow pHigh) = Bool.true →
      (b0 = b0 ∧
       (((((pWeightsN : Nat) : Int) == (4 : Int)) = Bool.true →
       (((shB pWeightsN wg01 wg01) = Bool.true →
        (b0 = b0 ∧
         (Value.bool (ruleB pRuleDown pRuleSleep)) = (Value.bool (polB pPage pCap pLimit pLow pHigh pWeightsN pWeightsg0 pRuleDown pRuleSleep)))) ∧
        ((shB pWeightsN wg01 wg01) = Bool.false →
        (Value.bool Bool.false) = (Value.bool (polB pPage pCap pLimit pLow pHigh pWeightsN pWeightsg0 pRuleDown pRuleSleep))))) ∧
       ((((pWeightsN : Nat) : Int) == (4 : Int)) = Bool.false →
       (Value.bool Bool.false) = (Value.bool (polB pPage pCap pLimit pLow pHigh pWeightsN pWeightsg0 pRuleDown pRuleSleep)))))) ∧
      ((drainB pLow pHigh) = Bool.false →
      (Value.bool Bool.false) = (Value.bool (polB pPage pCap pLimit pLow pHigh pWeightsN pWeightsg0 pRuleDown pRuleSleep))))))) ∧
     ((btw pLimit (3 : Int) (1000 : Int)) = Bool.false →
     (Value.bool Bool.false) = (Value.bool (polB pPage pCap pLimit pLow pHigh pWeightsN pWeightsg0 pRuleDown pRuleSleep)))))) ∧
    ((btw pCap (0 : Int) (100000 : Int)) = Bool.false →
    (Value.bool Bool.false) = (Value.bool (polB pPage pCap pLimit pLow pHigh pWeightsN pWeightsg0 pRuleDown pRuleSleep)))))) ∧
   ((pPage == (1 : Int)) = Bool.false →
   (Value.bool Bool.false) = (Value.bool (polB pPage pCap pLimit pLow pHigh pWeightsN pWeightsg0 pRuleDown pRuleSleep)))))) ∧
  ((pPage == (0 : Int)) = Bool.true →
  (b0 = b0 ∧
   (((btw pCap (0 : Int) (100000 : Int)) = Bool.true →
   (b0 = b0 ∧
    (((btw pLimit (3 : Int) (1000 : Int)) = Bool.true →
    (b0 = b0 ∧
     (b0 = b0 ∧
     (((drainB pLow pHigh) = Bool.true →
     (b0 = b0 ∧
      (((((pWeightsN : Nat) : Int) == (4 : Int)) = Bool.true →
      (((shB pWeightsN wg01 wg01) = Bool.true →
       (b0 = b0 ∧
        (Value.bool (ruleB pRuleDown pRuleSleep)) = (Value.bool (polB pPage pCap pLimit pLow pHigh pWeightsN pWeightsg0 pRuleDown pRuleSleep)))) ∧
       ((shB pWeightsN wg01 wg01) = Bool.false →
       (Value.bool Bool.false) = (Value.bool (polB pPage pCap pLimit pLow pHigh pWeightsN pWeightsg0 pRuleDown pRuleSleep))))) ∧
      ((((pWeightsN : Nat) : Int) == (4 : Int)) = Bool.false →
      (Value.bool Bool.false) = (Value.bool (polB pPage pCap pLimit pLow pHigh pWeightsN pWeightsg0 pRuleDown pRuleSleep)))))) ∧
     ((drainB pLow pHigh) = Bool.false →
     (Value.bool Bool.false) = (Value.bool (polB pPage pCap pLimit pLow pHigh pWeightsN pWeightsg0 pRuleDown pRuleSleep))))))) ∧
    ((btw pLimit (3 : Int) (1000 : Int)) = Bool.false →
    (Value.bool Bool.false) = (Value.bool (polB pPage pCap pLimit pLow pHigh pWeightsN pWeightsg0 pRuleDown pRuleSleep)))))) ∧
   ((btw pCap (0 : Int) (100000 : Int)) = Bool.false →
   (Value.bool Bool.false) = (Value.bool (polB pPage pCap pLimit pLow pHigh pWeightsN pWeightsg0 pRuleDown pRuleSleep)))))))))))))))) := by kernel_rfl
theorem polI_any (pPage : Int) (pCap : Int) (pLimit : Int) (pLow : Int) (pHigh : Int) (pWeightsO : Option Addr) (pWeightsN pWeightsC : Nat) (pWeightsg0 : Nat → Int) (pRuleDown : Int) (pRuleSleep : Int) (w : World) (hrpWeights : Row.sat w ⟨false, pWeightsO, 0, 1, pWeightsN, 0, [fun i => .int (pWeightsg0 i)]⟩) (hpre : capC pWeightsN) : Calls Try.prog 42 #[.agg #[.int .i64 pPage, .int .i64 pCap, .int .i64 pLimit, .int .i64 pLow, .int .i64 pHigh, .slice pWeightsO pWeightsN pWeightsC, .int .i64 pRuleDown, .int .i64 pRuleSleep]] w fun e w' => e = .returned (.bool (polB pPage pCap pLimit pLow pHigh pWeightsN pWeightsg0 pRuleDown pRuleSleep)) ∧ Below w.heap.size w w' := by
  refine fnB (tb := [(77, sShNew), (60, sBtw), (78, sDrainOk), (79, sRuleOk)]) ⟨sShNew_I, sBtwI_ok, sDrainOk_I, sRuleOk_I, trivial⟩ Try.func42 ((polI_T pPage pCap pLimit pLow pHigh pWeightsO pWeightsN pWeightsC pWeightsg0 pRuleDown pRuleSleep).mpr ?_) (HS.rows (fun _ => False) [⟨false, pWeightsO, 0, 1, pWeightsN, 0, [fun i => .int (pWeightsg0 i)]⟩] (by simp; exact hrpWeights)) (fun v ch' w' hk hs => ⟨by rw [hk], hs.below⟩)
  clear hrpWeights
  repeat' (first
    | with_reducible exact rfl
    | exact True.intro
    | with_reducible assumption
    | refine And.intro ?_ ?_
    | apply Exists.intro
    | (intro h; exfalso; simp at h; done)
    | (intro h; exfalso; simp at h; omega)
    | intro _
    | omega
    | (simp; omega))
  all_goals first
    | (simp_all [polB]; done)
    | (simp_all [polB, btw]; omega)
    | (simp_all [polB, btw]; done)
theorem polS_T (pPage : Int) (pCap : Int) (pLimit : Int) (pLow : Int) (pHigh : Int) (pWeightsO : Option Addr) (pWeightsN pWeightsC : Nat) (pWeightsg0 : Nat → Int) (pRuleDown : Int) (pRuleSleep : Int) : (exFn Try.prog {tb := [(72, sShNew), (59, sBtw), (73, sDrainOk), (74, sRuleOk)]} 400 Try.f40 ([.a (.agg [.int pPage, .int pCap, .int pLimit, .int pLow, .int pHigh, .sl 0 pWeightsO pWeightsN pWeightsC, .int pRuleDown, .int pRuleSleep])]) ([.row ⟨false, pWeightsO, 0, 1, pWeightsN, 0, [fun i => .int (pWeightsg0 i)]⟩]) (fun v _ => v.den = .bool (polB pPage pCap pLimit pLow pHigh pWeightsN pWeightsg0 pRuleDown pRuleSleep))) = (
  (∀ b0 : Nat,
  (b0 = b0 ∧
  (Exists (fun (wg01 : (Nat →
  Int)) => ((pWeightsO = pWeightsO ∧
  (pWeightsN = pWeightsN ∧
  ([(fun (i2 : Nat) => (SC.int (pWeightsg0 i2)))] = [(fun (i3 : Nat) => (SC.int (wg01 i3)))] ∧
  (capC pWeightsN)))) ∧
  (∀ ro04 : (Option Addr),
  (∀ rc05 : Nat,
  (b0 = b0 ∧
  (((btw pPage (0 : Int) (1 : Int)) = Bool.true →
  (b0 = b0 ∧
   (((btw pCap (0 : Int) (100000 : Int)) = Bool.true →
   (b0 = b0 ∧
    (((btw pLimit (3 : Int) (1000 : Int)) = Bool.true →
    (b0 = b0 ∧
     (b0 = b0 ∧
     (((drainB pLow pHigh) = Bool.true →
     (((shB pWeightsN wg01 wg01) = Bool.true →
      (b0 = b0 ∧
       (((((pWeightsN : Nat) : Int) == (4 : Int)) = Bool.true →
       (b0 = b0 ∧
        (Value.bool (ruleB pRuleDown pRuleSleep)) = (Value.bool (polB pPage pCap pLimit pLow pHigh pWeightsN pWeightsg0 pRuleDown pRuleSleep)))) ∧
       ((((pWeightsN : Nat) : Int) == (4 : Int)) = Bool.false →
       (Value.bool Bool.false) = (Value.bool (polB pPage pCap pLimit pLow pHigh pWeightsN pWeightsg0 pRuleDown pRuleSleep)))))) ∧
      ((shB pWeightsN wg01 wg01) = Bool.false →
      (Value.bool Bool.false) = (Value.bool (polB pPage pCap pLimit pLow pHigh pWeightsN pWeightsg0 pRuleDown pRuleSleep))))) ∧
     ((drainB pLow pHigh) = Bool.false →
     (Value.bool Bool.false) = (Value.bool (polB pPage pCap pLimit pLow pHigh pWeightsN pWeightsg0 pRuleDown pRuleSleep))))))) ∧
    ((btw pLimit (3 : Int) (1000 : Int)) = Bool.false →
    (Value.bool Bool.false) = (Value.bool (polB pPage pCap pLimit pLow pHigh pWeightsN pWeightsg0 pRuleDown pRuleSleep)))))) ∧
   ((btw pCap (0 : Int) (100000 : Int)) = Bool.false →
   (Value.bool Bool.false) = (Value.bool (polB pPage pCap pLimit pLow pHigh pWeightsN pWeightsg0 pRuleDown pRuleSleep)))))) ∧
  ((btw pPage (0 : Int) (1 : Int)) = Bool.false →
  (Value.bool Bool.false) = (Value.bool (polB pPage pCap pLimit pLow pHigh pWeightsN pWeightsg0 pRuleDown pRuleSleep))))))))))))) := by kernel_rfl
theorem polS_any (pPage : Int) (pCap : Int) (pLimit : Int) (pLow : Int) (pHigh : Int) (pWeightsO : Option Addr) (pWeightsN pWeightsC : Nat) (pWeightsg0 : Nat → Int) (pRuleDown : Int) (pRuleSleep : Int) (w : World) (hrpWeights : Row.sat w ⟨false, pWeightsO, 0, 1, pWeightsN, 0, [fun i => .int (pWeightsg0 i)]⟩) (hpre : capC pWeightsN) : Calls Try.prog 40 #[.agg #[.int .i64 pPage, .int .i64 pCap, .int .i64 pLimit, .int .i64 pLow, .int .i64 pHigh, .slice pWeightsO pWeightsN pWeightsC, .int .i64 pRuleDown, .int .i64 pRuleSleep]] w fun e w' => e = .returned (.bool (polB pPage pCap pLimit pLow pHigh pWeightsN pWeightsg0 pRuleDown pRuleSleep)) ∧ Below w.heap.size w w' := by
  refine fnB (tb := [(72, sShNew), (59, sBtw), (73, sDrainOk), (74, sRuleOk)]) ⟨sShNew_S, sBtwS_ok, sDrainOk_S, sRuleOk_S, trivial⟩ Try.func40 ((polS_T pPage pCap pLimit pLow pHigh pWeightsO pWeightsN pWeightsC pWeightsg0 pRuleDown pRuleSleep).mpr ?_) (HS.rows (fun _ => False) [⟨false, pWeightsO, 0, 1, pWeightsN, 0, [fun i => .int (pWeightsg0 i)]⟩] (by simp; exact hrpWeights)) (fun v ch' w' hk hs => ⟨by rw [hk], hs.below⟩)
  clear hrpWeights
  repeat' (first
    | with_reducible exact rfl
    | exact True.intro
    | with_reducible assumption
    | refine And.intro ?_ ?_
    | apply Exists.intro
    | (intro h; exfalso; simp at h; done)
    | (intro h; exfalso; simp at h; omega)
    | intro _
    | omega
    | (simp; omega))
  all_goals first
    | (simp_all [polB]; done)
    | (simp_all [polB, btw]; omega)
    | (simp_all [polB, btw]; done)
def sPolOk : Sm := fun args ch kk =>
  match args with
  | [.a (.agg [c0, c1, c2, c3, c4, .sl i0 a0 n0 d0, c5, c6])] =>
    match ch[i0]?, ints [c0, c1, c2, c3, c4, c5, c6] with
    | some (.row r0), some [pPage, pCap, pLimit, pLow, pHigh, pRuleDown, pRuleSleep] => ∃ pWeightsg0 : Nat → Int, (a0 = r0.ao ∧ n0 = r0.n ∧ r0.fld = [fun i => .int (pWeightsg0 i)] ∧ capC n0) ∧ kk (.a (.c (.bool (polB pPage pCap pLimit pLow pHigh n0 pWeightsg0 pRuleDown pRuleSleep)))) ch []
    | _, _ => False
  | _ => False
theorem sPolOk_ok {f : FuncId} (hc : ∀ args w, (callFunc f args).run Try.prog w = .ok (.enter f args) w) (h : ∀ (pPage : Int) (pCap : Int) (pLimit : Int) (pLow : Int) (pHigh : Int) (pWeightsO : Option Addr) (pWeightsN pWeightsC : Nat) (pWeightsg0 : Nat → Int) (pRuleDown : Int) (pRuleSleep : Int) (w : World), Row.sat w ⟨false, pWeightsO, 0, 1, pWeightsN, 0, [fun i => .int (pWeightsg0 i)]⟩ → capC pWeightsN → Calls Try.prog f #[.agg #[.int .i64 pPage, .int .i64 pCap, .int .i64 pLimit, .int .i64 pLow, .int .i64 pHigh, .slice pWeightsO pWeightsN pWeightsC, .int .i64 pRuleDown, .int .i64 pRuleSleep]] w fun e w' => e = .returned (.bool (polB pPage pCap pLimit pLow pHigh pWeightsN pWeightsg0 pRuleDown pRuleSleep)) ∧ Below w.heap.size w w') : SmOK Try.prog f sPolOk := by
  refine smB hc fun args ch kk w X h0 hs => ?_
  unfold sPolOk at h0
  split at h0
  · rename_i c0 c1 c2 c3 c4 i0 a0 n0 d0 c5 c6
    split at h0
    · rename_i r0 pPage pCap pLimit pLow pHigh pRuleDown pRuleSleep hr0 hi
      obtain ⟨pWeightsg0, ⟨rfl, rfl, hf0, hpre⟩, h0⟩ := h0
      obtain ⟨ec0, hi⟩ := ints_cons hi
      obtain ⟨ec1, hi⟩ := ints_cons hi
      obtain ⟨ec2, hi⟩ := ints_cons hi
      obtain ⟨ec3, hi⟩ := ints_cons hi
      obtain ⟨ec4, hi⟩ := ints_cons hi
      obtain ⟨ec5, hi⟩ := ints_cons hi
      obtain ⟨ec6, hi⟩ := ints_cons hi
      refine ⟨_, h0, ?_⟩
      simp only [List.map_cons, List.map_nil, den_a, den_c, SA.den, den_sl, ec0, ec1, ec2, ec3, ec4, ec5, ec6]
      exact h pPage pCap pLimit pLow pHigh r0.ao r0.n d0 pWeightsg0 pRuleDown pRuleSleep w (Row.seenAs (hs.sat i0 _ hr0) hf0 rfl) hpre
    · exact h0.elim
  · exact h0.elim
theorem sPolOk_ok_polI : SmOK Try.prog 42 sPolOk := sPolOk_ok Try.call42 (fun pPage pCap pLimit pLow pHigh pWeightsO pWeightsN pWeightsC pWeightsg0 pRuleDown pRuleSleep w h0 hp => polI_any pPage pCap pLimit pLow pHigh pWeightsO pWeightsN pWeightsC pWeightsg0 pRuleDown pRuleSleep w h0 hp)
theorem sPolOk_ok_polS : SmOK Try.prog 40 sPolOk := sPolOk_ok Try.call40 (fun pPage pCap pLimit pLow pHigh pWeightsO pWeightsN pWeightsC pWeightsg0 pRuleDown pRuleSleep w h0 hp => polS_any pPage pCap pLimit pLow pHigh pWeightsO pWeightsN pWeightsC pWeightsg0 pRuleDown pRuleSleep w h0 hp)
end Go.Proofs.Ytlkklplnomecgaa

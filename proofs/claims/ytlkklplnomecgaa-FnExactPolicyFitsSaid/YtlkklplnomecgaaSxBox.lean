/-
  Policies and boxes copied; BoxStep.
-/
import Derived.Test.YtlkklplnomecgaaSxPol
namespace Go.Proofs.Ytlkklplnomecgaa
set_option linter.unusedVariables false
set_option linter.unusedSimpArgs false
open Go.RowKit
set_option maxRecDepth 100000
set_option maxHeartbeats 8000000

def selN (b : Bool) (x y : Nat) : Nat := if b = true then x else y
def selZ (b : Bool) (x y : Int) : Int := if b = true then x else y
def bothB (x y : Bool) : Bool := x && y
def lessB (x y : Bool) : Bool := x && !y
theorem copyPI_T (pPage : Int) (pCap : Int) (pLimit : Int) (pLow : Int) (pHigh : Int) (pWeightsO : Option Addr) (pWeightsN pWeightsC : Nat) (pWeightsg0 : Nat → Int) (pRuleDown : Int) (pRuleSleep : Int) : (exFn Try.prog {tb := []} 400 Try.f90 ([.a (.agg [.int pPage, .int pCap, .int pLimit, .int pLow, .int pHigh, .sl 0 pWeightsO pWeightsN pWeightsC, .int pRuleDown, .int pRuleSleep])]) ([.row ⟨false, pWeightsO, 0, 1, pWeightsN, 0, [fun i => .int (pWeightsg0 i)]⟩]) (fun v ch => ∃ (ro0 : Option Addr) (rc0 : Nat), OutR v ch (.agg #[.int .i64 (pPage), .int .i64 (pCap), .int .i64 (pLimit), .int .i64 (pLow), .int .i64 (pHigh), .slice ro0 (pWeightsN) rc0, .int .i64 (pRuleDown), .int .i64 (pRuleSleep)]) [.row ⟨true, ro0, 3, 1, pWeightsN, rc0, [fun i => .int (pWeightsg0 i)]⟩])) = (
  (∀ b0 : Nat,
  (∀ b1 : Nat,
  (∀ b2 : Nat,
  (b0 = b0 ∧
  ((b2 = b2 ∧
  ((pWeightsO = pWeightsO ∧
  pWeightsN = pWeightsN) ∧
  ((∀ i3 : Nat,
  Bool.true = Bool.true) ∧
  (apC 0 pWeightsN 8)))) ∧
  (∀ ao4 : (Option Addr),
  (∀ cap5 : Nat,
  (b0 = b0 ∧
  (b0 = b0 ∧
  (b1 = b1 ∧
  (b1 = b1 ∧
  (Exists (fun (ro06 : (Option Addr)) => (Exists (fun (rc07 : Nat) => ((Value.agg (List.toArray [(Value.int IntKind.i64 pPage), (Value.int IntKind.i64 pCap), (Value.int IntKind.i64 pLimit), (Value.int IntKind.i64 pLow), (Value.int IntKind.i64 pHigh), (Value.slice ao4 pWeightsN cap5), (Value.int IntKind.i64 pRuleDown), (Value.int IntKind.i64 pRuleSleep)])) = (Value.agg (List.toArray [(Value.int IntKind.i64 pPage), (Value.int IntKind.i64 pCap), (Value.int IntKind.i64 pLimit), (Value.int IntKind.i64 pLow), (Value.int IntKind.i64 pHigh), (Value.slice ro06 pWeightsN rc07), (Value.int IntKind.i64 pRuleDown), (Value.int IntKind.i64 pRuleSleep)])) ∧
  (((Bool.true = Bool.true ∧
  (ao4 = ro06 ∧
  (3 = 3 ∧
  (1 = 1 ∧
  (pWeightsN = pWeightsN ∧
  (cap5 = rc07 ∧
  ((∀ i8 : Nat,
  (i8 < pWeightsN →
  (Value.int IntKind.i64 (pWeightsg0 i8)) = (Value.int IntKind.i64 (pWeightsg0 i8)))) ∧
  True))))))) ∧
  True) ∧
  Bool.true = Bool.true)))))))))))))))))) := by kernel_rfl
theorem copyPI_any (pPage : Int) (pCap : Int) (pLimit : Int) (pLow : Int) (pHigh : Int) (pWeightsO : Option Addr) (pWeightsN pWeightsC : Nat) (pWeightsg0 : Nat → Int) (pRuleDown : Int) (pRuleSleep : Int) (w : World) (hrpWeights : Row.sat w ⟨false, pWeightsO, 0, 1, pWeightsN, 0, [fun i => .int (pWeightsg0 i)]⟩) (hpre : capC pWeightsN) : Calls Try.prog 90 #[.agg #[.int .i64 pPage, .int .i64 pCap, .int .i64 pLimit, .int .i64 pLow, .int .i64 pHigh, .slice pWeightsO pWeightsN pWeightsC, .int .i64 pRuleDown, .int .i64 pRuleSleep]] w fun e w' => ∃ (ro0 : Option Addr) (rc0 : Nat), e = .returned (.agg #[.int .i64 (pPage), .int .i64 (pCap), .int .i64 (pLimit), .int .i64 (pLow), .int .i64 (pHigh), .slice ro0 (pWeightsN) rc0, .int .i64 (pRuleDown), .int .i64 (pRuleSleep)]) ∧ HS ⟨w, fun _ => False⟩ [.row ⟨true, ro0, 3, 1, pWeightsN, rc0, [fun i => .int (pWeightsg0 i)]⟩] w' := by
  refine fnB (tb := []) trivial Try.func90 ((copyPI_T pPage pCap pLimit pLow pHigh pWeightsO pWeightsN pWeightsC pWeightsg0 pRuleDown pRuleSleep).mpr ?_) (HS.rows (fun _ => False) [⟨false, pWeightsO, 0, 1, pWeightsN, 0, [fun i => .int (pWeightsg0 i)]⟩] (by simp; exact hrpWeights)) (fun v ch' w' ⟨ro0, rc0, hk⟩ hs => ⟨ro0, rc0, by rw [hk.1], hk.hs hs⟩)
  clear hrpWeights
  repeat' (first
    | exact rfl
    | exact True.intro
    | refine And.intro ?_ ?_
    | apply Exists.intro
    | assumption
    | omega
    | intro _)
theorem copyPS_T (pPage : Int) (pCap : Int) (pLimit : Int) (pLow : Int) (pHigh : Int) (pWeightsO : Option Addr) (pWeightsN pWeightsC : Nat) (pWeightsg0 : Nat → Int) (pRuleDown : Int) (pRuleSleep : Int) : (exFn Try.prog {tb := []} 400 Try.f88 ([.a (.agg [.int pPage, .int pCap, .int pLimit, .int pLow, .int pHigh, .sl 0 pWeightsO pWeightsN pWeightsC, .int pRuleDown, .int pRuleSleep])]) ([.row ⟨false, pWeightsO, 0, 1, pWeightsN, 0, [fun i => .int (pWeightsg0 i)]⟩]) (fun v ch => ∃ (ro0 : Option Addr) (rc0 : Nat), OutR v ch (.agg #[.int .i64 (pPage), .int .i64 (pCap), .int .i64 (pLimit), .int .i64 (pLow), .int .i64 (pHigh), .slice ro0 (pWeightsN) rc0, .int .i64 (pRuleDown), .int .i64 (pRuleSleep)]) [.row ⟨true, ro0, 3, 1, pWeightsN, rc0, [fun i => .int (pWeightsg0 i)]⟩])) = (
  (∀ b0 : Nat,
  (∀ b1 : Nat,
  (∀ b2 : Nat,
  (b0 = b0 ∧
  ((b2 = b2 ∧
  ((pWeightsO = pWeightsO ∧
  pWeightsN = pWeightsN) ∧
  ((∀ i3 : Nat,
  Bool.true = Bool.true) ∧
  (apC 0 pWeightsN 8)))) ∧
  (∀ ao4 : (Option Addr),
  (∀ cap5 : Nat,
  (b0 = b0 ∧
  (b0 = b0 ∧
  (b1 = b1 ∧
  (b1 = b1 ∧
  (Exists (fun (ro06 : (Option Addr)) => (Exists (fun (rc07 : Nat) => ((Value.agg (List.toArray [(Value.int IntKind.i64 pPage), (Value.int IntKind.i64 pCap), (Value.int IntKind.i64 pLimit), (Value.int IntKind.i64 pLow), (Value.int IntKind.i64 pHigh), (Value.slice ao4 pWeightsN cap5), (Value.int IntKind.i64 pRuleDown), (Value.int IntKind.i64 pRuleSleep)])) = (Value.agg (List.toArray [(Value.int IntKind.i64 pPage), (Value.int IntKind.i64 pCap), (Value.int IntKind.i64 pLimit), (Value.int IntKind.i64 pLow), (Value.int IntKind.i64 pHigh), (Value.slice ro06 pWeightsN rc07), (Value.int IntKind.i64 pRuleDown), (Value.int IntKind.i64 pRuleSleep)])) ∧
  (((Bool.true = Bool.true ∧
  (ao4 = ro06 ∧
  (3 = 3 ∧
  (1 = 1 ∧
  (pWeightsN = pWeightsN ∧
  (cap5 = rc07 ∧
  ((∀ i8 : Nat,
  (i8 < pWeightsN →
  (Value.int IntKind.i64 (pWeightsg0 i8)) = (Value.int IntKind.i64 (pWeightsg0 i8)))) ∧
  True))))))) ∧
  True) ∧
  Bool.true = Bool.true)))))))))))))))))) := by kernel_rfl
theorem copyPS_any (pPage : Int) (pCap : Int) (pLimit : Int) (pLow : Int) (pHigh : Int) (pWeightsO : Option Addr) (pWeightsN pWeightsC : Nat) (pWeightsg0 : Nat → Int) (pRuleDown : Int) (pRuleSleep : Int) (w : World) (hrpWeights : Row.sat w ⟨false, pWeightsO, 0, 1, pWeightsN, 0, [fun i => .int (pWeightsg0 i)]⟩) (hpre : capC pWeightsN) : Calls Try.prog 88 #[.agg #[.int .i64 pPage, .int .i64 pCap, .int .i64 pLimit, .int .i64 pLow, .int .i64 pHigh, .slice pWeightsO pWeightsN pWeightsC, .int .i64 pRuleDown, .int .i64 pRuleSleep]] w fun e w' => ∃ (ro0 : Option Addr) (rc0 : Nat), e = .returned (.agg #[.int .i64 (pPage), .int .i64 (pCap), .int .i64 (pLimit), .int .i64 (pLow), .int .i64 (pHigh), .slice ro0 (pWeightsN) rc0, .int .i64 (pRuleDown), .int .i64 (pRuleSleep)]) ∧ HS ⟨w, fun _ => False⟩ [.row ⟨true, ro0, 3, 1, pWeightsN, rc0, [fun i => .int (pWeightsg0 i)]⟩] w' := by
  refine fnB (tb := []) trivial Try.func88 ((copyPS_T pPage pCap pLimit pLow pHigh pWeightsO pWeightsN pWeightsC pWeightsg0 pRuleDown pRuleSleep).mpr ?_) (HS.rows (fun _ => False) [⟨false, pWeightsO, 0, 1, pWeightsN, 0, [fun i => .int (pWeightsg0 i)]⟩] (by simp; exact hrpWeights)) (fun v ch' w' ⟨ro0, rc0, hk⟩ hs => ⟨ro0, rc0, by rw [hk.1], hk.hs hs⟩)
  clear hrpWeights
  repeat' (first
    | exact rfl
    | exact True.intro
    | refine And.intro ?_ ?_
    | apply Exists.intro
    | assumption
    | omega
    | intro _)
def sCopyP : Sm := fun args ch kk =>
  match args with
  | [.a (.agg [c0, c1, c2, c3, c4, .sl i0 a0 n0 d0, c5, c6])] =>
    match ch[i0]?, ints [c0, c1, c2, c3, c4, c5, c6] with
    | some (.row r0), some [pPage, pCap, pLimit, pLow, pHigh, pRuleDown, pRuleSleep] => ∃ pWeightsg0 : Nat → Int, (a0 = r0.ao ∧ n0 = r0.n ∧ r0.fld = [fun i => .int (pWeightsg0 i)] ∧ capC n0) ∧ ∀ (ro0 : Option Addr) (rc0 : Nat), kk (.a (.agg [.int (pPage), .int (pCap), .int (pLimit), .int (pLow), .int (pHigh), .sl (ch.length) ro0 (n0) rc0, .int (pRuleDown), .int (pRuleSleep)])) (ch ++ [.row ⟨true, ro0, 3, 1, n0, rc0, [fun i => .int (pWeightsg0 i)]⟩]) []
    | _, _ => False
  | _ => False
theorem sCopyP_ok {f : FuncId} (hc : ∀ args w, (callFunc f args).run Try.prog w = .ok (.enter f args) w) (h : ∀ (pPage : Int) (pCap : Int) (pLimit : Int) (pLow : Int) (pHigh : Int) (pWeightsO : Option Addr) (pWeightsN pWeightsC : Nat) (pWeightsg0 : Nat → Int) (pRuleDown : Int) (pRuleSleep : Int) (w : World), Row.sat w ⟨false, pWeightsO, 0, 1, pWeightsN, 0, [fun i => .int (pWeightsg0 i)]⟩ → capC pWeightsN → Calls Try.prog f #[.agg #[.int .i64 pPage, .int .i64 pCap, .int .i64 pLimit, .int .i64 pLow, .int .i64 pHigh, .slice pWeightsO pWeightsN pWeightsC, .int .i64 pRuleDown, .int .i64 pRuleSleep]] w fun e w' => ∃ (ro0 : Option Addr) (rc0 : Nat), e = .returned (.agg #[.int .i64 (pPage), .int .i64 (pCap), .int .i64 (pLimit), .int .i64 (pLow), .int .i64 (pHigh), .slice ro0 (pWeightsN) rc0, .int .i64 (pRuleDown), .int .i64 (pRuleSleep)]) ∧ HS ⟨w, fun _ => False⟩ [.row ⟨true, ro0, 3, 1, pWeightsN, rc0, [fun i => .int (pWeightsg0 i)]⟩] w') : SmOK Try.prog f sCopyP := by
  refine smN hc fun args ch kk w X h0 hs => ?_
  unfold sCopyP at h0
  split at h0
  · rename_i c0 c1 c2 c3 c4 i0 a0 n0 d0 c5 c6
    split at h0
    · rename_i r0 pPage pCap pLimit pLow pHigh pRuleDown pRuleSleep hr0 hi
      obtain ⟨pWeightsg0, ⟨rfl, rfl, hf0, hpre⟩, h0⟩ := h0
      obtain ⟨ec0, hi⟩ := ints_cons hi
      obtain ⟨ec1, hi⟩ := ints_cons hi
      obtain ⟨ec2, hi⟩ := ints_cons hi
      obtain ⟨ec3, hi⟩ := ints_cons hi
      obtain ⟨ec4, hi⟩ := ints_cons hi
      obtain ⟨ec5, hi⟩ := ints_cons hi
      obtain ⟨ec6, hi⟩ := ints_cons hi
      refine Calls.mono (?_ : Calls Try.prog f _ w (fun e w' => ∃ (ro0 : Option Addr) (rc0 : Nat), e = .returned (.agg #[.int .i64 (pPage), .int .i64 (pCap), .int .i64 (pLimit), .int .i64 (pLow), .int .i64 (pHigh), .slice ro0 (r0.n) rc0, .int .i64 (pRuleDown), .int .i64 (pRuleSleep)]) ∧ HS ⟨w, fun _ => False⟩ [.row ⟨true, ro0, 3, 1, r0.n, rc0, [fun i => .int (pWeightsg0 i)]⟩] w')) (fun e w' ⟨ro0, rc0, he, hs'⟩ => ⟨_, _, ?_, hs', rfl, h0 ro0 rc0⟩)
      · simp only [List.map_cons, List.map_nil, den_a, den_c, SA.den, den_sl, ec0, ec1, ec2, ec3, ec4, ec5, ec6]
        exact h pPage pCap pLimit pLow pHigh r0.ao r0.n d0 pWeightsg0 pRuleDown pRuleSleep w (Row.seenAs (hs.sat i0 _ hr0) hf0 rfl) hpre
      · rw [he]
        rfl
    · exact h0.elim
  · exact h0.elim
theorem sCopyP_ok_copyPI : SmOK Try.prog 90 sCopyP := sCopyP_ok Try.call90 (fun pPage pCap pLimit pLow pHigh pWeightsO pWeightsN pWeightsC pWeightsg0 pRuleDown pRuleSleep w h0 hp => copyPI_any pPage pCap pLimit pLow pHigh pWeightsO pWeightsN pWeightsC pWeightsg0 pRuleDown pRuleSleep w h0 hp)
theorem sCopyP_ok_copyPS : SmOK Try.prog 88 sCopyP := sCopyP_ok Try.call88 (fun pPage pCap pLimit pLow pHigh pWeightsO pWeightsN pWeightsC pWeightsg0 pRuleDown pRuleSleep w h0 hp => copyPS_any pPage pCap pLimit pLow pHigh pWeightsO pWeightsN pWeightsC pWeightsg0 pRuleDown pRuleSleep w h0 hp)
theorem copyBI_T (bActivePage : Int) (bActiveCap : Int) (bActiveLimit : Int) (bActiveLow : Int) (bActiveHigh : Int) (bActiveWeightsO : Option Addr) (bActiveWeightsN bActiveWeightsC : Nat) (bActiveWeightsg0 : Nat → Int) (bActiveRuleDown : Int) (bActiveRuleSleep : Int) (bNextPage : Int) (bNextCap : Int) (bNextLimit : Int) (bNextLow : Int) (bNextHigh : Int) (bNextWeightsO : Option Addr) (bNextWeightsN bNextWeightsC : Nat) (bNextWeightsg0 : Nat → Int) (bNextRuleDown : Int) (bNextRuleSleep : Int) (bWaits : Bool) : (exFn Try.prog {tb := [(90, sCopyP)]} 400 Try.f89 ([.a (.agg [.int bActivePage, .int bActiveCap, .int bActiveLimit, .int bActiveLow, .int bActiveHigh, .sl 0 bActiveWeightsO bActiveWeightsN bActiveWeightsC, .int bActiveRuleDown, .int bActiveRuleSleep, .int bNextPage, .int bNextCap, .int bNextLimit, .int bNextLow, .int bNextHigh, .sl 1 bNextWeightsO bNextWeightsN bNextWeightsC, .int bNextRuleDown, .int bNextRuleSleep, .bool bWaits])]) ([.row ⟨false, bActiveWeightsO, 0, 1, bActiveWeightsN, 0, [fun i => .int (bActiveWeightsg0 i)]⟩, .row ⟨false, bNextWeightsO, 0, 1, bNextWeightsN, 0, [fun i => .int (bNextWeightsg0 i)]⟩]) (fun v ch => ∃ (ro0 : Option Addr) (rc0 : Nat) (ro1 : Option Addr) (rc1 : Nat), OutR v ch (.agg #[.int .i64 (bActivePage), .int .i64 (bActiveCap), .int .i64 (bActiveLimit), .int .i64 (bActiveLow), .int .i64 (bActiveHigh), .slice ro0 (bActiveWeightsN) rc0, .int .i64 (bActiveRuleDown), .int .i64 (bActiveRuleSleep), .int .i64 (bNextPage), .int .i64 (bNextCap), .int .i64 (bNextLimit), .int .i64 (bNextLow), .int .i64 (bNextHigh), .slice ro1 (bNextWeightsN) rc1, .int .i64 (bNextRuleDown), .int .i64 (bNextRuleSleep), .bool (bWaits)]) [.row ⟨true, ro0, 3, 1, bActiveWeightsN, rc0, [fun i => .int (bActiveWeightsg0 i)]⟩, .row ⟨true, ro1, 3, 1, bNextWeightsN, rc1, [fun i => .int (bNextWeightsg0 i)]⟩])) = (
  (∀ b0 : Nat,
  (∀ b1 : Nat,
  (b0 = b0 ∧
  (b0 = b0 ∧
  (b0 = b0 ∧
  (Exists (fun (pWeightsg02 : (Nat →
  Int)) => ((bActiveWeightsO = bActiveWeightsO ∧
  (bActiveWeightsN = bActiveWeightsN ∧
  ([(fun (i3 : Nat) => (SC.int (bActiveWeightsg0 i3)))] = [(fun (i4 : Nat) => (SC.int (pWeightsg02 i4)))] ∧
  (capC bActiveWeightsN)))) ∧
  (∀ ro05 : (Option Addr),
  (∀ rc06 : Nat,
  (True ∧
  (Exists (fun (pWeightsg07 : (Nat →
  Int)) => ((bNextWeightsO = bNextWeightsO ∧
  (bNextWeightsN = bNextWeightsN ∧
  ([(fun (i8 : Nat) => (SC.int (bNextWeightsg0 i8)))] = [(fun (i9 : Nat) => (SC.int (pWeightsg07 i9)))] ∧
  (capC bNextWeightsN)))) ∧
  (∀ ro010 : (Option Addr),
  (∀ rc011 : Nat,
  (True ∧
  (b1 = b1 ∧
  (True ∧
  (b1 = b1 ∧
  (Exists (fun (ro012 : (Option Addr)) => (Exists (fun (rc013 : Nat) => (Exists (fun (ro114 : (Option Addr)) => (Exists (fun (rc115 : Nat) => ((Value.agg (List.toArray [(Value.int IntKind.i64 bActivePage), (Value.int IntKind.i64 bActiveCap), (Value.int IntKind.i64 bActiveLimit), (Value.int IntKind.i64 bActiveLow), (Value.int IntKind.i64 bActiveHigh), (Value.slice ro05 bActiveWeightsN rc06), (Value.int IntKind.i64 bActiveRuleDown), (Value.int IntKind.i64 bActiveRuleSleep), (Value.int IntKind.i64 bNextPage), (Value.int IntKind.i64 bNextCap), (Value.int IntKind.i64 bNextLimit), (Value.int IntKind.i64 bNextLow), (Value.int IntKind.i64 bNextHigh), (Value.slice ro010 bNextWeightsN rc011), (Value.int IntKind.i64 bNextRuleDown), (Value.int IntKind.i64 bNextRuleSleep), (Value.bool bWaits)])) = (Value.agg (List.toArray [(Value.int IntKind.i64 bActivePage), (Value.int IntKind.i64 bActiveCap), (Value.int IntKind.i64 bActiveLimit), (Value.int IntKind.i64 bActiveLow), (Value.int IntKind.i64 bActiveHigh), (Value.slice ro012 bActiveWeightsN rc013), (Value.int IntKind.i64 bActiveRuleDown), (Value.int IntKind.i64 bActiveRuleSleep), (Value.int IntKind.i64 bNextPage), (Value.int IntKind.i64 bNextCap), (Value.int IntKind.i64 bNextLimit), (Value.int IntKind.i64 bNextLow), (Value.int IntKind.i64 bNextHigh), (Value.slice ro114 bNextWeightsN rc115), (Value.int IntKind.i64 bNextRuleDown), (Value.int IntKind.i64 bNextRuleSleep), (Value.bool bWaits)])) ∧
  (((Bool.true = Bool.true ∧
  (ro05 = ro012 ∧
  (3 = 3 ∧
  (1 = 1 ∧
  (bActiveWeightsN = bActiveWeightsN ∧
  (rc06 = rc013 ∧
  ((∀ i16 : Nat,
  (i16 < bActiveWeightsN →
  (Value.int IntKind.i64 (pWeightsg02 i16)) = (Value.int IntKind.i64 (bActiveWeightsg0 i16)))) ∧
  True))))))) ∧
  ((Bool.true = Bool.true ∧
  (ro010 = ro114 ∧
  (3 = 3 ∧
  (1 = 1 ∧
  (bNextWeightsN = bNextWeightsN ∧
  (rc011 = rc115 ∧
  ((∀ i17 : Nat,
  (i17 < bNextWeightsN →
  (Value.int IntKind.i64 (pWeightsg07 i17)) = (Value.int IntKind.i64 (bNextWeightsg0 i17)))) ∧
  True))))))) ∧
  True)) ∧
  Bool.true = Bool.true))))))))))))))))))))))))))))))) := by kernel_rfl
theorem copyBI_any (bActivePage : Int) (bActiveCap : Int) (bActiveLimit : Int) (bActiveLow : Int) (bActiveHigh : Int) (bActiveWeightsO : Option Addr) (bActiveWeightsN bActiveWeightsC : Nat) (bActiveWeightsg0 : Nat → Int) (bActiveRuleDown : Int) (bActiveRuleSleep : Int) (bNextPage : Int) (bNextCap : Int) (bNextLimit : Int) (bNextLow : Int) (bNextHigh : Int) (bNextWeightsO : Option Addr) (bNextWeightsN bNextWeightsC : Nat) (bNextWeightsg0 : Nat → Int) (bNextRuleDown : Int) (bNextRuleSleep : Int) (bWaits : Bool) (w : World) (hrbActiveWeights : Row.sat w ⟨false, bActiveWeightsO, 0, 1, bActiveWeightsN, 0, [fun i => .int (bActiveWeightsg0 i)]⟩) (hrbNextWeights : Row.sat w ⟨false, bNextWeightsO, 0, 1, bNextWeightsN, 0, [fun i => .int (bNextWeightsg0 i)]⟩) (hpre : capC bActiveWeightsN ∧ capC bNextWeightsN) : Calls Try.prog 89 #[.agg #[.int .i64 bActivePage, .int .i64 bActiveCap, .int .i64 bActiveLimit, .int .i64 bActiveLow, .int .i64 bActiveHigh, .slice bActiveWeightsO bActiveWeightsN bActiveWeightsC, .int .i64 bActiveRuleDown, .int .i64 bActiveRuleSleep, .int .i64 bNextPage, .int .i64 bNextCap, .int .i64 bNextLimit, .int .i64 bNextLow, .int .i64 bNextHigh, .slice bNextWeightsO bNextWeightsN bNextWeightsC, .int .i64 bNextRuleDown, .int .i64 bNextRuleSleep, .bool bWaits]] w fun e w' => ∃ (ro0 : Option Addr) (rc0 : Nat) (ro1 : Option Addr) (rc1 : Nat), e = .returned (.agg #[.int .i64 (bActivePage), .int .i64 (bActiveCap), .int .i64 (bActiveLimit), .int .i64 (bActiveLow), .int .i64 (bActiveHigh), .slice ro0 (bActiveWeightsN) rc0, .int .i64 (bActiveRuleDown), .int .i64 (bActiveRuleSleep), .int .i64 (bNextPage), .int .i64 (bNextCap), .int .i64 (bNextLimit), .int .i64 (bNextLow), .int .i64 (bNextHigh), .slice ro1 (bNextWeightsN) rc1, .int .i64 (bNextRuleDown), .int .i64 (bNextRuleSleep), .bool (bWaits)]) ∧ HS ⟨w, fun _ => False⟩ [.row ⟨true, ro0, 3, 1, bActiveWeightsN, rc0, [fun i => .int (bActiveWeightsg0 i)]⟩, .row ⟨true, ro1, 3, 1, bNextWeightsN, rc1, [fun i => .int (bNextWeightsg0 i)]⟩] w' := by
  refine fnB (tb := [(90, sCopyP)]) ⟨sCopyP_ok_copyPI, trivial⟩ Try.func89 ((copyBI_T bActivePage bActiveCap bActiveLimit bActiveLow bActiveHigh bActiveWeightsO bActiveWeightsN bActiveWeightsC bActiveWeightsg0 bActiveRuleDown bActiveRuleSleep bNextPage bNextCap bNextLimit bNextLow bNextHigh bNextWeightsO bNextWeightsN bNextWeightsC bNextWeightsg0 bNextRuleDown bNextRuleSleep bWaits).mpr ?_) (HS.rows (fun _ => False) [⟨false, bActiveWeightsO, 0, 1, bActiveWeightsN, 0, [fun i => .int (bActiveWeightsg0 i)]⟩, ⟨false, bNextWeightsO, 0, 1, bNextWeightsN, 0, [fun i => .int (bNextWeightsg0 i)]⟩] (by simp; exact ⟨hrbActiveWeights, hrbNextWeights⟩)) (fun v ch' w' ⟨ro0, rc0, ro1, rc1, hk⟩ hs => ⟨ro0, rc0, ro1, rc1, by rw [hk.1], hk.hs hs⟩)
  clear hrbActiveWeights hrbNextWeights
  repeat' (first
    | exact rfl
    | exact True.intro
    | refine And.intro ?_ ?_
    | apply Exists.intro
    | assumption
    | omega
    | intro _)
theorem copyBS_T (bActivePage : Int) (bActiveCap : Int) (bActiveLimit : Int) (bActiveLow : Int) (bActiveHigh : Int) (bActiveWeightsO : Option Addr) (bActiveWeightsN bActiveWeightsC : Nat) (bActiveWeightsg0 : Nat → Int) (bActiveRuleDown : Int) (bActiveRuleSleep : Int) (bNextPage : Int) (bNextCap : Int) (bNextLimit : Int) (bNextLow : Int) (bNextHigh : Int) (bNextWeightsO : Option Addr) (bNextWeightsN bNextWeightsC : Nat) (bNextWeightsg0 : Nat → Int) (bNextRuleDown : Int) (bNextRuleSleep : Int) (bWaits : Bool) : (exFn Try.prog {tb := [(88, sCopyP)]} 400 Try.f87 ([.a (.agg [.int bActivePage, .int bActiveCap, .int bActiveLimit, .int bActiveLow, .int bActiveHigh, .sl 0 bActiveWeightsO bActiveWeightsN bActiveWeightsC, .int bActiveRuleDown, .int bActiveRuleSleep, .int bNextPage, .int bNextCap, .int bNextLimit, .int bNextLow, .int bNextHigh, .sl 1 bNextWeightsO bNextWeightsN bNextWeightsC, .int bNextRuleDown, .int bNextRuleSleep, .bool bWaits])]) ([.row ⟨false, bActiveWeightsO, 0, 1, bActiveWeightsN, 0, [fun i => .int (bActiveWeightsg0 i)]⟩, .row ⟨false, bNextWeightsO, 0, 1, bNextWeightsN, 0, [fun i => .int (bNextWeightsg0 i)]⟩]) (fun v ch => ∃ (ro0 : Option Addr) (rc0 : Nat) (ro1 : Option Addr) (rc1 : Nat), OutR v ch (.agg #[.int .i64 (bActivePage), .int .i64 (bActiveCap), .int .i64 (bActiveLimit), .int .i64 (bActiveLow), .int .i64 (bActiveHigh), .slice ro0 (bActiveWeightsN) rc0, .int .i64 (bActiveRuleDown), .int .i64 (bActiveRuleSleep), .int .i64 (bNextPage), .int .i64 (bNextCap), .int .i64 (bNextLimit), .int .i64 (bNextLow), .int .i64 (bNextHigh), .slice ro1 (bNextWeightsN) rc1, .int .i64 (bNextRuleDown), .int .i64 (bNextRuleSleep), .bool (bWaits)]) [.row ⟨true, ro0, 3, 1, bActiveWeightsN, rc0, [fun i => .int (bActiveWeightsg0 i)]⟩, .row ⟨true, ro1, 3, 1, bNextWeightsN, rc1, [fun i => .int (bNextWeightsg0 i)]⟩])) = (
  (∀ b0 : Nat,
  (∀ b1 : Nat,
  (b0 = b0 ∧
  (b0 = b0 ∧
  (b0 = b0 ∧
  (Exists (fun (pWeightsg02 : (Nat →
  Int)) => ((bActiveWeightsO = bActiveWeightsO ∧
  (bActiveWeightsN = bActiveWeightsN ∧
  ([(fun (i3 : Nat) => (SC.int (bActiveWeightsg0 i3)))] = [(fun (i4 : Nat) => (SC.int (pWeightsg02 i4)))] ∧
  (capC bActiveWeightsN)))) ∧
  (∀ ro05 : (Option Addr),
  (∀ rc06 : Nat,
  (True ∧
  (Exists (fun (pWeightsg07 : (Nat →
  Int)) => ((bNextWeightsO = bNextWeightsO ∧
  (bNextWeightsN = bNextWeightsN ∧
  ([(fun (i8 : Nat) => (SC.int (bNextWeightsg0 i8)))] = [(fun (i9 : Nat) => (SC.int (pWeightsg07 i9)))] ∧
  (capC bNextWeightsN)))) ∧
  (∀ ro010 : (Option Addr),
  (∀ rc011 : Nat,
  (True ∧
  (b1 = b1 ∧
  (True ∧
  (b1 = b1 ∧
  (Exists (fun (ro012 : (Option Addr)) => (Exists (fun (rc013 : Nat) => (Exists (fun (ro114 : (Option Addr)) => (Exists (fun (rc115 : Nat) => ((Value.agg (List.toArray [(Value.int IntKind.i64 bActivePage), (Value.int IntKind.i64 bActiveCap), (Value.int IntKind.i64 bActiveLimit), (Value.int IntKind.i64 bActiveLow), (Value.int IntKind.i64 bActiveHigh), (Value.slice ro05 bActiveWeightsN rc06), (Value.int IntKind.i64 bActiveRuleDown), (Value.int IntKind.i64 bActiveRuleSleep), (Value.int IntKind.i64 bNextPage), (Value.int IntKind.i64 bNextCap), (Value.int IntKind.i64 bNextLimit), (Value.int IntKind.i64 bNextLow), (Value.int IntKind.i64 bNextHigh), (Value.slice ro010 bNextWeightsN rc011), (Value.int IntKind.i64 bNextRuleDown), (Value.int IntKind.i64 bNextRuleSleep), (Value.bool bWaits)])) = (Value.agg (List.toArray [(Value.int IntKind.i64 bActivePage), (Value.int IntKind.i64 bActiveCap), (Value.int IntKind.i64 bActiveLimit), (Value.int IntKind.i64 bActiveLow), (Value.int IntKind.i64 bActiveHigh), (Value.slice ro012 bActiveWeightsN rc013), (Value.int IntKind.i64 bActiveRuleDown), (Value.int IntKind.i64 bActiveRuleSleep), (Value.int IntKind.i64 bNextPage), (Value.int IntKind.i64 bNextCap), (Value.int IntKind.i64 bNextLimit), (Value.int IntKind.i64 bNextLow), (Value.int IntKind.i64 bNextHigh), (Value.slice ro114 bNextWeightsN rc115), (Value.int IntKind.i64 bNextRuleDown), (Value.int IntKind.i64 bNextRuleSleep), (Value.bool bWaits)])) ∧
  (((Bool.true = Bool.true ∧
  (ro05 = ro012 ∧
  (3 = 3 ∧
  (1 = 1 ∧
  (bActiveWeightsN = bActiveWeightsN ∧
  (rc06 = rc013 ∧
  ((∀ i16 : Nat,
  (i16 < bActiveWeightsN →
  (Value.int IntKind.i64 (pWeightsg02 i16)) = (Value.int IntKind.i64 (bActiveWeightsg0 i16)))) ∧
  True))))))) ∧
  ((Bool.true = Bool.true ∧
  (ro010 = ro114 ∧
  (3 = 3 ∧
  (1 = 1 ∧
  (bNextWeightsN = bNextWeightsN ∧
  (rc011 = rc115 ∧
  ((∀ i17 : Nat,
  (i17 < bNextWeightsN →
  (Value.int IntKind.i64 (pWeightsg07 i17)) = (Value.int IntKind.i64 (bNextWeightsg0 i17)))) ∧
  True))))))) ∧
  True)) ∧
  Bool.true = Bool.true))))))))))))))))))))))))))))))) := by kernel_rfl
theorem copyBS_any (bActivePage : Int) (bActiveCap : Int) (bActiveLimit : Int) (bActiveLow : Int) (bActiveHigh : Int) (bActiveWeightsO : Option Addr) (bActiveWeightsN bActiveWeightsC : Nat) (bActiveWeightsg0 : Nat → Int) (bActiveRuleDown : Int) (bActiveRuleSleep : Int) (bNextPage : Int) (bNextCap : Int) (bNextLimit : Int) (bNextLow : Int) (bNextHigh : Int) (bNextWeightsO : Option Addr) (bNextWeightsN bNextWeightsC : Nat) (bNextWeightsg0 : Nat → Int) (bNextRuleDown : Int) (bNextRuleSleep : Int) (bWaits : Bool) (w : World) (hrbActiveWeights : Row.sat w ⟨false, bActiveWeightsO, 0, 1, bActiveWeightsN, 0, [fun i => .int (bActiveWeightsg0 i)]⟩) (hrbNextWeights : Row.sat w ⟨false, bNextWeightsO, 0, 1, bNextWeightsN, 0, [fun i => .int (bNextWeightsg0 i)]⟩) (hpre : capC bActiveWeightsN ∧ capC bNextWeightsN) : Calls Try.prog 87 #[.agg #[.int .i64 bActivePage, .int .i64 bActiveCap, .int .i64 bActiveLimit, .int .i64 bActiveLow, .int .i64 bActiveHigh, .slice bActiveWeightsO bActiveWeightsN bActiveWeightsC, .int .i64 bActiveRuleDown, .int .i64 bActiveRuleSleep, .int .i64 bNextPage, .int .i64 bNextCap, .int .i64 bNextLimit, .int .i64 bNextLow, .int .i64 bNextHigh, .slice bNextWeightsO bNextWeightsN bNextWeightsC, .int .i64 bNextRuleDown, .int .i64 bNextRuleSleep, .bool bWaits]] w fun e w' => ∃ (ro0 : Option Addr) (rc0 : Nat) (ro1 : Option Addr) (rc1 : Nat), e = .returned (.agg #[.int .i64 (bActivePage), .int .i64 (bActiveCap), .int .i64 (bActiveLimit), .int .i64 (bActiveLow), .int .i64 (bActiveHigh), .slice ro0 (bActiveWeightsN) rc0, .int .i64 (bActiveRuleDown), .int .i64 (bActiveRuleSleep), .int .i64 (bNextPage), .int .i64 (bNextCap), .int .i64 (bNextLimit), .int .i64 (bNextLow), .int .i64 (bNextHigh), .slice ro1 (bNextWeightsN) rc1, .int .i64 (bNextRuleDown), .int .i64 (bNextRuleSleep), .bool (bWaits)]) ∧ HS ⟨w, fun _ => False⟩ [.row ⟨true, ro0, 3, 1, bActiveWeightsN, rc0, [fun i => .int (bActiveWeightsg0 i)]⟩, .row ⟨true, ro1, 3, 1, bNextWeightsN, rc1, [fun i => .int (bNextWeightsg0 i)]⟩] w' := by
  refine fnB (tb := [(88, sCopyP)]) ⟨sCopyP_ok_copyPS, trivial⟩ Try.func87 ((copyBS_T bActivePage bActiveCap bActiveLimit bActiveLow bActiveHigh bActiveWeightsO bActiveWeightsN bActiveWeightsC bActiveWeightsg0 bActiveRuleDown bActiveRuleSleep bNextPage bNextCap bNextLimit bNextLow bNextHigh bNextWeightsO bNextWeightsN bNextWeightsC bNextWeightsg0 bNextRuleDown bNextRuleSleep bWaits).mpr ?_) (HS.rows (fun _ => False) [⟨false, bActiveWeightsO, 0, 1, bActiveWeightsN, 0, [fun i => .int (bActiveWeightsg0 i)]⟩, ⟨false, bNextWeightsO, 0, 1, bNextWeightsN, 0, [fun i => .int (bNextWeightsg0 i)]⟩] (by simp; exact ⟨hrbActiveWeights, hrbNextWeights⟩)) (fun v ch' w' ⟨ro0, rc0, ro1, rc1, hk⟩ hs => ⟨ro0, rc0, ro1, rc1, by rw [hk.1], hk.hs hs⟩)
  clear hrbActiveWeights hrbNextWeights
  repeat' (first
    | exact rfl
    | exact True.intro
    | refine And.intro ?_ ?_
    | apply Exists.intro
    | assumption
    | omega
    | intro _)
def sCopyB : Sm := fun args ch kk =>
  match args with
  | [.a (.agg [c0, c1, c2, c3, c4, .sl i0 a0 n0 d0, c5, c6, c7, c8, c9, c10, c11, .sl i1 a1 n1 d1, c12, c13, c14])] =>
    match ch[i0]?, ch[i1]?, ints [c0, c1, c2, c3, c4, c5, c6, c7, c8, c9, c10, c11, c12, c13], bools [c14] with
    | some (.row r0), some (.row r1), some [bActivePage, bActiveCap, bActiveLimit, bActiveLow, bActiveHigh, bActiveRuleDown, bActiveRuleSleep, bNextPage, bNextCap, bNextLimit, bNextLow, bNextHigh, bNextRuleDown, bNextRuleSleep], some [bWaits] => ∃ bActiveWeightsg0 bNextWeightsg0 : Nat → Int, (a0 = r0.ao ∧ n0 = r0.n ∧ r0.fld = [fun i => .int (bActiveWeightsg0 i)] ∧ a1 = r1.ao ∧ n1 = r1.n ∧ r1.fld = [fun i => .int (bNextWeightsg0 i)] ∧ capC n0 ∧ capC n1) ∧ ∀ (ro0 : Option Addr) (rc0 : Nat), ∀ (ro1 : Option Addr) (rc1 : Nat), kk (.a (.agg [.int (bActivePage), .int (bActiveCap), .int (bActiveLimit), .int (bActiveLow), .int (bActiveHigh), .sl (ch.length) ro0 (n0) rc0, .int (bActiveRuleDown), .int (bActiveRuleSleep), .int (bNextPage), .int (bNextCap), .int (bNextLimit), .int (bNextLow), .int (bNextHigh), .sl (ch.length + 1) ro1 (n1) rc1, .int (bNextRuleDown), .int (bNextRuleSleep), .bool (bWaits)])) (ch ++ [.row ⟨true, ro0, 3, 1, n0, rc0, [fun i => .int (bActiveWeightsg0 i)]⟩, .row ⟨true, ro1, 3, 1, n1, rc1, [fun i => .int (bNextWeightsg0 i)]⟩]) []
    | _, _, _, _ => False
  | _ => False
theorem sCopyB_ok {f : FuncId} (hc : ∀ args w, (callFunc f args).run Try.prog w = .ok (.enter f args) w) (h : ∀ (bActivePage : Int) (bActiveCap : Int) (bActiveLimit : Int) (bActiveLow : Int) (bActiveHigh : Int) (bActiveWeightsO : Option Addr) (bActiveWeightsN bActiveWeightsC : Nat) (bActiveWeightsg0 : Nat → Int) (bActiveRuleDown : Int) (bActiveRuleSleep : Int) (bNextPage : Int) (bNextCap : Int) (bNextLimit : Int) (bNextLow : Int) (bNextHigh : Int) (bNextWeightsO : Option Addr) (bNextWeightsN bNextWeightsC : Nat) (bNextWeightsg0 : Nat → Int) (bNextRuleDown : Int) (bNextRuleSleep : Int) (bWaits : Bool) (w : World), Row.sat w ⟨false, bActiveWeightsO, 0, 1, bActiveWeightsN, 0, [fun i => .int (bActiveWeightsg0 i)]⟩ → Row.sat w ⟨false, bNextWeightsO, 0, 1, bNextWeightsN, 0, [fun i => .int (bNextWeightsg0 i)]⟩ → capC bActiveWeightsN ∧ capC bNextWeightsN → Calls Try.prog f #[.agg #[.int .i64 bActivePage, .int .i64 bActiveCap, .int .i64 bActiveLimit, .int .i64 bActiveLow, .int .i64 bActiveHigh, .slice bActiveWeightsO bActiveWeightsN bActiveWeightsC, .int .i64 bActiveRuleDown, .int .i64 bActiveRuleSleep, .int .i64 bNextPage, .int .i64 bNextCap, .int .i64 bNextLimit, .int .i64 bNextLow, .int .i64 bNextHigh, .slice bNextWeightsO bNextWeightsN bNextWeightsC, .int .i64 bNextRuleDown, .int .i64 bNextRuleSleep, .bool bWaits]] w fun e w' => ∃ (ro0 : Option Addr) (rc0 : Nat) (ro1 : Option Addr) (rc1 : Nat), e = .returned (.agg #[.int .i64 (bActivePage), .int .i64 (bActiveCap), .int .i64 (bActiveLimit), .int .i64 (bActiveLow), .int .i64 (bActiveHigh), .slice ro0 (bActiveWeightsN) rc0, .int .i64 (bActiveRuleDown), .int .i64 (bActiveRuleSleep), .int .i64 (bNextPage), .int .i64 (bNextCap), .int .i64 (bNextLimit), .int .i64 (bNextLow), .int .i64 (bNextHigh), .slice ro1 (bNextWeightsN) rc1, .int .i64 (bNextRuleDown), .int .i64 (bNextRuleSleep), .bool (bWaits)]) ∧ HS ⟨w, fun _ => False⟩ [.row ⟨true, ro0, 3, 1, bActiveWeightsN, rc0, [fun i => .int (bActiveWeightsg0 i)]⟩, .row ⟨true, ro1, 3, 1, bNextWeightsN, rc1, [fun i => .int (bNextWeightsg0 i)]⟩] w') : SmOK Try.prog f sCopyB := by
  refine smN hc fun args ch kk w X h0 hs => ?_
  unfold sCopyB at h0
  split at h0
  · rename_i c0 c1 c2 c3 c4 i0 a0 n0 d0 c5 c6 c7 c8 c9 c10 c11 i1 a1 n1 d1 c12 c13 c14
    split at h0
    · rename_i r0 r1 bActivePage bActiveCap bActiveLimit bActiveLow bActiveHigh bActiveRuleDown bActiveRuleSleep bNextPage bNextCap bNextLimit bNextLow bNextHigh bNextRuleDown bNextRuleSleep bWaits hr0 hr1 hi hb
      obtain ⟨bActiveWeightsg0, bNextWeightsg0, ⟨rfl, rfl, hf0, rfl, rfl, hf1, hpre⟩, h0⟩ := h0
      obtain ⟨ec0, hi⟩ := ints_cons hi
      obtain ⟨ec1, hi⟩ := ints_cons hi
      obtain ⟨ec2, hi⟩ := ints_cons hi
      obtain ⟨ec3, hi⟩ := ints_cons hi
      obtain ⟨ec4, hi⟩ := ints_cons hi
      obtain ⟨ec5, hi⟩ := ints_cons hi
      obtain ⟨ec6, hi⟩ := ints_cons hi
      obtain ⟨ec7, hi⟩ := ints_cons hi
      obtain ⟨ec8, hi⟩ := ints_cons hi
      obtain ⟨ec9, hi⟩ := ints_cons hi
      obtain ⟨ec10, hi⟩ := ints_cons hi
      obtain ⟨ec11, hi⟩ := ints_cons hi
      obtain ⟨ec12, hi⟩ := ints_cons hi
      obtain ⟨ec13, hi⟩ := ints_cons hi
      obtain ⟨ec14, hb⟩ := bools_cons hb
      refine Calls.mono (?_ : Calls Try.prog f _ w (fun e w' => ∃ (ro0 : Option Addr) (rc0 : Nat) (ro1 : Option Addr) (rc1 : Nat), e = .returned (.agg #[.int .i64 (bActivePage), .int .i64 (bActiveCap), .int .i64 (bActiveLimit), .int .i64 (bActiveLow), .int .i64 (bActiveHigh), .slice ro0 (r0.n) rc0, .int .i64 (bActiveRuleDown), .int .i64 (bActiveRuleSleep), .int .i64 (bNextPage), .int .i64 (bNextCap), .int .i64 (bNextLimit), .int .i64 (bNextLow), .int .i64 (bNextHigh), .slice ro1 (r1.n) rc1, .int .i64 (bNextRuleDown), .int .i64 (bNextRuleSleep), .bool (bWaits)]) ∧ HS ⟨w, fun _ => False⟩ [.row ⟨true, ro0, 3, 1, r0.n, rc0, [fun i => .int (bActiveWeightsg0 i)]⟩, .row ⟨true, ro1, 3, 1, r1.n, rc1, [fun i => .int (bNextWeightsg0 i)]⟩] w')) (fun e w' ⟨ro0, rc0, ro1, rc1, he, hs'⟩ => ⟨_, _, ?_, hs', rfl, h0 ro0 rc0 ro1 rc1⟩)
      · simp only [List.map_cons, List.map_nil, den_a, den_c, SA.den, den_sl, ec0, ec1, ec2, ec3, ec4, ec5, ec6, ec7, ec8, ec9, ec10, ec11, ec12, ec13, ec14]
        exact h bActivePage bActiveCap bActiveLimit bActiveLow bActiveHigh r0.ao r0.n d0 bActiveWeightsg0 bActiveRuleDown bActiveRuleSleep bNextPage bNextCap bNextLimit bNextLow bNextHigh r1.ao r1.n d1 bNextWeightsg0 bNextRuleDown bNextRuleSleep bWaits w (Row.seenAs (hs.sat i0 _ hr0) hf0 rfl) (Row.seenAs (hs.sat i1 _ hr1) hf1 rfl) hpre
      · rw [he]
        rfl
    · exact h0.elim
  · exact h0.elim
theorem sCopyB_ok_copyBI : SmOK Try.prog 89 sCopyB := sCopyB_ok Try.call89 (fun bActivePage bActiveCap bActiveLimit bActiveLow bActiveHigh bActiveWeightsO bActiveWeightsN bActiveWeightsC bActiveWeightsg0 bActiveRuleDown bActiveRuleSleep bNextPage bNextCap bNextLimit bNextLow bNextHigh bNextWeightsO bNextWeightsN bNextWeightsC bNextWeightsg0 bNextRuleDown bNextRuleSleep bWaits w h0 h1 hp => copyBI_any bActivePage bActiveCap bActiveLimit bActiveLow bActiveHigh bActiveWeightsO bActiveWeightsN bActiveWeightsC bActiveWeightsg0 bActiveRuleDown bActiveRuleSleep bNextPage bNextCap bNextLimit bNextLow bNextHigh bNextWeightsO bNextWeightsN bNextWeightsC bNextWeightsg0 bNextRuleDown bNextRuleSleep bWaits w h0 h1 hp)
theorem sCopyB_ok_copyBS : SmOK Try.prog 87 sCopyB := sCopyB_ok Try.call87 (fun bActivePage bActiveCap bActiveLimit bActiveLow bActiveHigh bActiveWeightsO bActiveWeightsN bActiveWeightsC bActiveWeightsg0 bActiveRuleDown bActiveRuleSleep bNextPage bNextCap bNextLimit bNextLow bNextHigh bNextWeightsO bNextWeightsN bNextWeightsC bNextWeightsg0 bNextRuleDown bNextRuleSleep bWaits w h0 h1 hp => copyBS_any bActivePage bActiveCap bActiveLimit bActiveLow bActiveHigh bActiveWeightsO bActiveWeightsN bActiveWeightsC bActiveWeightsg0 bActiveRuleDown bActiveRuleSleep bNextPage bNextCap bNextLimit bNextLow bNextHigh bNextWeightsO bNextWeightsN bNextWeightsC bNextWeightsg0 bNextRuleDown bNextRuleSleep bWaits w h0 h1 hp)
theorem stepI_T (bActivePage : Int) (bActiveCap : Int) (bActiveLimit : Int) (bActiveLow : Int) (bActiveHigh : Int) (bActiveWeightsO : Option Addr) (bActiveWeightsN bActiveWeightsC : Nat) (bActiveWeightsg0 : Nat → Int) (bActiveRuleDown : Int) (bActiveRuleSleep : Int) (bNextPage : Int) (bNextCap : Int) (bNextLimit : Int) (bNextLow : Int) (bNextHigh : Int) (bNextWeightsO : Option Addr) (bNextWeightsN bNextWeightsC : Nat) (bNextWeightsg0 : Nat → Int) (bNextRuleDown : Int) (bNextRuleSleep : Int) (bWaits : Bool) (safe : Bool) : (exFn Try.prog {tb := [(90, sCopyP), (89, sCopyB)]} 400 Try.f49 ([.a (.agg [.int bActivePage, .int bActiveCap, .int bActiveLimit, .int bActiveLow, .int bActiveHigh, .sl 0 bActiveWeightsO bActiveWeightsN bActiveWeightsC, .int bActiveRuleDown, .int bActiveRuleSleep, .int bNextPage, .int bNextCap, .int bNextLimit, .int bNextLow, .int bNextHigh, .sl 1 bNextWeightsO bNextWeightsN bNextWeightsC, .int bNextRuleDown, .int bNextRuleSleep, .bool bWaits]), .a (.c (.bool safe))]) ([.row ⟨false, bActiveWeightsO, 0, 1, bActiveWeightsN, 0, [fun i => .int (bActiveWeightsg0 i)]⟩, .row ⟨false, bNextWeightsO, 0, 1, bNextWeightsN, 0, [fun i => .int (bNextWeightsg0 i)]⟩]) (fun v ch => ∃ (ro0 : Option Addr) (rc0 : Nat) (ro1 : Option Addr) (rc1 : Nat), OutR v ch (.tuple #[.agg #[.int .i64 (selZ ((bothB safe bWaits)) bNextPage bActivePage), .int .i64 (selZ ((bothB safe bWaits)) bNextCap bActiveCap), .int .i64 (selZ ((bothB safe bWaits)) bNextLimit bActiveLimit), .int .i64 (selZ ((bothB safe bWaits)) bNextLow bActiveLow), .int .i64 (selZ ((bothB safe bWaits)) bNextHigh bActiveHigh), .slice ro0 (selN ((bothB safe bWaits)) bNextWeightsN bActiveWeightsN) rc0, .int .i64 (selZ ((bothB safe bWaits)) bNextRuleDown bActiveRuleDown), .int .i64 (selZ ((bothB safe bWaits)) bNextRuleSleep bActiveRuleSleep), .int .i64 (bNextPage), .int .i64 (bNextCap), .int .i64 (bNextLimit), .int .i64 (bNextLow), .int .i64 (bNextHigh), .slice ro1 (bNextWeightsN) rc1, .int .i64 (bNextRuleDown), .int .i64 (bNextRuleSleep), .bool ((lessB bWaits safe))], .bool ((bothB safe bWaits))]) [.row ⟨true, ro0, 3, 1, selN ((bothB safe bWaits)) bNextWeightsN bActiveWeightsN, rc0, [fun i => .int (selZ ((bothB safe bWaits)) (bNextWeightsg0 i) (bActiveWeightsg0 i))]⟩, .row ⟨true, ro1, 3, 1, bNextWeightsN, rc1, [fun i => .int (bNextWeightsg0 i)]⟩])) = (
  (∀ b0 : Nat,
  (∀ b1 : Nat,
  (b0 = b0 ∧
  (Exists (fun (bActiveWeightsg02 : (Nat →
  Int)) => (Exists (fun (bNextWeightsg03 : (Nat →
  Int)) => ((bActiveWeightsO = bActiveWeightsO ∧
  (bActiveWeightsN = bActiveWeightsN ∧
  ([(fun (i4 : Nat) => (SC.int (bActiveWeightsg0 i4)))] = [(fun (i5 : Nat) => (SC.int (bActiveWeightsg02 i5)))] ∧
  (bNextWeightsO = bNextWeightsO ∧
  (bNextWeightsN = bNextWeightsN ∧
  ([(fun (i6 : Nat) => (SC.int (bNextWeightsg0 i6)))] = [(fun (i7 : Nat) => (SC.int (bNextWeightsg03 i7)))] ∧
  ((capC bActiveWeightsN) ∧
  (capC bNextWeightsN)))))))) ∧
  (∀ ro08 : (Option Addr),
  (∀ rc09 : Nat,
  (∀ ro110 : (Option Addr),
  (∀ rc111 : Nat,
  (∀ b12 : Nat,
  (b12 = b12 ∧
  (((!safe) = Bool.false →
  (b0 = b0 ∧
   (((!bWaits) = Bool.true →
   (b12 = b12 ∧
    (b1 = b1 ∧
    (b1 = b1 ∧
    (Exists (fun (ro013 : (Option Addr)) => (Exists (fun (rc014 : Nat) => (Exists (fun (ro115 : (Option Addr)) => (Exists (fun (rc116 : Nat) => ((Value.tuple (List.toArray [(Value.agg (List.toArray [(Value.int IntKind.i64 bActivePage), (Value.int IntKind.i64 bActiveCap), (Value.int IntKind.i64 bActiveLimit), (Value.int IntKind.i64 bActiveLow), (Value.int IntKind.i64 bActiveHigh), (Value.slice ro08 bActiveWeightsN rc09), (Value.int IntKind.i64 bActiveRuleDown), (Value.int IntKind.i64 bActiveRuleSleep), (Value.int IntKind.i64 bNextPage), (Value.int IntKind.i64 bNextCap), (Value.int IntKind.i64 bNextLimit), (Value.int IntKind.i64 bNextLow), (Value.int IntKind.i64 bNextHigh), (Value.slice ro110 bNextWeightsN rc111), (Value.int IntKind.i64 bNextRuleDown), (Value.int IntKind.i64 bNextRuleSleep), (Value.bool bWaits)])), (Value.bool Bool.false)])) = (Value.tuple (List.toArray [(Value.agg (List.toArray [(Value.int IntKind.i64 (selZ (bothB safe bWaits) bNextPage bActivePage)), (Value.int IntKind.i64 (selZ (bothB safe bWaits) bNextCap bActiveCap)), (Value.int IntKind.i64 (selZ (bothB safe bWaits) bNextLimit bActiveLimit)), (Value.int IntKind.i64 (selZ (bothB safe bWaits) bNextLow bActiveLow)), (Value.int IntKind.i64 (selZ (bothB safe bWaits) bNextHigh bActiveHigh)), (Value.slice ro013 (selN (bothB safe bWaits) bNextWeightsN bActiveWeightsN) rc014), (Value.int IntKind.i64 (selZ (bothB safe bWaits) bNextRuleDown bActiveRuleDown)), (Value.int IntKind.i64 (selZ (bothB safe bWaits) bNextRuleSleep bActiveRuleSleep)), (Value.int IntKind.i64 bNextPage), (Value.int IntKind.i64 bNextCap), (Value.int IntKind.i64 bNextLimit), (Value.int IntKind.i64 bNextLow), (Value.int IntKind.i64 bNextHigh), (Value.slice ro115 bNextWeightsN rc116), (Value.int IntKind.i64 bNextRuleDown), (Value.int IntKind.i64 bNextRuleSleep), (Value.bool (lessB bWaits safe))])), (Value.bool (bothB safe bWaits))])) ∧
    (((Bool.true = Bool.true ∧
    (ro08 = ro013 ∧
    (3 = 3 ∧
    (1 = 1 ∧
    (bActiveWeightsN = (selN (bothB safe bWaits) bNextWeightsN bActiveWeightsN) ∧
    (rc09 = rc014 ∧
    ((∀ i17 : Nat,
    (i17 < bActiveWeightsN →
    (Value.int IntKind.i64 (bActiveWeightsg02 i17)) = (Value.int IntKind.i64 (selZ (bothB safe bWaits) (bNextWeightsg0 i17) (bActiveWeightsg0 i17))))) ∧
    True))))))) ∧
    ((Bool.true = Bool.true ∧
    (ro110 = ro115 ∧
    (3 = 3 ∧
    (1 = 1 ∧
    (bNextWeightsN = bNextWeightsN ∧
    (rc111 = rc116 ∧
    ((∀ i18 : Nat,
    (i18 < bNextWeightsN →
    (Value.int IntKind.i64 (bNextWeightsg03 i18)) = (Value.int IntKind.i64 (bNextWeightsg0 i18)))) ∧
    True))))))) ∧
    True)) ∧
    Bool.true = Bool.true)))))))))))))) ∧
   ((!bWaits) = Bool.false →
   (b0 = b0 ∧
    (Exists (fun (pWeightsg019 : (Nat →
    Int)) => ((bNextWeightsO = bNextWeightsO ∧
    (bNextWeightsN = bNextWeightsN ∧
    ([(fun (i20 : Nat) => (SC.int (bNextWeightsg0 i20)))] = [(fun (i21 : Nat) => (SC.int (pWeightsg019 i21)))] ∧
    (capC bNextWeightsN)))) ∧
    (∀ ro022 : (Option Addr),
    (∀ rc023 : Nat,
    (b12 = b12 ∧
    (b12 = b12 ∧
    (b12 = b12 ∧
    (b1 = b1 ∧
    (b1 = b1 ∧
    (Exists (fun (ro024 : (Option Addr)) => (Exists (fun (rc025 : Nat) => (Exists (fun (ro126 : (Option Addr)) => (Exists (fun (rc127 : Nat) => ((Value.tuple (List.toArray [(Value.agg (List.toArray [(Value.int IntKind.i64 bNextPage), (Value.int IntKind.i64 bNextCap), (Value.int IntKind.i64 bNextLimit), (Value.int IntKind.i64 bNextLow), (Value.int IntKind.i64 bNextHigh), (Value.slice ro022 bNextWeightsN rc023), (Value.int IntKind.i64 bNextRuleDown), (Value.int IntKind.i64 bNextRuleSleep), (Value.int IntKind.i64 bNextPage), (Value.int IntKind.i64 bNextCap), (Value.int IntKind.i64 bNextLimit), (Value.int IntKind.i64 bNextLow), (Value.int IntKind.i64 bNextHigh), (Value.slice ro110 bNextWeightsN rc111), (Value.int IntKind.i64 bNextRuleDown), (Value.int IntKind.i64 bNextRuleSleep), (Value.bool Bool.false)])), (Value.bool Bool.true)])) = (Value.tuple (List.toArray [(Value.agg (List.toArray [(Value.int IntKind.i64 (selZ (bothB safe bWaits) bNextPage bActivePage)), (Value.int IntKind.i64 (selZ (bothB safe bWaits) bNextCap bActiveCap)), (Value.int IntKind.i64 (selZ (bothB safe bWaits) bNextLimit bActiveLimit)), (Value.int IntKind.i64 (selZ (bothB safe bWaits) bNextLow bActiveLow)), (Value.int IntKind.i64 (selZ (bothB safe bWaits) bNextHigh bActiveHigh)), (Value.slice ro024 (selN (bothB safe bWaits) bNextWeightsN bActiveWeightsN) rc025), (Value.int IntKind.i64 (selZ (bothB safe bWaits) bNextRuleDown bActiveRuleDown)), (Value.int IntKind.i64 (selZ (bothB safe bWaits) bNextRuleSleep bActiveRuleSleep)), (Value.int IntKind.i64 bNextPage), (Value.int IntKind.i64 bNextCap), (Value.int IntKind.i64 bNextLimit), (Value.int IntKind.i64 bNextLow), (Value.int IntKind.i64 bNextHigh), (Value.slice ro126 bNextWeightsN rc127), (Value.int IntKind.i64 bNextRuleDown), (Value.int IntKind.i64 bNextRuleSleep), (Value.bool (lessB bWaits safe))])), (Value.bool (bothB safe bWaits))])) ∧
    (((Bool.true = Bool.true ∧
    (ro022 = ro024 ∧
    (3 = 3 ∧
    (1 = 1 ∧
    (bNextWeightsN = (selN (bothB safe bWaits) bNextWeightsN bActiveWeightsN) ∧
    (rc023 = rc025 ∧
    ((∀ i28 : Nat,
    (i28 < bNextWeightsN →
    (Value.int IntKind.i64 (pWeightsg019 i28)) = (Value.int IntKind.i64 (selZ (bothB safe bWaits) (bNextWeightsg0 i28) (bActiveWeightsg0 i28))))) ∧
    True))))))) ∧
    ((Bool.true = Bool.true ∧
    (ro110 = ro126 ∧
    (3 = 3 ∧
    (1 = 1 ∧
    (bNextWeightsN = bNextWeightsN ∧
    (rc111 = rc127 ∧
    ((∀ i29 : Nat,
    (i29 < bNextWeightsN →
    (Value.int IntKind.i64 (bNextWeightsg03 i29)) = (Value.int IntKind.i64 (bNextWeightsg0 i29)))) ∧
    True))))))) ∧
    True)) ∧
    Bool.true = Bool.true))))))))))))))))))))))))) ∧
  ((!safe) = Bool.true →
  (b12 = b12 ∧
   (b1 = b1 ∧
   (b1 = b1 ∧
   (Exists (fun (ro030 : (Option Addr)) => (Exists (fun (rc031 : Nat) => (Exists (fun (ro132 : (Option Addr)) => (Exists (fun (rc133 : Nat) => ((Value.tuple (List.toArray [(Value.agg (List.toArray [(Value.int IntKind.i64 bActivePage), (Value.int IntKind.i64 bActiveCap), (Value.int IntKind.i64 bActiveLimit), (Value.int IntKind.i64 bActiveLow), (Value.int IntKind.i64 bActiveHigh), (Value.slice ro08 bActiveWeightsN rc09), (Value.int IntKind.i64 bActiveRuleDown), (Value.int IntKind.i64 bActiveRuleSleep), (Value.int IntKind.i64 bNextPage), (Value.int IntKind.i64 bNextCap), (Value.int IntKind.i64 bNextLimit), (Value.int IntKind.i64 bNextLow), (Value.int IntKind.i64 bNextHigh), (Value.slice ro110 bNextWeightsN rc111), (Value.int IntKind.i64 bNextRuleDown), (Value.int IntKind.i64 bNextRuleSleep), (Value.bool bWaits)])), (Value.bool Bool.false)])) = (Value.tuple (List.toArray [(Value.agg (List.toArray [(Value.int IntKind.i64 (selZ (bothB safe bWaits) bNextPage bActivePage)), (Value.int IntKind.i64 (selZ (bothB safe bWaits) bNextCap bActiveCap)), (Value.int IntKind.i64 (selZ (bothB safe bWaits) bNextLimit bActiveLimit)), (Value.int IntKind.i64 (selZ (bothB safe bWaits) bNextLow bActiveLow)), (Value.int IntKind.i64 (selZ (bothB safe bWaits) bNextHigh bActiveHigh)), (Value.slice ro030 (selN (bothB safe bWaits) bNextWeightsN bActiveWeightsN) rc031), (Value.int IntKind.i64 (selZ (bothB safe bWaits) bNextRuleDown bActiveRuleDown)), (Value.int IntKind.i64 (selZ (bothB safe bWaits) bNextRuleSleep bActiveRuleSleep)), (Value.int IntKind.i64 bNextPage), (Value.int IntKind.i64 bNextCap), (Value.int IntKind.i64 bNextLimit), (Value.int IntKind.i64 bNextLow), (Value.int IntKind.i64 bNextHigh), (Value.slice ro132 bNextWeightsN rc133), (Value.int IntKind.i64 bNextRuleDown), (Value.int IntKind.i64 bNextRuleSleep), (Value.bool (lessB bWaits safe))])), (Value.bool (bothB safe bWaits))])) ∧
   (((Bool.true = Bool.true ∧
   (ro08 = ro030 ∧
   (3 = 3 ∧
   (1 = 1 ∧
   (bActiveWeightsN = (selN (bothB safe bWaits) bNextWeightsN bActiveWeightsN) ∧
   (rc09 = rc031 ∧
   ((∀ i34 : Nat,
   (i34 < bActiveWeightsN →
   (Value.int IntKind.i64 (bActiveWeightsg02 i34)) = (Value.int IntKind.i64 (selZ (bothB safe bWaits) (bNextWeightsg0 i34) (bActiveWeightsg0 i34))))) ∧
   True))))))) ∧
   ((Bool.true = Bool.true ∧
   (ro110 = ro132 ∧
   (3 = 3 ∧
   (1 = 1 ∧
   (bNextWeightsN = bNextWeightsN ∧
   (rc111 = rc133 ∧
   ((∀ i35 : Nat,
   (i35 < bNextWeightsN →
   (Value.int IntKind.i64 (bNextWeightsg03 i35)) = (Value.int IntKind.i64 (bNextWeightsg0 i35)))) ∧
   True))))))) ∧
   True)) ∧
   Bool.true = Bool.true)))))))))))))))))))))))))))))) := by kernel_rfl
theorem stepI_any (bActivePage : Int) (bActiveCap : Int) (bActiveLimit : Int) (bActiveLow : Int) (bActiveHigh : Int) (bActiveWeightsO : Option Addr) (bActiveWeightsN bActiveWeightsC : Nat) (bActiveWeightsg0 : Nat → Int) (bActiveRuleDown : Int) (bActiveRuleSleep : Int) (bNextPage : Int) (bNextCap : Int) (bNextLimit : Int) (bNextLow : Int) (bNextHigh : Int) (bNextWeightsO : Option Addr) (bNextWeightsN bNextWeightsC : Nat) (bNextWeightsg0 : Nat → Int) (bNextRuleDown : Int) (bNextRuleSleep : Int) (bWaits : Bool) (safe : Bool) (w : World) (hrbActiveWeights : Row.sat w ⟨false, bActiveWeightsO, 0, 1, bActiveWeightsN, 0, [fun i => .int (bActiveWeightsg0 i)]⟩) (hrbNextWeights : Row.sat w ⟨false, bNextWeightsO, 0, 1, bNextWeightsN, 0, [fun i => .int (bNextWeightsg0 i)]⟩) (hpre : capC bActiveWeightsN ∧ capC bNextWeightsN) : Calls Try.prog 49 #[.agg #[.int .i64 bActivePage, .int .i64 bActiveCap, .int .i64 bActiveLimit, .int .i64 bActiveLow, .int .i64 bActiveHigh, .slice bActiveWeightsO bActiveWeightsN bActiveWeightsC, .int .i64 bActiveRuleDown, .int .i64 bActiveRuleSleep, .int .i64 bNextPage, .int .i64 bNextCap, .int .i64 bNextLimit, .int .i64 bNextLow, .int .i64 bNextHigh, .slice bNextWeightsO bNextWeightsN bNextWeightsC, .int .i64 bNextRuleDown, .int .i64 bNextRuleSleep, .bool bWaits], .bool safe] w fun e w' => ∃ (ro0 : Option Addr) (rc0 : Nat) (ro1 : Option Addr) (rc1 : Nat), e = .returned (.tuple #[.agg #[.int .i64 (selZ ((bothB safe bWaits)) bNextPage bActivePage), .int .i64 (selZ ((bothB safe bWaits)) bNextCap bActiveCap), .int .i64 (selZ ((bothB safe bWaits)) bNextLimit bActiveLimit), .int .i64 (selZ ((bothB safe bWaits)) bNextLow bActiveLow), .int .i64 (selZ ((bothB safe bWaits)) bNextHigh bActiveHigh), .slice ro0 (selN ((bothB safe bWaits)) bNextWeightsN bActiveWeightsN) rc0, .int .i64 (selZ ((bothB safe bWaits)) bNextRuleDown bActiveRuleDown), .int .i64 (selZ ((bothB safe bWaits)) bNextRuleSleep bActiveRuleSleep), .int .i64 (bNextPage), .int .i64 (bNextCap), .int .i64 (bNextLimit), .int .i64 (bNextLow), .int .i64 (bNextHigh), .slice ro1 (bNextWeightsN) rc1, .int .i64 (bNextRuleDown), .int .i64 (bNextRuleSleep), .bool ((lessB bWaits safe))], .bool ((bothB safe bWaits))]) ∧ HS ⟨w, fun _ => False⟩ [.row ⟨true, ro0, 3, 1, selN ((bothB safe bWaits)) bNextWeightsN bActiveWeightsN, rc0, [fun i => .int (selZ ((bothB safe bWaits)) (bNextWeightsg0 i) (bActiveWeightsg0 i))]⟩, .row ⟨true, ro1, 3, 1, bNextWeightsN, rc1, [fun i => .int (bNextWeightsg0 i)]⟩] w' := by
  refine fnB (tb := [(90, sCopyP), (89, sCopyB)]) ⟨sCopyP_ok_copyPI, sCopyB_ok_copyBI, trivial⟩ Try.func49 ((stepI_T bActivePage bActiveCap bActiveLimit bActiveLow bActiveHigh bActiveWeightsO bActiveWeightsN bActiveWeightsC bActiveWeightsg0 bActiveRuleDown bActiveRuleSleep bNextPage bNextCap bNextLimit bNextLow bNextHigh bNextWeightsO bNextWeightsN bNextWeightsC bNextWeightsg0 bNextRuleDown bNextRuleSleep bWaits safe).mpr ?_) (HS.rows (fun _ => False) [⟨false, bActiveWeightsO, 0, 1, bActiveWeightsN, 0, [fun i => .int (bActiveWeightsg0 i)]⟩, ⟨false, bNextWeightsO, 0, 1, bNextWeightsN, 0, [fun i => .int (bNextWeightsg0 i)]⟩] (by simp; exact ⟨hrbActiveWeights, hrbNextWeights⟩)) (fun v ch' w' ⟨ro0, rc0, ro1, rc1, hk⟩ hs => ⟨ro0, rc0, ro1, rc1, by rw [hk.1], hk.hs hs⟩)
  clear hrbActiveWeights hrbNextWeights
  cases safe <;> cases bWaits
  all_goals
    repeat' (first
      | with_reducible exact rfl
      | exact True.intro
      | assumption
      | refine And.intro ?_ ?_
      | apply Exists.intro
      | (intro h; exfalso; simp at h; done)
      | intro _
      | omega)
  all_goals simp [selZ, selN, bothB, lessB]
theorem stepS_T (bActivePage : Int) (bActiveCap : Int) (bActiveLimit : Int) (bActiveLow : Int) (bActiveHigh : Int) (bActiveWeightsO : Option Addr) (bActiveWeightsN bActiveWeightsC : Nat) (bActiveWeightsg0 : Nat → Int) (bActiveRuleDown : Int) (bActiveRuleSleep : Int) (bNextPage : Int) (bNextCap : Int) (bNextLimit : Int) (bNextLow : Int) (bNextHigh : Int) (bNextWeightsO : Option Addr) (bNextWeightsN bNextWeightsC : Nat) (bNextWeightsg0 : Nat → Int) (bNextRuleDown : Int) (bNextRuleSleep : Int) (bWaits : Bool) (safe : Bool) : (exFn Try.prog {tb := [(88, sCopyP), (87, sCopyB)]} 400 Try.f47 ([.a (.agg [.int bActivePage, .int bActiveCap, .int bActiveLimit, .int bActiveLow, .int bActiveHigh, .sl 0 bActiveWeightsO bActiveWeightsN bActiveWeightsC, .int bActiveRuleDown, .int bActiveRuleSleep, .int bNextPage, .int bNextCap, .int bNextLimit, .int bNextLow, .int bNextHigh, .sl 1 bNextWeightsO bNextWeightsN bNextWeightsC, .int bNextRuleDown, .int bNextRuleSleep, .bool bWaits]), .a (.c (.bool safe))]) ([.row ⟨false, bActiveWeightsO, 0, 1, bActiveWeightsN, 0, [fun i => .int (bActiveWeightsg0 i)]⟩, .row ⟨false, bNextWeightsO, 0, 1, bNextWeightsN, 0, [fun i => .int (bNextWeightsg0 i)]⟩]) (fun v ch => ∃ (ro0 : Option Addr) (rc0 : Nat) (ro1 : Option Addr) (rc1 : Nat), OutR v ch (.tuple #[.agg #[.int .i64 (selZ ((bothB safe bWaits)) bNextPage bActivePage), .int .i64 (selZ ((bothB safe bWaits)) bNextCap bActiveCap), .int .i64 (selZ ((bothB safe bWaits)) bNextLimit bActiveLimit), .int .i64 (selZ ((bothB safe bWaits)) bNextLow bActiveLow), .int .i64 (selZ ((bothB safe bWaits)) bNextHigh bActiveHigh), .slice ro0 (selN ((bothB safe bWaits)) bNextWeightsN bActiveWeightsN) rc0, .int .i64 (selZ ((bothB safe bWaits)) bNextRuleDown bActiveRuleDown), .int .i64 (selZ ((bothB safe bWaits)) bNextRuleSleep bActiveRuleSleep), .int .i64 (bNextPage), .int .i64 (bNextCap), .int .i64 (bNextLimit), .int .i64 (bNextLow), .int .i64 (bNextHigh), .slice ro1 (bNextWeightsN) rc1, .int .i64 (bNextRuleDown), .int .i64 (bNextRuleSleep), .bool ((lessB bWaits safe))], .bool ((bothB safe bWaits))]) [.row ⟨true, ro0, 3, 1, selN ((bothB safe bWaits)) bNextWeightsN bActiveWeightsN, rc0, [fun i => .int (selZ ((bothB safe bWaits)) (bNextWeightsg0 i) (bActiveWeightsg0 i))]⟩, .row ⟨true, ro1, 3, 1, bNextWeightsN, rc1, [fun i => .int (bNextWeightsg0 i)]⟩])) = (
  (∀ b0 : Nat,
  (∀ b1 : Nat,
  (b0 = b0 ∧
  (Exists (fun (bActiveWeightsg02 : (Nat →
  Int)) => (Exists (fun (bNextWeightsg03 : (Nat →
  Int)) => ((bActiveWeightsO = bActiveWeightsO ∧
  (bActiveWeightsN = bActiveWeightsN ∧
  ([(fun (i4 : Nat) => (SC.int (bActiveWeightsg0 i4)))] = [(fun (i5 : Nat) => (SC.int (bActiveWeightsg02 i5)))] ∧
  (bNextWeightsO = bNextWeightsO ∧
  (bNextWeightsN = bNextWeightsN ∧
  ([(fun (i6 : Nat) => (SC.int (bNextWeightsg0 i6)))] = [(fun (i7 : Nat) => (SC.int (bNextWeightsg03 i7)))] ∧
  ((capC bActiveWeightsN) ∧
  (capC bNextWeightsN)))))))) ∧
  (∀ ro08 : (Option Addr),
  (∀ rc09 : Nat,
  (∀ ro110 : (Option Addr),
  (∀ rc111 : Nat,
  (∀ b12 : Nat,
  (b12 = b12 ∧
  (((!safe) = Bool.false →
  (b0 = b0 ∧
   (((!bWaits) = Bool.true →
   (b12 = b12 ∧
    (b1 = b1 ∧
    (b1 = b1 ∧
    (Exists (fun (ro013 : (Option Addr)) => (Exists (fun (rc014 : Nat) => (Exists (fun (ro115 : (Option Addr)) => (Exists (fun (rc116 : Nat) => ((Value.tuple (List.toArray [(Value.agg (List.toArray [(Value.int IntKind.i64 bActivePage), (Value.int IntKind.i64 bActiveCap), (Value.int IntKind.i64 bActiveLimit), (Value.int IntKind.i64 bActiveLow), (Value.int IntKind.i64 bActiveHigh), (Value.slice ro08 bActiveWeightsN rc09), (Value.int IntKind.i64 bActiveRuleDown), (Value.int IntKind.i64 bActiveRuleSleep), (Value.int IntKind.i64 bNextPage), (Value.int IntKind.i64 bNextCap), (Value.int IntKind.i64 bNextLimit), (Value.int IntKind.i64 bNextLow), (Value.int IntKind.i64 bNextHigh), (Value.slice ro110 bNextWeightsN rc111), (Value.int IntKind.i64 bNextRuleDown), (Value.int IntKind.i64 bNextRuleSleep), (Value.bool bWaits)])), (Value.bool Bool.false)])) = (Value.tuple (List.toArray [(Value.agg (List.toArray [(Value.int IntKind.i64 (selZ (bothB safe bWaits) bNextPage bActivePage)), (Value.int IntKind.i64 (selZ (bothB safe bWaits) bNextCap bActiveCap)), (Value.int IntKind.i64 (selZ (bothB safe bWaits) bNextLimit bActiveLimit)), (Value.int IntKind.i64 (selZ (bothB safe bWaits) bNextLow bActiveLow)), (Value.int IntKind.i64 (selZ (bothB safe bWaits) bNextHigh bActiveHigh)), (Value.slice ro013 (selN (bothB safe bWaits) bNextWeightsN bActiveWeightsN) rc014), (Value.int IntKind.i64 (selZ (bothB safe bWaits) bNextRuleDown bActiveRuleDown)), (Value.int IntKind.i64 (selZ (bothB safe bWaits) bNextRuleSleep bActiveRuleSleep)), (Value.int IntKind.i64 bNextPage), (Value.int IntKind.i64 bNextCap), (Value.int IntKind.i64 bNextLimit), (Value.int IntKind.i64 bNextLow), (Value.int IntKind.i64 bNextHigh), (Value.slice ro115 bNextWeightsN rc116), (Value.int IntKind.i64 bNextRuleDown), (Value.int IntKind.i64 bNextRuleSleep), (Value.bool (lessB bWaits safe))])), (Value.bool (bothB safe bWaits))])) ∧
    (((Bool.true = Bool.true ∧
    (ro08 = ro013 ∧
    (3 = 3 ∧
    (1 = 1 ∧
    (bActiveWeightsN = (selN (bothB safe bWaits) bNextWeightsN bActiveWeightsN) ∧
    (rc09 = rc014 ∧
    ((∀ i17 : Nat,
    (i17 < bActiveWeightsN →
    (Value.int IntKind.i64 (bActiveWeightsg02 i17)) = (Value.int IntKind.i64 (selZ (bothB safe bWaits) (bNextWeightsg0 i17) (bActiveWeightsg0 i17))))) ∧
    True))))))) ∧
    ((Bool.true = Bool.true ∧
    (ro110 = ro115 ∧
    (3 = 3 ∧
    (1 = 1 ∧
    (bNextWeightsN = bNextWeightsN ∧
    (rc111 = rc116 ∧
    ((∀ i18 : Nat,
    (i18 < bNextWeightsN →
    (Value.int IntKind.i64 (bNextWeightsg03 i18)) = (Value.int IntKind.i64 (bNextWeightsg0 i18)))) ∧
    True))))))) ∧
    True)) ∧
    Bool.true = Bool.true)))))))))))))) ∧
   ((!bWaits) = Bool.false →
   (b0 = b0 ∧
    (Exists (fun (pWeightsg019 : (Nat →
    Int)) => ((bNextWeightsO = bNextWeightsO ∧
    (bNextWeightsN = bNextWeightsN ∧
    ([(fun (i20 : Nat) => (SC.int (bNextWeightsg0 i20)))] = [(fun (i21 : Nat) => (SC.int (pWeightsg019 i21)))] ∧
    (capC bNextWeightsN)))) ∧
    (∀ ro022 : (Option Addr),
    (∀ rc023 : Nat,
    (b12 = b12 ∧
    (b12 = b12 ∧
    (b12 = b12 ∧
    (b1 = b1 ∧
    (b1 = b1 ∧
    (Exists (fun (ro024 : (Option Addr)) => (Exists (fun (rc025 : Nat) => (Exists (fun (ro126 : (Option Addr)) => (Exists (fun (rc127 : Nat) => ((Value.tuple (List.toArray [(Value.agg (List.toArray [(Value.int IntKind.i64 bNextPage), (Value.int IntKind.i64 bNextCap), (Value.int IntKind.i64 bNextLimit), (Value.int IntKind.i64 bNextLow), (Value.int IntKind.i64 bNextHigh), (Value.slice ro022 bNextWeightsN rc023), (Value.int IntKind.i64 bNextRuleDown), (Value.int IntKind.i64 bNextRuleSleep), (Value.int IntKind.i64 bNextPage), (Value.int IntKind.i64 bNextCap), (Value.int IntKind.i64 bNextLimit), (Value.int IntKind.i64 bNextLow), (Value.int IntKind.i64 bNextHigh), (Value.slice ro110 bNextWeightsN rc111), (Value.int IntKind.i64 bNextRuleDown), (Value.int IntKind.i64 bNextRuleSleep), (Value.bool Bool.false)])), (Value.bool Bool.true)])) = (Value.tuple (List.toArray [(Value.agg (List.toArray [(Value.int IntKind.i64 (selZ (bothB safe bWaits) bNextPage bActivePage)), (Value.int IntKind.i64 (selZ (bothB safe bWaits) bNextCap bActiveCap)), (Value.int IntKind.i64 (selZ (bothB safe bWaits) bNextLimit bActiveLimit)), (Value.int IntKind.i64 (selZ (bothB safe bWaits) bNextLow bActiveLow)), (Value.int IntKind.i64 (selZ (bothB safe bWaits) bNextHigh bActiveHigh)), (Value.slice ro024 (selN (bothB safe bWaits) bNextWeightsN bActiveWeightsN) rc025), (Value.int IntKind.i64 (selZ (bothB safe bWaits) bNextRuleDown bActiveRuleDown)), (Value.int IntKind.i64 (selZ (bothB safe bWaits) bNextRuleSleep bActiveRuleSleep)), (Value.int IntKind.i64 bNextPage), (Value.int IntKind.i64 bNextCap), (Value.int IntKind.i64 bNextLimit), (Value.int IntKind.i64 bNextLow), (Value.int IntKind.i64 bNextHigh), (Value.slice ro126 bNextWeightsN rc127), (Value.int IntKind.i64 bNextRuleDown), (Value.int IntKind.i64 bNextRuleSleep), (Value.bool (lessB bWaits safe))])), (Value.bool (bothB safe bWaits))])) ∧
    (((Bool.true = Bool.true ∧
    (ro022 = ro024 ∧
    (3 = 3 ∧
    (1 = 1 ∧
    (bNextWeightsN = (selN (bothB safe bWaits) bNextWeightsN bActiveWeightsN) ∧
    (rc023 = rc025 ∧
    ((∀ i28 : Nat,
    (i28 < bNextWeightsN →
    (Value.int IntKind.i64 (pWeightsg019 i28)) = (Value.int IntKind.i64 (selZ (bothB safe bWaits) (bNextWeightsg0 i28) (bActiveWeightsg0 i28))))) ∧
    True))))))) ∧
    ((Bool.true = Bool.true ∧
    (ro110 = ro126 ∧
    (3 = 3 ∧
    (1 = 1 ∧
    (bNextWeightsN = bNextWeightsN ∧
    (rc111 = rc127 ∧
    ((∀ i29 : Nat,
    (i29 < bNextWeightsN →
    (Value.int IntKind.i64 (bNextWeightsg03 i29)) = (Value.int IntKind.i64 (bNextWeightsg0 i29)))) ∧
    True))))))) ∧
    True)) ∧
    Bool.true = Bool.true))))))))))))))))))))))))) ∧
  ((!safe) = Bool.true →
  (b12 = b12 ∧
   (b1 = b1 ∧
   (b1 = b1 ∧
   (Exists (fun (ro030 : (Option Addr)) => (Exists (fun (rc031 : Nat) => (Exists (fun (ro132 : (Option Addr)) => (Exists (fun (rc133 : Nat) => ((Value.tuple (List.toArray [(Value.agg (List.toArray [(Value.int IntKind.i64 bActivePage), (Value.int IntKind.i64 bActiveCap), (Value.int IntKind.i64 bActiveLimit), (Value.int IntKind.i64 bActiveLow), (Value.int IntKind.i64 bActiveHigh), (Value.slice ro08 bActiveWeightsN rc09), (Value.int IntKind.i64 bActiveRuleDown), (Value.int IntKind.i64 bActiveRuleSleep), (Value.int IntKind.i64 bNextPage), (Value.int IntKind.i64 bNextCap), (Value.int IntKind.i64 bNextLimit), (Value.int IntKind.i64 bNextLow), (Value.int IntKind.i64 bNextHigh), (Value.slice ro110 bNextWeightsN rc111), (Value.int IntKind.i64 bNextRuleDown), (Value.int IntKind.i64 bNextRuleSleep), (Value.bool bWaits)])), (Value.bool Bool.false)])) = (Value.tuple (List.toArray [(Value.agg (List.toArray [(Value.int IntKind.i64 (selZ (bothB safe bWaits) bNextPage bActivePage)), (Value.int IntKind.i64 (selZ (bothB safe bWaits) bNextCap bActiveCap)), (Value.int IntKind.i64 (selZ (bothB safe bWaits) bNextLimit bActiveLimit)), (Value.int IntKind.i64 (selZ (bothB safe bWaits) bNextLow bActiveLow)), (Value.int IntKind.i64 (selZ (bothB safe bWaits) bNextHigh bActiveHigh)), (Value.slice ro030 (selN (bothB safe bWaits) bNextWeightsN bActiveWeightsN) rc031), (Value.int IntKind.i64 (selZ (bothB safe bWaits) bNextRuleDown bActiveRuleDown)), (Value.int IntKind.i64 (selZ (bothB safe bWaits) bNextRuleSleep bActiveRuleSleep)), (Value.int IntKind.i64 bNextPage), (Value.int IntKind.i64 bNextCap), (Value.int IntKind.i64 bNextLimit), (Value.int IntKind.i64 bNextLow), (Value.int IntKind.i64 bNextHigh), (Value.slice ro132 bNextWeightsN rc133), (Value.int IntKind.i64 bNextRuleDown), (Value.int IntKind.i64 bNextRuleSleep), (Value.bool (lessB bWaits safe))])), (Value.bool (bothB safe bWaits))])) ∧
   (((Bool.true = Bool.true ∧
   (ro08 = ro030 ∧
   (3 = 3 ∧
   (1 = 1 ∧
   (bActiveWeightsN = (selN (bothB safe bWaits) bNextWeightsN bActiveWeightsN) ∧
   (rc09 = rc031 ∧
   ((∀ i34 : Nat,
   (i34 < bActiveWeightsN →
   (Value.int IntKind.i64 (bActiveWeightsg02 i34)) = (Value.int IntKind.i64 (selZ (bothB safe bWaits) (bNextWeightsg0 i34) (bActiveWeightsg0 i34))))) ∧
   True))))))) ∧
   ((Bool.true = Bool.true ∧
   (ro110 = ro132 ∧
   (3 = 3 ∧
   (1 = 1 ∧
   (bNextWeightsN = bNextWeightsN ∧
   (rc111 = rc133 ∧
   ((∀ i35 : Nat,
   (i35 < bNextWeightsN →
   (Value.int IntKind.i64 (bNextWeightsg03 i35)) = (Value.int IntKind.i64 (bNextWeightsg0 i35)))) ∧
   True))))))) ∧
   True)) ∧
   Bool.true = Bool.true)))))))))))))))))))))))))))))) := by kernel_rfl
theorem stepS_any (bActivePage : Int) (bActiveCap : Int) (bActiveLimit : Int) (bActiveLow : Int) (bActiveHigh : Int) (bActiveWeightsO : Option Addr) (bActiveWeightsN bActiveWeightsC : Nat) (bActiveWeightsg0 : Nat → Int) (bActiveRuleDown : Int) (bActiveRuleSleep : Int) (bNextPage : Int) (bNextCap : Int) (bNextLimit : Int) (bNextLow : Int) (bNextHigh : Int) (bNextWeightsO : Option Addr) (bNextWeightsN bNextWeightsC : Nat) (bNextWeightsg0 : Nat → Int) (bNextRuleDown : Int) (bNextRuleSleep : Int) (bWaits : Bool) (safe : Bool) (w : World) (hrbActiveWeights : Row.sat w ⟨false, bActiveWeightsO, 0, 1, bActiveWeightsN, 0, [fun i => .int (bActiveWeightsg0 i)]⟩) (hrbNextWeights : Row.sat w ⟨false, bNextWeightsO, 0, 1, bNextWeightsN, 0, [fun i => .int (bNextWeightsg0 i)]⟩) (hpre : capC bActiveWeightsN ∧ capC bNextWeightsN) : Calls Try.prog 47 #[.agg #[.int .i64 bActivePage, .int .i64 bActiveCap, .int .i64 bActiveLimit, .int .i64 bActiveLow, .int .i64 bActiveHigh, .slice bActiveWeightsO bActiveWeightsN bActiveWeightsC, .int .i64 bActiveRuleDown, .int .i64 bActiveRuleSleep, .int .i64 bNextPage, .int .i64 bNextCap, .int .i64 bNextLimit, .int .i64 bNextLow, .int .i64 bNextHigh, .slice bNextWeightsO bNextWeightsN bNextWeightsC, .int .i64 bNextRuleDown, .int .i64 bNextRuleSleep, .bool bWaits], .bool safe] w fun e w' => ∃ (ro0 : Option Addr) (rc0 : Nat) (ro1 : Option Addr) (rc1 : Nat), e = .returned (.tuple #[.agg #[.int .i64 (selZ ((bothB safe bWaits)) bNextPage bActivePage), .int .i64 (selZ ((bothB safe bWaits)) bNextCap bActiveCap), .int .i64 (selZ ((bothB safe bWaits)) bNextLimit bActiveLimit), .int .i64 (selZ ((bothB safe bWaits)) bNextLow bActiveLow), .int .i64 (selZ ((bothB safe bWaits)) bNextHigh bActiveHigh), .slice ro0 (selN ((bothB safe bWaits)) bNextWeightsN bActiveWeightsN) rc0, .int .i64 (selZ ((bothB safe bWaits)) bNextRuleDown bActiveRuleDown), .int .i64 (selZ ((bothB safe bWaits)) bNextRuleSleep bActiveRuleSleep), .int .i64 (bNextPage), .int .i64 (bNextCap), .int .i64 (bNextLimit), .int .i64 (bNextLow), .int .i64 (bNextHigh), .slice ro1 (bNextWeightsN) rc1, .int .i64 (bNextRuleDown), .int .i64 (bNextRuleSleep), .bool ((lessB bWaits safe))], .bool ((bothB safe bWaits))]) ∧ HS ⟨w, fun _ => False⟩ [.row ⟨true, ro0, 3, 1, selN ((bothB safe bWaits)) bNextWeightsN bActiveWeightsN, rc0, [fun i => .int (selZ ((bothB safe bWaits)) (bNextWeightsg0 i) (bActiveWeightsg0 i))]⟩, .row ⟨true, ro1, 3, 1, bNextWeightsN, rc1, [fun i => .int (bNextWeightsg0 i)]⟩] w' := by
  refine fnB (tb := [(88, sCopyP), (87, sCopyB)]) ⟨sCopyP_ok_copyPS, sCopyB_ok_copyBS, trivial⟩ Try.func47 ((stepS_T bActivePage bActiveCap bActiveLimit bActiveLow bActiveHigh bActiveWeightsO bActiveWeightsN bActiveWeightsC bActiveWeightsg0 bActiveRuleDown bActiveRuleSleep bNextPage bNextCap bNextLimit bNextLow bNextHigh bNextWeightsO bNextWeightsN bNextWeightsC bNextWeightsg0 bNextRuleDown bNextRuleSleep bWaits safe).mpr ?_) (HS.rows (fun _ => False) [⟨false, bActiveWeightsO, 0, 1, bActiveWeightsN, 0, [fun i => .int (bActiveWeightsg0 i)]⟩, ⟨false, bNextWeightsO, 0, 1, bNextWeightsN, 0, [fun i => .int (bNextWeightsg0 i)]⟩] (by simp; exact ⟨hrbActiveWeights, hrbNextWeights⟩)) (fun v ch' w' ⟨ro0, rc0, ro1, rc1, hk⟩ hs => ⟨ro0, rc0, ro1, rc1, by rw [hk.1], hk.hs hs⟩)
  clear hrbActiveWeights hrbNextWeights
  cases safe <;> cases bWaits
  all_goals
    repeat' (first
      | with_reducible exact rfl
      | exact True.intro
      | assumption
      | refine And.intro ?_ ?_
      | apply Exists.intro
      | (intro h; exfalso; simp at h; done)
      | intro _
      | omega)
  all_goals simp [selZ, selN, bothB, lessB]
def sStep : Sm := fun args ch kk =>
  match args with
  | [.a (.agg [c0, c1, c2, c3, c4, .sl i0 a0 n0 d0, c5, c6, c7, c8, c9, c10, c11, .sl i1 a1 n1 d1, c12, c13, c14]), .a (.c c15)] =>
    match ch[i0]?, ch[i1]?, ints [c0, c1, c2, c3, c4, c5, c6, c7, c8, c9, c10, c11, c12, c13], bools [c14, c15] with
    | some (.row r0), some (.row r1), some [bActivePage, bActiveCap, bActiveLimit, bActiveLow, bActiveHigh, bActiveRuleDown, bActiveRuleSleep, bNextPage, bNextCap, bNextLimit, bNextLow, bNextHigh, bNextRuleDown, bNextRuleSleep], some [bWaits, safe] => ∃ bActiveWeightsg0 bNextWeightsg0 : Nat → Int, (a0 = r0.ao ∧ n0 = r0.n ∧ r0.fld = [fun i => .int (bActiveWeightsg0 i)] ∧ a1 = r1.ao ∧ n1 = r1.n ∧ r1.fld = [fun i => .int (bNextWeightsg0 i)] ∧ capC n0 ∧ capC n1) ∧ ∀ (ro0 : Option Addr) (rc0 : Nat), ∀ (ro1 : Option Addr) (rc1 : Nat), kk (.tup [.agg [.int (selZ ((bothB safe bWaits)) bNextPage bActivePage), .int (selZ ((bothB safe bWaits)) bNextCap bActiveCap), .int (selZ ((bothB safe bWaits)) bNextLimit bActiveLimit), .int (selZ ((bothB safe bWaits)) bNextLow bActiveLow), .int (selZ ((bothB safe bWaits)) bNextHigh bActiveHigh), .sl (ch.length) ro0 (selN ((bothB safe bWaits)) n1 n0) rc0, .int (selZ ((bothB safe bWaits)) bNextRuleDown bActiveRuleDown), .int (selZ ((bothB safe bWaits)) bNextRuleSleep bActiveRuleSleep), .int (bNextPage), .int (bNextCap), .int (bNextLimit), .int (bNextLow), .int (bNextHigh), .sl (ch.length + 1) ro1 (n1) rc1, .int (bNextRuleDown), .int (bNextRuleSleep), .bool ((lessB bWaits safe))], .c (.bool ((bothB safe bWaits)))]) (ch ++ [.row ⟨true, ro0, 3, 1, selN ((bothB safe bWaits)) n1 n0, rc0, [fun i => .int (selZ ((bothB safe bWaits)) (bNextWeightsg0 i) (bActiveWeightsg0 i))]⟩, .row ⟨true, ro1, 3, 1, n1, rc1, [fun i => .int (bNextWeightsg0 i)]⟩]) []
    | _, _, _, _ => False
  | _ => False
theorem sStep_ok {f : FuncId} (hc : ∀ args w, (callFunc f args).run Try.prog w = .ok (.enter f args) w) (h : ∀ (bActivePage : Int) (bActiveCap : Int) (bActiveLimit : Int) (bActiveLow : Int) (bActiveHigh : Int) (bActiveWeightsO : Option Addr) (bActiveWeightsN bActiveWeightsC : Nat) (bActiveWeightsg0 : Nat → Int) (bActiveRuleDown : Int) (bActiveRuleSleep : Int) (bNextPage : Int) (bNextCap : Int) (bNextLimit : Int) (bNextLow : Int) (bNextHigh : Int) (bNextWeightsO : Option Addr) (bNextWeightsN bNextWeightsC : Nat) (bNextWeightsg0 : Nat → Int) (bNextRuleDown : Int) (bNextRuleSleep : Int) (bWaits : Bool) (safe : Bool) (w : World), Row.sat w ⟨false, bActiveWeightsO, 0, 1, bActiveWeightsN, 0, [fun i => .int (bActiveWeightsg0 i)]⟩ → Row.sat w ⟨false, bNextWeightsO, 0, 1, bNextWeightsN, 0, [fun i => .int (bNextWeightsg0 i)]⟩ → capC bActiveWeightsN ∧ capC bNextWeightsN → Calls Try.prog f #[.agg #[.int .i64 bActivePage, .int .i64 bActiveCap, .int .i64 bActiveLimit, .int .i64 bActiveLow, .int .i64 bActiveHigh, .slice bActiveWeightsO bActiveWeightsN bActiveWeightsC, .int .i64 bActiveRuleDown, .int .i64 bActiveRuleSleep, .int .i64 bNextPage, .int .i64 bNextCap, .int .i64 bNextLimit, .int .i64 bNextLow, .int .i64 bNextHigh, .slice bNextWeightsO bNextWeightsN bNextWeightsC, .int .i64 bNextRuleDown, .int .i64 bNextRuleSleep, .bool bWaits], .bool safe] w fun e w' => ∃ (ro0 : Option Addr) (rc0 : Nat) (ro1 : Option Addr) (rc1 : Nat), e = .returned (.tuple #[.agg #[.int .i64 (selZ ((bothB safe bWaits)) bNextPage bActivePage), .int .i64 (selZ ((bothB safe bWaits)) bNextCap bActiveCap), .int .i64 (selZ ((bothB safe bWaits)) bNextLimit bActiveLimit), .int .i64 (selZ ((bothB safe bWaits)) bNextLow bActiveLow), .int .i64 (selZ ((bothB safe bWaits)) bNextHigh bActiveHigh), .slice ro0 (selN ((bothB safe bWaits)) bNextWeightsN bActiveWeightsN) rc0, .int .i64 (selZ ((bothB safe bWaits)) bNextRuleDown bActiveRuleDown), .int .i64 (selZ ((bothB safe bWaits)) bNextRuleSleep bActiveRuleSleep), .int .i64 (bNextPage), .int .i64 (bNextCap), .int .i64 (bNextLimit), .int .i64 (bNextLow), .int .i64 (bNextHigh), .slice ro1 (bNextWeightsN) rc1, .int .i64 (bNextRuleDown), .int .i64 (bNextRuleSleep), .bool ((lessB bWaits safe))], .bool ((bothB safe bWaits))]) ∧ HS ⟨w, fun _ => False⟩ [.row ⟨true, ro0, 3, 1, selN ((bothB safe bWaits)) bNextWeightsN bActiveWeightsN, rc0, [fun i => .int (selZ ((bothB safe bWaits)) (bNextWeightsg0 i) (bActiveWeightsg0 i))]⟩, .row ⟨true, ro1, 3, 1, bNextWeightsN, rc1, [fun i => .int (bNextWeightsg0 i)]⟩] w') : SmOK Try.prog f sStep := by
  refine smN hc fun args ch kk w X h0 hs => ?_
  unfold sStep at h0
  split at h0
  · rename_i c0 c1 c2 c3 c4 i0 a0 n0 d0 c5 c6 c7 c8 c9 c10 c11 i1 a1 n1 d1 c12 c13 c14 c15
    split at h0
    · rename_i r0 r1 bActivePage bActiveCap bActiveLimit bActiveLow bActiveHigh bActiveRuleDown bActiveRuleSleep bNextPage bNextCap bNextLimit bNextLow bNextHigh bNextRuleDown bNextRuleSleep bWaits safe hr0 hr1 hi hb
      obtain ⟨bActiveWeightsg0, bNextWeightsg0, ⟨rfl, rfl, hf0, rfl, rfl, hf1, hpre⟩, h0⟩ := h0
      obtain ⟨ec0, hi⟩ := ints_cons hi
      obtain ⟨ec1, hi⟩ := ints_cons hi
      obtain ⟨ec2, hi⟩ := ints_cons hi
      obtain ⟨ec3, hi⟩ := ints_cons hi
      obtain ⟨ec4, hi⟩ := ints_cons hi
      obtain ⟨ec5, hi⟩ := ints_cons hi
      obtain ⟨ec6, hi⟩ := ints_cons hi
      obtain ⟨ec7, hi⟩ := ints_cons hi
      obtain ⟨ec8, hi⟩ := ints_cons hi
      obtain ⟨ec9, hi⟩ := ints_cons hi
      obtain ⟨ec10, hi⟩ := ints_cons hi
      obtain ⟨ec11, hi⟩ := ints_cons hi
      obtain ⟨ec12, hi⟩ := ints_cons hi
      obtain ⟨ec13, hi⟩ := ints_cons hi
      obtain ⟨ec14, hb⟩ := bools_cons hb
      obtain ⟨ec15, hb⟩ := bools_cons hb
      refine Calls.mono (?_ : Calls Try.prog f _ w (fun e w' => ∃ (ro0 : Option Addr) (rc0 : Nat) (ro1 : Option Addr) (rc1 : Nat), e = .returned (.tuple #[.agg #[.int .i64 (selZ ((bothB safe bWaits)) bNextPage bActivePage), .int .i64 (selZ ((bothB safe bWaits)) bNextCap bActiveCap), .int .i64 (selZ ((bothB safe bWaits)) bNextLimit bActiveLimit), .int .i64 (selZ ((bothB safe bWaits)) bNextLow bActiveLow), .int .i64 (selZ ((bothB safe bWaits)) bNextHigh bActiveHigh), .slice ro0 (selN ((bothB safe bWaits)) r1.n r0.n) rc0, .int .i64 (selZ ((bothB safe bWaits)) bNextRuleDown bActiveRuleDown), .int .i64 (selZ ((bothB safe bWaits)) bNextRuleSleep bActiveRuleSleep), .int .i64 (bNextPage), .int .i64 (bNextCap), .int .i64 (bNextLimit), .int .i64 (bNextLow), .int .i64 (bNextHigh), .slice ro1 (r1.n) rc1, .int .i64 (bNextRuleDown), .int .i64 (bNextRuleSleep), .bool ((lessB bWaits safe))], .bool ((bothB safe bWaits))]) ∧ HS ⟨w, fun _ => False⟩ [.row ⟨true, ro0, 3, 1, selN ((bothB safe bWaits)) r1.n r0.n, rc0, [fun i => .int (selZ ((bothB safe bWaits)) (bNextWeightsg0 i) (bActiveWeightsg0 i))]⟩, .row ⟨true, ro1, 3, 1, r1.n, rc1, [fun i => .int (bNextWeightsg0 i)]⟩] w')) (fun e w' ⟨ro0, rc0, ro1, rc1, he, hs'⟩ => ⟨_, _, ?_, hs', rfl, h0 ro0 rc0 ro1 rc1⟩)
      · simp only [List.map_cons, List.map_nil, den_a, den_c, SA.den, den_sl, ec0, ec1, ec2, ec3, ec4, ec5, ec6, ec7, ec8, ec9, ec10, ec11, ec12, ec13, ec14, ec15]
        exact h bActivePage bActiveCap bActiveLimit bActiveLow bActiveHigh r0.ao r0.n d0 bActiveWeightsg0 bActiveRuleDown bActiveRuleSleep bNextPage bNextCap bNextLimit bNextLow bNextHigh r1.ao r1.n d1 bNextWeightsg0 bNextRuleDown bNextRuleSleep bWaits safe w (Row.seenAs (hs.sat i0 _ hr0) hf0 rfl) (Row.seenAs (hs.sat i1 _ hr1) hf1 rfl) hpre
      · rw [he]
        rfl
    · exact h0.elim
  · exact h0.elim
theorem sStep_ok_stepI : SmOK Try.prog 49 sStep := sStep_ok Try.call49 (fun bActivePage bActiveCap bActiveLimit bActiveLow bActiveHigh bActiveWeightsO bActiveWeightsN bActiveWeightsC bActiveWeightsg0 bActiveRuleDown bActiveRuleSleep bNextPage bNextCap bNextLimit bNextLow bNextHigh bNextWeightsO bNextWeightsN bNextWeightsC bNextWeightsg0 bNextRuleDown bNextRuleSleep bWaits safe w h0 h1 hp => stepI_any bActivePage bActiveCap bActiveLimit bActiveLow bActiveHigh bActiveWeightsO bActiveWeightsN bActiveWeightsC bActiveWeightsg0 bActiveRuleDown bActiveRuleSleep bNextPage bNextCap bNextLimit bNextLow bNextHigh bNextWeightsO bNextWeightsN bNextWeightsC bNextWeightsg0 bNextRuleDown bNextRuleSleep bWaits safe w h0 h1 hp)
theorem sStep_ok_stepS : SmOK Try.prog 47 sStep := sStep_ok Try.call47 (fun bActivePage bActiveCap bActiveLimit bActiveLow bActiveHigh bActiveWeightsO bActiveWeightsN bActiveWeightsC bActiveWeightsg0 bActiveRuleDown bActiveRuleSleep bNextPage bNextCap bNextLimit bNextLow bNextHigh bNextWeightsO bNextWeightsN bNextWeightsC bNextWeightsg0 bNextRuleDown bNextRuleSleep bWaits safe w h0 h1 hp => stepS_any bActivePage bActiveCap bActiveLimit bActiveLow bActiveHigh bActiveWeightsO bActiveWeightsN bActiveWeightsC bActiveWeightsg0 bActiveRuleDown bActiveRuleSleep bNextPage bNextCap bNextLimit bNextLow bNextHigh bNextWeightsO bNextWeightsN bNextWeightsC bNextWeightsg0 bNextRuleDown bNextRuleSleep bWaits safe w h0 h1 hp)
end Go.Proofs.Ytlkklplnomecgaa

/-
  Boxes made and asked.
-/
import Derived.Test.YtlkklplnomecgaaSxPol3
namespace Go.Proofs.Ytlkklplnomecgaa
set_option linter.unusedVariables false
set_option linter.unusedSimpArgs false
open Go.RowKit
set_option maxRecDepth 100000
set_option maxHeartbeats 8000000

def ifZ (b : Bool) (n : Int) : Int := if b = true then n else 0
def orB (x y : Bool) : Bool := x || y
theorem bnewI_T (pPage : Int) (pCap : Int) (pLimit : Int) (pLow : Int) (pHigh : Int) (pWeightsO : Option Addr) (pWeightsN pWeightsC : Nat) (pWeightsg0 : Nat → Int) (pRuleDown : Int) (pRuleSleep : Int) : (exFn Try.prog {tb := [(42, sPolOk), (90, sCopyP)]} 400 Try.f54 ([.a (.agg [.int pPage, .int pCap, .int pLimit, .int pLow, .int pHigh, .sl 0 pWeightsO pWeightsN pWeightsC, .int pRuleDown, .int pRuleSleep])]) ([.row ⟨false, pWeightsO, 0, 1, pWeightsN, 0, [fun i => .int (pWeightsg0 i)]⟩]) (fun v ch => ∃ (ro0 : Option Addr) (rc0 : Nat) (ro1 : Option Addr) (rc1 : Nat), OutR v ch (.tuple #[.agg #[.int .i64 (ifZ (polB pPage pCap pLimit pLow pHigh pWeightsN pWeightsg0 pRuleDown pRuleSleep) pPage), .int .i64 (ifZ (polB pPage pCap pLimit pLow pHigh pWeightsN pWeightsg0 pRuleDown pRuleSleep) pCap), .int .i64 (ifZ (polB pPage pCap pLimit pLow pHigh pWeightsN pWeightsg0 pRuleDown pRuleSleep) pLimit), .int .i64 (ifZ (polB pPage pCap pLimit pLow pHigh pWeightsN pWeightsg0 pRuleDown pRuleSleep) pLow), .int .i64 (ifZ (polB pPage pCap pLimit pLow pHigh pWeightsN pWeightsg0 pRuleDown pRuleSleep) pHigh), .slice ro0 (ifN (polB pPage pCap pLimit pLow pHigh pWeightsN pWeightsg0 pRuleDown pRuleSleep) pWeightsN) rc0, .int .i64 (ifZ (polB pPage pCap pLimit pLow pHigh pWeightsN pWeightsg0 pRuleDown pRuleSleep) pRuleDown), .int .i64 (ifZ (polB pPage pCap pLimit pLow pHigh pWeightsN pWeightsg0 pRuleDown pRuleSleep) pRuleSleep), .int .i64 (ifZ (polB pPage pCap pLimit pLow pHigh pWeightsN pWeightsg0 pRuleDown pRuleSleep) pPage), .int .i64 (ifZ (polB pPage pCap pLimit pLow pHigh pWeightsN pWeightsg0 pRuleDown pRuleSleep) pCap), .int .i64 (ifZ (polB pPage pCap pLimit pLow pHigh pWeightsN pWeightsg0 pRuleDown pRuleSleep) pLimit), .int .i64 (ifZ (polB pPage pCap pLimit pLow pHigh pWeightsN pWeightsg0 pRuleDown pRuleSleep) pLow), .int .i64 (ifZ (polB pPage pCap pLimit pLow pHigh pWeightsN pWeightsg0 pRuleDown pRuleSleep) pHigh), .slice ro1 (ifN (polB pPage pCap pLimit pLow pHigh pWeightsN pWeightsg0 pRuleDown pRuleSleep) pWeightsN) rc1, .int .i64 (ifZ (polB pPage pCap pLimit pLow pHigh pWeightsN pWeightsg0 pRuleDown pRuleSleep) pRuleDown), .int .i64 (ifZ (polB pPage pCap pLimit pLow pHigh pWeightsN pWeightsg0 pRuleDown pRuleSleep) pRuleSleep), .bool (false)], .bool (polB pPage pCap pLimit pLow pHigh pWeightsN pWeightsg0 pRuleDown pRuleSleep)]) [.row ⟨true, ro0, 3, 1, ifN (polB pPage pCap pLimit pLow pHigh pWeightsN pWeightsg0 pRuleDown pRuleSleep) pWeightsN, rc0, [fun i => .int (pWeightsg0 i)]⟩, .row ⟨true, ro1, 3, 1, ifN (polB pPage pCap pLimit pLow pHigh pWeightsN pWeightsg0 pRuleDown pRuleSleep) pWeightsN, rc1, [fun i => .int (pWeightsg0 i)]⟩])) = (
  (∀ b0 : Nat,
  (∀ b1 : Nat,
  (b0 = b0 ∧
  (Exists (fun (pWeightsg02 : (Nat →
  Int)) => ((pWeightsO = pWeightsO ∧
  (pWeightsN = pWeightsN ∧
  ([(fun (i3 : Nat) => (SC.int (pWeightsg0 i3)))] = [(fun (i4 : Nat) => (SC.int (pWeightsg02 i4)))] ∧
  (capC pWeightsN)))) ∧
  (((!(polB pPage pCap pLimit pLow pHigh pWeightsN pWeightsg02 pRuleDown pRuleSleep)) = Bool.true →
  (b1 = b1 ∧
   (b1 = b1 ∧
   (Exists (fun (ro05 : (Option Addr)) => (Exists (fun (rc06 : Nat) => (Exists (fun (ro17 : (Option Addr)) => (Exists (fun (rc18 : Nat) => ((Value.tuple (List.toArray [(Value.agg (List.toArray [(Value.int IntKind.i64 (0 : Int)), (Value.int IntKind.i64 (0 : Int)), (Value.int IntKind.i64 (0 : Int)), (Value.int IntKind.i64 (0 : Int)), (Value.int IntKind.i64 (0 : Int)), (Value.slice Option.none 0 0), (Value.int IntKind.i64 (0 : Int)), (Value.int IntKind.i64 (0 : Int)), (Value.int IntKind.i64 (0 : Int)), (Value.int IntKind.i64 (0 : Int)), (Value.int IntKind.i64 (0 : Int)), (Value.int IntKind.i64 (0 : Int)), (Value.int IntKind.i64 (0 : Int)), (Value.slice Option.none 0 0), (Value.int IntKind.i64 (0 : Int)), (Value.int IntKind.i64 (0 : Int)), (Value.bool Bool.false)])), (Value.bool Bool.false)])) = (Value.tuple (List.toArray [(Value.agg (List.toArray [(Value.int IntKind.i64 (ifZ (polB pPage pCap pLimit pLow pHigh pWeightsN pWeightsg0 pRuleDown pRuleSleep) pPage)), (Value.int IntKind.i64 (ifZ (polB pPage pCap pLimit pLow pHigh pWeightsN pWeightsg0 pRuleDown pRuleSleep) pCap)), (Value.int IntKind.i64 (ifZ (polB pPage pCap pLimit pLow pHigh pWeightsN pWeightsg0 pRuleDown pRuleSleep) pLimit)), (Value.int IntKind.i64 (ifZ (polB pPage pCap pLimit pLow pHigh pWeightsN pWeightsg0 pRuleDown pRuleSleep) pLow)), (Value.int IntKind.i64 (ifZ (polB pPage pCap pLimit pLow pHigh pWeightsN pWeightsg0 pRuleDown pRuleSleep) pHigh)), (Value.slice ro05 (ifN (polB pPage pCap pLimit pLow pHigh pWeightsN pWeightsg0 pRuleDown pRuleSleep) pWeightsN) rc06), (Value.int IntKind.i64 (ifZ (polB pPage pCap pLimit pLow pHigh pWeightsN pWeightsg0 pRuleDown pRuleSleep) pRuleDown)), (Value.int IntKind.i64 (ifZ (polB pPage pCap pLimit pLow pHigh pWeightsN pWeightsg0 pRuleDown pRuleSleep) pRuleSleep)), (Value.int IntKind.i64 (ifZ (polB pPage pCap pLimit pLow pHigh pWeightsN pWeightsg0 pRuleDown pRuleSleep) pPage)), (Value.int IntKind.i64 (ifZ (polB pPage pCap pLimit pLow pHigh pWeightsN pWeightsg0 pRuleDown pRuleSleep) pCap)), (Value.int IntKind.i64 (ifZ (polB pPage pCap pLimit pLow pHigh pWeightsN pWeightsg0 pRuleDown pRuleSleep) pLimit)), (Value.int IntKind.i64 (ifZ (polB pPage pCap pLimit pLow pHigh pWeightsN pWeightsg0 pRuleDown pRuleSleep) pLow)), (Value.int IntKind.i64 (ifZ (polB pPage pCap pLimit pLow pHigh pWeightsN pWeightsg0 pRuleDown pRuleSleep) pHigh)), (Value.slice ro17 (ifN (polB pPage pCap pLimit pLow pHigh pWeightsN pWeightsg0 pRuleDown pRuleSleep) pWeightsN) rc18), (Value.int IntKind.i64 (ifZ (polB pPage pCap pLimit pLow pHigh pWeightsN pWeightsg0 pRuleDown pRuleSleep) pRuleDown)), (Value.int IntKind.i64 (ifZ (polB pPage pCap pLimit pLow pHigh pWeightsN pWeightsg0 pRuleDown pRuleSleep) pRuleSleep)), (Value.bool Bool.false)])), (Value.bool (polB pPage pCap pLimit pLow pHigh pWeightsN pWeightsg0 pRuleDown pRuleSleep))])) ∧
   (((Bool.true = Bool.true ∧
   (Option.none = ro05 ∧
   (0 = (ifN (polB pPage pCap pLimit pLow pHigh pWeightsN pWeightsg0 pRuleDown pRuleSleep) pWeightsN) ∧
   (0 = rc06 ∧
   Bool.true = Bool.true)))) ∧
   ((Bool.true = Bool.true ∧
   (Option.none = ro17 ∧
   (0 = (ifN (polB pPage pCap pLimit pLow pHigh pWeightsN pWeightsg0 pRuleDown pRuleSleep) pWeightsN) ∧
   (0 = rc18 ∧
   Bool.true = Bool.true)))) ∧
   True)) ∧
   Bool.true = Bool.true))))))))))))) ∧
  ((!(polB pPage pCap pLimit pLow pHigh pWeightsN pWeightsg02 pRuleDown pRuleSleep)) = Bool.false →
  (b0 = b0 ∧
   (b0 = b0 ∧
   (Exists (fun (pWeightsg09 : (Nat →
   Int)) => ((pWeightsO = pWeightsO ∧
   (pWeightsN = pWeightsN ∧
   ([(fun (i10 : Nat) => (SC.int (pWeightsg0 i10)))] = [(fun (i11 : Nat) => (SC.int (pWeightsg09 i11)))] ∧
   (capC pWeightsN)))) ∧
   (∀ ro012 : (Option Addr),
   (∀ rc013 : Nat,
   (True ∧
   (Exists (fun (pWeightsg014 : (Nat →
   Int)) => ((pWeightsO = pWeightsO ∧
   (pWeightsN = pWeightsN ∧
   ([(fun (i15 : Nat) => (SC.int (pWeightsg0 i15)))] = [(fun (i16 : Nat) => (SC.int (pWeightsg014 i16)))] ∧
   (capC pWeightsN)))) ∧
   (∀ ro017 : (Option Addr),
   (∀ rc018 : Nat,
   (True ∧
   (b1 = b1 ∧
   (True ∧
   (b1 = b1 ∧
   (Exists (fun (ro019 : (Option Addr)) => (Exists (fun (rc020 : Nat) => (Exists (fun (ro121 : (Option Addr)) => (Exists (fun (rc122 : Nat) => ((Value.tuple (List.toArray [(Value.agg (List.toArray [(Value.int IntKind.i64 pPage), (Value.int IntKind.i64 pCap), (Value.int IntKind.i64 pLimit), (Value.int IntKind.i64 pLow), (Value.int IntKind.i64 pHigh), (Value.slice ro012 pWeightsN rc013), (Value.int IntKind.i64 pRuleDown), (Value.int IntKind.i64 pRuleSleep), (Value.int IntKind.i64 pPage), (Value.int IntKind.i64 pCap), (Value.int IntKind.i64 pLimit), (Value.int IntKind.i64 pLow), (Value.int IntKind.i64 pHigh), (Value.slice ro017 pWeightsN rc018), (Value.int IntKind.i64 pRuleDown), (Value.int IntKind.i64 pRuleSleep), (Value.bool Bool.false)])), (Value.bool Bool.true)])) = (Value.tuple (List.toArray [(Value.agg (List.toArray [(Value.int IntKind.i64 (ifZ (polB pPage pCap pLimit pLow pHigh pWeightsN pWeightsg0 pRuleDown pRuleSleep) pPage)), (Value.int IntKind.i64 (ifZ (polB pPage pCap pLimit pLow pHigh pWeightsN pWeightsg0 pRuleDown pRuleSleep) pCap)), (Value.int IntKind.i64 (ifZ (polB pPage pCap pLimit pLow pHigh pWeightsN pWeightsg0 pRuleDown pRuleSleep) pLimit)), (Value.int IntKind.i64 (ifZ (polB pPage pCap pLimit pLow pHigh pWeightsN pWeightsg0 pRuleDown pRuleSleep) pLow)), (Value.int IntKind.i64 (ifZ (polB pPage pCap pLimit pLow pHigh pWeightsN pWeightsg0 pRuleDown pRuleSleep) pHigh)), (Value.slice ro019 (ifN (polB pPage pCap pLimit pLow pHigh pWeightsN pWeightsg0 pRuleDown pRuleSleep) pWeightsN) rc020), (Value.int IntKind.i64 (ifZ (polB pPage pCap pLimit pLow pHigh pWeightsN pWeightsg0 pRuleDown pRuleSleep) pRuleDown)), (Value.int IntKind.i64 (ifZ (polB pPage pCap pLimit pLow pHigh pWeightsN pWeightsg0 pRuleDown pRuleSleep) pRuleSleep)), (Value.int IntKind.i64 (ifZ (polB pPage pCap pLimit pLow pHigh pWeightsN pWeightsg0 pRuleDown pRuleSleep) pPage)), (Value.int IntKind.i64 (ifZ (polB pPage pCap pLimit pLow pHigh pWeightsN pWeightsg0 pRuleDown pRuleSleep) pCap)), (Value.int IntKind.i64 (ifZ (polB pPage pCap pLimit pLow pHigh pWeightsN pWeightsg0 pRuleDown pRuleSleep) pLimit)), (Value.int IntKind.i64 (ifZ (polB pPage pCap pLimit pLow pHigh pWeightsN pWeightsg0 pRuleDown pRuleSleep) pLow)), (Value.int IntKind.i64 (ifZ (polB pPage pCap pLimit pLow pHigh pWeightsN pWeightsg0 pRuleDown pRuleSleep) pHigh)), (Value.slice ro121 (ifN (polB pPage pCap pLimit pLow pHigh pWeightsN pWeightsg0 pRuleDown pRuleSleep) pWeightsN) rc122), (Value.int IntKind.i64 (ifZ (polB pPage pCap pLimit pLow pHigh pWeightsN pWeightsg0 pRuleDown pRuleSleep) pRuleDown)), (Value.int IntKind.i64 (ifZ (polB pPage pCap pLimit pLow pHigh pWeightsN pWeightsg0 pRuleDown pRuleSleep) pRuleSleep)), (Value.bool Bool.false)])), (Value.bool (polB pPage pCap pLimit pLow pHigh pWeightsN pWeightsg0 pRuleDown pRuleSleep))])) ∧
   (((Bool.true = Bool.true ∧
   (ro012 = ro019 ∧
   (3 = 3 ∧
   (1 = 1 ∧
   (pWeightsN = (ifN (polB pPage pCap pLimit pLow pHigh pWeightsN pWeightsg0 pRuleDown pRuleSleep) pWeightsN) ∧
   (rc013 = rc020 ∧
   ((∀ i23 : Nat,
   (i23 < pWeightsN →
   (Value.int IntKind.i64 (pWeightsg09 i23)) = (Value.int IntKind.i64 (pWeightsg0 i23)))) ∧
   True))))))) ∧
   ((Bool.true = Bool.true ∧
   (ro017 = ro121 ∧
   (3 = 3 ∧
   (1 = 1 ∧
   (pWeightsN = (ifN (polB pPage pCap pLimit pLow pHigh pWeightsN pWeightsg0 pRuleDown pRuleSleep) pWeightsN) ∧
   (rc018 = rc122 ∧
   ((∀ i24 : Nat,
   (i24 < pWeightsN →
   (Value.int IntKind.i64 (pWeightsg014 i24)) = (Value.int IntKind.i64 (pWeightsg0 i24)))) ∧
   True))))))) ∧
   True)) ∧
   Bool.true = Bool.true)))))))))))))))))))))))))))))))))))) := by kernel_rfl
theorem bnewI_any (pPage : Int) (pCap : Int) (pLimit : Int) (pLow : Int) (pHigh : Int) (pWeightsO : Option Addr) (pWeightsN pWeightsC : Nat) (pWeightsg0 : Nat → Int) (pRuleDown : Int) (pRuleSleep : Int) (w : World) (hrpWeights : Row.sat w ⟨false, pWeightsO, 0, 1, pWeightsN, 0, [fun i => .int (pWeightsg0 i)]⟩) (hpre : capC pWeightsN) : Calls Try.prog 54 #[.agg #[.int .i64 pPage, .int .i64 pCap, .int .i64 pLimit, .int .i64 pLow, .int .i64 pHigh, .slice pWeightsO pWeightsN pWeightsC, .int .i64 pRuleDown, .int .i64 pRuleSleep]] w fun e w' => ∃ (ro0 : Option Addr) (rc0 : Nat) (ro1 : Option Addr) (rc1 : Nat), e = .returned (.tuple #[.agg #[.int .i64 (ifZ (polB pPage pCap pLimit pLow pHigh pWeightsN pWeightsg0 pRuleDown pRuleSleep) pPage), .int .i64 (ifZ (polB pPage pCap pLimit pLow pHigh pWeightsN pWeightsg0 pRuleDown pRuleSleep) pCap), .int .i64 (ifZ (polB pPage pCap pLimit pLow pHigh pWeightsN pWeightsg0 pRuleDown pRuleSleep) pLimit), .int .i64 (ifZ (polB pPage pCap pLimit pLow pHigh pWeightsN pWeightsg0 pRuleDown pRuleSleep) pLow), .int .i64 (ifZ (polB pPage pCap pLimit pLow pHigh pWeightsN pWeightsg0 pRuleDown pRuleSleep) pHigh), .slice ro0 (ifN (polB pPage pCap pLimit pLow pHigh pWeightsN pWeightsg0 pRuleDown pRuleSleep) pWeightsN) rc0, .int .i64 (ifZ (polB pPage pCap pLimit pLow pHigh pWeightsN pWeightsg0 pRuleDown pRuleSleep) pRuleDown), .int .i64 (ifZ (polB pPage pCap pLimit pLow pHigh pWeightsN pWeightsg0 pRuleDown pRuleSleep) pRuleSleep), .int .i64 (ifZ (polB pPage pCap pLimit pLow pHigh pWeightsN pWeightsg0 pRuleDown pRuleSleep) pPage), .int .i64 (ifZ (polB pPage pCap pLimit pLow pHigh pWeightsN pWeightsg0 pRuleDown pRuleSleep) pCap), .int .i64 (ifZ (polB pPage pCap pLimit pLow pHigh pWeightsN pWeightsg0 pRuleDown pRuleSleep) pLimit), .int .i64 (ifZ (polB pPage pCap pLimit pLow pHigh pWeightsN pWeightsg0 pRuleDown pRuleSleep) pLow), .int .i64 (ifZ (polB pPage pCap pLimit pLow pHigh pWeightsN pWeightsg0 pRuleDown pRuleSleep) pHigh), .slice ro1 (ifN (polB pPage pCap pLimit pLow pHigh pWeightsN pWeightsg0 pRuleDown pRuleSleep) pWeightsN) rc1, .int .i64 (ifZ (polB pPage pCap pLimit pLow pHigh pWeightsN pWeightsg0 pRuleDown pRuleSleep) pRuleDown), .int .i64 (ifZ (polB pPage pCap pLimit pLow pHigh pWeightsN pWeightsg0 pRuleDown pRuleSleep) pRuleSleep), .bool (false)], .bool (polB pPage pCap pLimit pLow pHigh pWeightsN pWeightsg0 pRuleDown pRuleSleep)]) ∧ HS ⟨w, fun _ => False⟩ [.row ⟨true, ro0, 3, 1, ifN (polB pPage pCap pLimit pLow pHigh pWeightsN pWeightsg0 pRuleDown pRuleSleep) pWeightsN, rc0, [fun i => .int (pWeightsg0 i)]⟩, .row ⟨true, ro1, 3, 1, ifN (polB pPage pCap pLimit pLow pHigh pWeightsN pWeightsg0 pRuleDown pRuleSleep) pWeightsN, rc1, [fun i => .int (pWeightsg0 i)]⟩] w' := by
  refine fnB (tb := [(42, sPolOk), (90, sCopyP)]) ⟨sPolOk_ok_polI, sCopyP_ok_copyPI, trivial⟩ Try.func54 ((bnewI_T pPage pCap pLimit pLow pHigh pWeightsO pWeightsN pWeightsC pWeightsg0 pRuleDown pRuleSleep).mpr ?_) (HS.rows (fun _ => False) [⟨false, pWeightsO, 0, 1, pWeightsN, 0, [fun i => .int (pWeightsg0 i)]⟩] (by simp; exact hrpWeights)) (fun v ch' w' ⟨ro0, rc0, ro1, rc1, hk⟩ hs => ⟨ro0, rc0, ro1, rc1, by rw [hk.1], hk.hs hs⟩)
  clear hrpWeights
  cases hp : polB pPage pCap pLimit pLow pHigh pWeightsN pWeightsg0 pRuleDown pRuleSleep
  all_goals
    repeat' (first
      | with_reducible exact rfl
      | exact True.intro
      | with_reducible assumption
      | refine And.intro ?_ ?_
      | apply Exists.intro
      | (intro h; exfalso; simp [hp] at h; done)
      | (intro h; exfalso; simp [hp] at h; omega)
      | intro _
      | omega
      | (simp; omega))
  all_goals (try simp_all [ifN, ifZ, selZ, selN, orB])
theorem bnewS_T (pPage : Int) (pCap : Int) (pLimit : Int) (pLow : Int) (pHigh : Int) (pWeightsO : Option Addr) (pWeightsN pWeightsC : Nat) (pWeightsg0 : Nat → Int) (pRuleDown : Int) (pRuleSleep : Int) : (exFn Try.prog {tb := [(40, sPolOk), (88, sCopyP)]} 400 Try.f53 ([.a (.agg [.int pPage, .int pCap, .int pLimit, .int pLow, .int pHigh, .sl 0 pWeightsO pWeightsN pWeightsC, .int pRuleDown, .int pRuleSleep])]) ([.row ⟨false, pWeightsO, 0, 1, pWeightsN, 0, [fun i => .int (pWeightsg0 i)]⟩]) (fun v ch => ∃ (ro0 : Option Addr) (rc0 : Nat) (ro1 : Option Addr) (rc1 : Nat), OutR v ch (.tuple #[.agg #[.int .i64 (ifZ (polB pPage pCap pLimit pLow pHigh pWeightsN pWeightsg0 pRuleDown pRuleSleep) pPage), .int .i64 (ifZ (polB pPage pCap pLimit pLow pHigh pWeightsN pWeightsg0 pRuleDown pRuleSleep) pCap), .int .i64 (ifZ (polB pPage pCap pLimit pLow pHigh pWeightsN pWeightsg0 pRuleDown pRuleSleep) pLimit), .int .i64 (ifZ (polB pPage pCap pLimit pLow pHigh pWeightsN pWeightsg0 pRuleDown pRuleSleep) pLow), .int .i64 (ifZ (polB pPage pCap pLimit pLow pHigh pWeightsN pWeightsg0 pRuleDown pRuleSleep) pHigh), .slice ro0 (ifN (polB pPage pCap pLimit pLow pHigh pWeightsN pWeightsg0 pRuleDown pRuleSleep) pWeightsN) rc0, .int .i64 (ifZ (polB pPage pCap pLimit pLow pHigh pWeightsN pWeightsg0 pRuleDown pRuleSleep) pRuleDown), .int .i64 (ifZ (polB pPage pCap pLimit pLow pHigh pWeightsN pWeightsg0 pRuleDown pRuleSleep) pRuleSleep), .int .i64 (ifZ (polB pPage pCap pLimit pLow pHigh pWeightsN pWeightsg0 pRuleDown pRuleSleep) pPage), .int .i64 (ifZ (polB pPage pCap pLimit pLow pHigh pWeightsN pWeightsg0 pRuleDown pRuleSleep) pCap), .int .i64 (ifZ (polB pPage pCap pLimit pLow pHigh pWeightsN pWeightsg0 pRuleDown pRuleSleep) pLimit), .int .i64 (ifZ (polB pPage pCap pLimit pLow pHigh pWeightsN pWeightsg0 pRuleDown pRuleSleep) pLow), .int .i64 (ifZ (polB pPage pCap pLimit pLow pHigh pWeightsN pWeightsg0 pRuleDown pRuleSleep) pHigh), .slice ro1 (ifN (polB pPage pCap pLimit pLow pHigh pWeightsN pWeightsg0 pRuleDown pRuleSleep) pWeightsN) rc1, .int .i64 (ifZ (polB pPage pCap pLimit pLow pHigh pWeightsN pWeightsg0 pRuleDown pRuleSleep) pRuleDown), .int .i64 (ifZ (polB pPage pCap pLimit pLow pHigh pWeightsN pWeightsg0 pRuleDown pRuleSleep) pRuleSleep), .bool (false)], .bool (polB pPage pCap pLimit pLow pHigh pWeightsN pWeightsg0 pRuleDown pRuleSleep)]) [.row ⟨true, ro0, 3, 1, ifN (polB pPage pCap pLimit pLow pHigh pWeightsN pWeightsg0 pRuleDown pRuleSleep) pWeightsN, rc0, [fun i => .int (pWeightsg0 i)]⟩, .row ⟨true, ro1, 3, 1, ifN (polB pPage pCap pLimit pLow pHigh pWeightsN pWeightsg0 pRuleDown pRuleSleep) pWeightsN, rc1, [fun i => .int (pWeightsg0 i)]⟩])) = (
  (∀ b0 : Nat,
  (∀ b1 : Nat,
  (b0 = b0 ∧
  (Exists (fun (pWeightsg02 : (Nat →
  Int)) => ((pWeightsO = pWeightsO ∧
  (pWeightsN = pWeightsN ∧
  ([(fun (i3 : Nat) => (SC.int (pWeightsg0 i3)))] = [(fun (i4 : Nat) => (SC.int (pWeightsg02 i4)))] ∧
  (capC pWeightsN)))) ∧
  (((!(polB pPage pCap pLimit pLow pHigh pWeightsN pWeightsg02 pRuleDown pRuleSleep)) = Bool.true →
  (b1 = b1 ∧
   (b1 = b1 ∧
   (Exists (fun (ro05 : (Option Addr)) => (Exists (fun (rc06 : Nat) => (Exists (fun (ro17 : (Option Addr)) => (Exists (fun (rc18 : Nat) => ((Value.tuple (List.toArray [(Value.agg (List.toArray [(Value.int IntKind.i64 (0 : Int)), (Value.int IntKind.i64 (0 : Int)), (Value.int IntKind.i64 (0 : Int)), (Value.int IntKind.i64 (0 : Int)), (Value.int IntKind.i64 (0 : Int)), (Value.slice Option.none 0 0), (Value.int IntKind.i64 (0 : Int)), (Value.int IntKind.i64 (0 : Int)), (Value.int IntKind.i64 (0 : Int)), (Value.int IntKind.i64 (0 : Int)), (Value.int IntKind.i64 (0 : Int)), (Value.int IntKind.i64 (0 : Int)), (Value.int IntKind.i64 (0 : Int)), (Value.slice Option.none 0 0), (Value.int IntKind.i64 (0 : Int)), (Value.int IntKind.i64 (0 : Int)), (Value.bool Bool.false)])), (Value.bool Bool.false)])) = (Value.tuple (List.toArray [(Value.agg (List.toArray [(Value.int IntKind.i64 (ifZ (polB pPage pCap pLimit pLow pHigh pWeightsN pWeightsg0 pRuleDown pRuleSleep) pPage)), (Value.int IntKind.i64 (ifZ (polB pPage pCap pLimit pLow pHigh pWeightsN pWeightsg0 pRuleDown pRuleSleep) pCap)), (Value.int IntKind.i64 (ifZ (polB pPage pCap pLimit pLow pHigh pWeightsN pWeightsg0 pRuleDown pRuleSleep) pLimit)), (Value.int IntKind.i64 (ifZ (polB pPage pCap pLimit pLow pHigh pWeightsN pWeightsg0 pRuleDown pRuleSleep) pLow)), (Value.int IntKind.i64 (ifZ (polB pPage pCap pLimit pLow pHigh pWeightsN pWeightsg0 pRuleDown pRuleSleep) pHigh)), (Value.slice ro05 (ifN (polB pPage pCap pLimit pLow pHigh pWeightsN pWeightsg0 pRuleDown pRuleSleep) pWeightsN) rc06), (Value.int IntKind.i64 (ifZ (polB pPage pCap pLimit pLow pHigh pWeightsN pWeightsg0 pRuleDown pRuleSleep) pRuleDown)), (Value.int IntKind.i64 (ifZ (polB pPage pCap pLimit pLow pHigh pWeightsN pWeightsg0 pRuleDown pRuleSleep) pRuleSleep)), (Value.int IntKind.i64 (ifZ (polB pPage pCap pLimit pLow pHigh pWeightsN pWeightsg0 pRuleDown pRuleSleep) pPage)), (Value.int IntKind.i64 (ifZ (polB pPage pCap pLimit pLow pHigh pWeightsN pWeightsg0 pRuleDown pRuleSleep) pCap)), (Value.int IntKind.i64 (ifZ (polB pPage pCap pLimit pLow pHigh pWeightsN pWeightsg0 pRuleDown pRuleSleep) pLimit)), (Value.int IntKind.i64 (ifZ (polB pPage pCap pLimit pLow pHigh pWeightsN pWeightsg0 pRuleDown pRuleSleep) pLow)), (Value.int IntKind.i64 (ifZ (polB pPage pCap pLimit pLow pHigh pWeightsN pWeightsg0 pRuleDown pRuleSleep) pHigh)), (Value.slice ro17 (ifN (polB pPage pCap pLimit pLow pHigh pWeightsN pWeightsg0 pRuleDown pRuleSleep) pWeightsN) rc18), (Value.int IntKind.i64 (ifZ (polB pPage pCap pLimit pLow pHigh pWeightsN pWeightsg0 pRuleDown pRuleSleep) pRuleDown)), (Value.int IntKind.i64 (ifZ (polB pPage pCap pLimit pLow pHigh pWeightsN pWeightsg0 pRuleDown pRuleSleep) pRuleSleep)), (Value.bool Bool.false)])), (Value.bool (polB pPage pCap pLimit pLow pHigh pWeightsN pWeightsg0 pRuleDown pRuleSleep))])) ∧
   (((Bool.true = Bool.true ∧
   (Option.none = ro05 ∧
   (0 = (ifN (polB pPage pCap pLimit pLow pHigh pWeightsN pWeightsg0 pRuleDown pRuleSleep) pWeightsN) ∧
   (0 = rc06 ∧
   Bool.true = Bool.true)))) ∧
   ((Bool.true = Bool.true ∧
   (Option.none = ro17 ∧
   (0 = (ifN (polB pPage pCap pLimit pLow pHigh pWeightsN pWeightsg0 pRuleDown pRuleSleep) pWeightsN) ∧
   (0 = rc18 ∧
   Bool.true = Bool.true)))) ∧
   True)) ∧
   Bool.true = Bool.true))))))))))))) ∧
  ((!(polB pPage pCap pLimit pLow pHigh pWeightsN pWeightsg02 pRuleDown pRuleSleep)) = Bool.false →
  (b0 = b0 ∧
   (b0 = b0 ∧
   (Exists (fun (pWeightsg09 : (Nat →
   Int)) => ((pWeightsO = pWeightsO ∧
   (pWeightsN = pWeightsN ∧
   ([(fun (i10 : Nat) => (SC.int (pWeightsg0 i10)))] = [(fun (i11 : Nat) => (SC.int (pWeightsg09 i11)))] ∧
   (capC pWeightsN)))) ∧
   (∀ ro012 : (Option Addr),
   (∀ rc013 : Nat,
   (True ∧
   (Exists (fun (pWeightsg014 : (Nat →
   Int)) => ((pWeightsO = pWeightsO ∧
   (pWeightsN = pWeightsN ∧
   ([(fun (i15 : Nat) => (SC.int (pWeightsg0 i15)))] = [(fun (i16 : Nat) => (SC.int (pWeightsg014 i16)))] ∧
   (capC pWeightsN)))) ∧
   (∀ ro017 : (Option Addr),
   (∀ rc018 : Nat,
   (True ∧
   (b1 = b1 ∧
   (True ∧
   (b1 = b1 ∧
   (Exists (fun (ro019 : (Option Addr)) => (Exists (fun (rc020 : Nat) => (Exists (fun (ro121 : (Option Addr)) => (Exists (fun (rc122 : Nat) => ((Value.tuple (List.toArray [(Value.agg (List.toArray [(Value.int IntKind.i64 pPage), (Value.int IntKind.i64 pCap), (Value.int IntKind.i64 pLimit), (Value.int IntKind.i64 pLow), (Value.int IntKind.i64 pHigh), (Value.slice ro012 pWeightsN rc013), (Value.int IntKind.i64 pRuleDown), (Value.int IntKind.i64 pRuleSleep), (Value.int IntKind.i64 pPage), (Value.int IntKind.i64 pCap), (Value.int IntKind.i64 pLimit), (Value.int IntKind.i64 pLow), (Value.int IntKind.i64 pHigh), (Value.slice ro017 pWeightsN rc018), (Value.int IntKind.i64 pRuleDown), (Value.int IntKind.i64 pRuleSleep), (Value.bool Bool.false)])), (Value.bool Bool.true)])) = (Value.tuple (List.toArray [(Value.agg (List.toArray [(Value.int IntKind.i64 (ifZ (polB pPage pCap pLimit pLow pHigh pWeightsN pWeightsg0 pRuleDown pRuleSleep) pPage)), (Value.int IntKind.i64 (ifZ (polB pPage pCap pLimit pLow pHigh pWeightsN pWeightsg0 pRuleDown pRuleSleep) pCap)), (Value.int IntKind.i64 (ifZ (polB pPage pCap pLimit pLow pHigh pWeightsN pWeightsg0 pRuleDown pRuleSleep) pLimit)), (Value.int IntKind.i64 (ifZ (polB pPage pCap pLimit pLow pHigh pWeightsN pWeightsg0 pRuleDown pRuleSleep) pLow)), (Value.int IntKind.i64 (ifZ (polB pPage pCap pLimit pLow pHigh pWeightsN pWeightsg0 pRuleDown pRuleSleep) pHigh)), (Value.slice ro019 (ifN (polB pPage pCap pLimit pLow pHigh pWeightsN pWeightsg0 pRuleDown pRuleSleep) pWeightsN) rc020), (Value.int IntKind.i64 (ifZ (polB pPage pCap pLimit pLow pHigh pWeightsN pWeightsg0 pRuleDown pRuleSleep) pRuleDown)), (Value.int IntKind.i64 (ifZ (polB pPage pCap pLimit pLow pHigh pWeightsN pWeightsg0 pRuleDown pRuleSleep) pRuleSleep)), (Value.int IntKind.i64 (ifZ (polB pPage pCap pLimit pLow pHigh pWeightsN pWeightsg0 pRuleDown pRuleSleep) pPage)), (Value.int IntKind.i64 (ifZ (polB pPage pCap pLimit pLow pHigh pWeightsN pWeightsg0 pRuleDown pRuleSleep) pCap)), (Value.int IntKind.i64 (ifZ (polB pPage pCap pLimit pLow pHigh pWeightsN pWeightsg0 pRuleDown pRuleSleep) pLimit)), (Value.int IntKind.i64 (ifZ (polB pPage pCap pLimit pLow pHigh pWeightsN pWeightsg0 pRuleDown pRuleSleep) pLow)), (Value.int IntKind.i64 (ifZ (polB pPage pCap pLimit pLow pHigh pWeightsN pWeightsg0 pRuleDown pRuleSleep) pHigh)), (Value.slice ro121 (ifN (polB pPage pCap pLimit pLow pHigh pWeightsN pWeightsg0 pRuleDown pRuleSleep) pWeightsN) rc122), (Value.int IntKind.i64 (ifZ (polB pPage pCap pLimit pLow pHigh pWeightsN pWeightsg0 pRuleDown pRuleSleep) pRuleDown)), (Value.int IntKind.i64 (ifZ (polB pPage pCap pLimit pLow pHigh pWeightsN pWeightsg0 pRuleDown pRuleSleep) pRuleSleep)), (Value.bool Bool.false)])), (Value.bool (polB pPage pCap pLimit pLow pHigh pWeightsN pWeightsg0 pRuleDown pRuleSleep))])) ∧
   (((Bool.true = Bool.true ∧
   (ro012 = ro019 ∧
   (3 = 3 ∧
   (1 = 1 ∧
   (pWeightsN = (ifN (polB pPage pCap pLimit pLow pHigh pWeightsN pWeightsg0 pRuleDown pRuleSleep) pWeightsN) ∧
   (rc013 = rc020 ∧
   ((∀ i23 : Nat,
   (i23 < pWeightsN →
   (Value.int IntKind.i64 (pWeightsg09 i23)) = (Value.int IntKind.i64 (pWeightsg0 i23)))) ∧
   True))))))) ∧
   ((Bool.true = Bool.true ∧
   (ro017 = ro121 ∧
   (3 = 3 ∧
   (1 = 1 ∧
   (pWeightsN = (ifN (polB pPage pCap pLimit pLow pHigh pWeightsN pWeightsg0 pRuleDown pRuleSleep) pWeightsN) ∧
   (rc018 = rc122 ∧
   ((∀ i24 : Nat,
   (i24 < pWeightsN →
   (Value.int IntKind.i64 (pWeightsg014 i24)) = (Value.int IntKind.i64 (pWeightsg0 i24)))) ∧
   True))))))) ∧
   True)) ∧
   Bool.true = Bool.true)))))))))))))))))))))))))))))))))))) := by kernel_rfl
theorem bnewS_any (pPage : Int) (pCap : Int) (pLimit : Int) (pLow : Int) (pHigh : Int) (pWeightsO : Option Addr) (pWeightsN pWeightsC : Nat) (pWeightsg0 : Nat → Int) (pRuleDown : Int) (pRuleSleep : Int) (w : World) (hrpWeights : Row.sat w ⟨false, pWeightsO, 0, 1, pWeightsN, 0, [fun i => .int (pWeightsg0 i)]⟩) (hpre : capC pWeightsN) : Calls Try.prog 53 #[.agg #[.int .i64 pPage, .int .i64 pCap, .int .i64 pLimit, .int .i64 pLow, .int .i64 pHigh, .slice pWeightsO pWeightsN pWeightsC, .int .i64 pRuleDown, .int .i64 pRuleSleep]] w fun e w' => ∃ (ro0 : Option Addr) (rc0 : Nat) (ro1 : Option Addr) (rc1 : Nat), e = .returned (.tuple #[.agg #[.int .i64 (ifZ (polB pPage pCap pLimit pLow pHigh pWeightsN pWeightsg0 pRuleDown pRuleSleep) pPage), .int .i64 (ifZ (polB pPage pCap pLimit pLow pHigh pWeightsN pWeightsg0 pRuleDown pRuleSleep) pCap), .int .i64 (ifZ (polB pPage pCap pLimit pLow pHigh pWeightsN pWeightsg0 pRuleDown pRuleSleep) pLimit), .int .i64 (ifZ (polB pPage pCap pLimit pLow pHigh pWeightsN pWeightsg0 pRuleDown pRuleSleep) pLow), .int .i64 (ifZ (polB pPage pCap pLimit pLow pHigh pWeightsN pWeightsg0 pRuleDown pRuleSleep) pHigh), .slice ro0 (ifN (polB pPage pCap pLimit pLow pHigh pWeightsN pWeightsg0 pRuleDown pRuleSleep) pWeightsN) rc0, .int .i64 (ifZ (polB pPage pCap pLimit pLow pHigh pWeightsN pWeightsg0 pRuleDown pRuleSleep) pRuleDown), .int .i64 (ifZ (polB pPage pCap pLimit pLow pHigh pWeightsN pWeightsg0 pRuleDown pRuleSleep) pRuleSleep), .int .i64 (ifZ (polB pPage pCap pLimit pLow pHigh pWeightsN pWeightsg0 pRuleDown pRuleSleep) pPage), .int .i64 (ifZ (polB pPage pCap pLimit pLow pHigh pWeightsN pWeightsg0 pRuleDown pRuleSleep) pCap), .int .i64 (ifZ (polB pPage pCap pLimit pLow pHigh pWeightsN pWeightsg0 pRuleDown pRuleSleep) pLimit), .int .i64 (ifZ (polB pPage pCap pLimit pLow pHigh pWeightsN pWeightsg0 pRuleDown pRuleSleep) pLow), .int .i64 (ifZ (polB pPage pCap pLimit pLow pHigh pWeightsN pWeightsg0 pRuleDown pRuleSleep) pHigh), .slice ro1 (ifN (polB pPage pCap pLimit pLow pHigh pWeightsN pWeightsg0 pRuleDown pRuleSleep) pWeightsN) rc1, .int .i64 (ifZ (polB pPage pCap pLimit pLow pHigh pWeightsN pWeightsg0 pRuleDown pRuleSleep) pRuleDown), .int .i64 (ifZ (polB pPage pCap pLimit pLow pHigh pWeightsN pWeightsg0 pRuleDown pRuleSleep) pRuleSleep), .bool (false)], .bool (polB pPage pCap pLimit pLow pHigh pWeightsN pWeightsg0 pRuleDown pRuleSleep)]) ∧ HS ⟨w, fun _ => False⟩ [.row ⟨true, ro0, 3, 1, ifN (polB pPage pCap pLimit pLow pHigh pWeightsN pWeightsg0 pRuleDown pRuleSleep) pWeightsN, rc0, [fun i => .int (pWeightsg0 i)]⟩, .row ⟨true, ro1, 3, 1, ifN (polB pPage pCap pLimit pLow pHigh pWeightsN pWeightsg0 pRuleDown pRuleSleep) pWeightsN, rc1, [fun i => .int (pWeightsg0 i)]⟩] w' := by
  refine fnB (tb := [(40, sPolOk), (88, sCopyP)]) ⟨sPolOk_ok_polS, sCopyP_ok_copyPS, trivial⟩ Try.func53 ((bnewS_T pPage pCap pLimit pLow pHigh pWeightsO pWeightsN pWeightsC pWeightsg0 pRuleDown pRuleSleep).mpr ?_) (HS.rows (fun _ => False) [⟨false, pWeightsO, 0, 1, pWeightsN, 0, [fun i => .int (pWeightsg0 i)]⟩] (by simp; exact hrpWeights)) (fun v ch' w' ⟨ro0, rc0, ro1, rc1, hk⟩ hs => ⟨ro0, rc0, ro1, rc1, by rw [hk.1], hk.hs hs⟩)
  clear hrpWeights
  cases hp : polB pPage pCap pLimit pLow pHigh pWeightsN pWeightsg0 pRuleDown pRuleSleep
  all_goals
    repeat' (first
      | with_reducible exact rfl
      | exact True.intro
      | with_reducible assumption
      | refine And.intro ?_ ?_
      | apply Exists.intro
      | (intro h; exfalso; simp [hp] at h; done)
      | (intro h; exfalso; simp [hp] at h; omega)
      | intro _
      | omega
      | (simp; omega))
  all_goals (try simp_all [ifN, ifZ, selZ, selN, orB])
def sBNew : Sm := fun args ch kk =>
  match args with
  | [.a (.agg [c0, c1, c2, c3, c4, .sl i0 a0 n0 d0, c5, c6])] =>
    match ch[i0]?, ints [c0, c1, c2, c3, c4, c5, c6] with
    | some (.row r0), some [pPage, pCap, pLimit, pLow, pHigh, pRuleDown, pRuleSleep] => ∃ pWeightsg0 : Nat → Int, (a0 = r0.ao ∧ n0 = r0.n ∧ r0.fld = [fun i => .int (pWeightsg0 i)] ∧ capC n0) ∧ ∀ (ro0 : Option Addr) (rc0 : Nat), ∀ (ro1 : Option Addr) (rc1 : Nat), kk (.tup [.agg [.int (ifZ (polB pPage pCap pLimit pLow pHigh n0 pWeightsg0 pRuleDown pRuleSleep) pPage), .int (ifZ (polB pPage pCap pLimit pLow pHigh n0 pWeightsg0 pRuleDown pRuleSleep) pCap), .int (ifZ (polB pPage pCap pLimit pLow pHigh n0 pWeightsg0 pRuleDown pRuleSleep) pLimit), .int (ifZ (polB pPage pCap pLimit pLow pHigh n0 pWeightsg0 pRuleDown pRuleSleep) pLow), .int (ifZ (polB pPage pCap pLimit pLow pHigh n0 pWeightsg0 pRuleDown pRuleSleep) pHigh), .sl (ch.length) ro0 (ifN (polB pPage pCap pLimit pLow pHigh n0 pWeightsg0 pRuleDown pRuleSleep) n0) rc0, .int (ifZ (polB pPage pCap pLimit pLow pHigh n0 pWeightsg0 pRuleDown pRuleSleep) pRuleDown), .int (ifZ (polB pPage pCap pLimit pLow pHigh n0 pWeightsg0 pRuleDown pRuleSleep) pRuleSleep), .int (ifZ (polB pPage pCap pLimit pLow pHigh n0 pWeightsg0 pRuleDown pRuleSleep) pPage), .int (ifZ (polB pPage pCap pLimit pLow pHigh n0 pWeightsg0 pRuleDown pRuleSleep) pCap), .int (ifZ (polB pPage pCap pLimit pLow pHigh n0 pWeightsg0 pRuleDown pRuleSleep) pLimit), .int (ifZ (polB pPage pCap pLimit pLow pHigh n0 pWeightsg0 pRuleDown pRuleSleep) pLow), .int (ifZ (polB pPage pCap pLimit pLow pHigh n0 pWeightsg0 pRuleDown pRuleSleep) pHigh), .sl (ch.length + 1) ro1 (ifN (polB pPage pCap pLimit pLow pHigh n0 pWeightsg0 pRuleDown pRuleSleep) n0) rc1, .int (ifZ (polB pPage pCap pLimit pLow pHigh n0 pWeightsg0 pRuleDown pRuleSleep) pRuleDown), .int (ifZ (polB pPage pCap pLimit pLow pHigh n0 pWeightsg0 pRuleDown pRuleSleep) pRuleSleep), .bool (false)], .c (.bool (polB pPage pCap pLimit pLow pHigh n0 pWeightsg0 pRuleDown pRuleSleep))]) (ch ++ [.row ⟨true, ro0, 3, 1, ifN (polB pPage pCap pLimit pLow pHigh n0 pWeightsg0 pRuleDown pRuleSleep) n0, rc0, [fun i => .int (pWeightsg0 i)]⟩, .row ⟨true, ro1, 3, 1, ifN (polB pPage pCap pLimit pLow pHigh n0 pWeightsg0 pRuleDown pRuleSleep) n0, rc1, [fun i => .int (pWeightsg0 i)]⟩]) []
    | _, _ => False
  | _ => False
theorem sBNew_ok {f : FuncId} (hc : ∀ args w, (callFunc f args).run Try.prog w = .ok (.enter f args) w) (h : ∀ (pPage : Int) (pCap : Int) (pLimit : Int) (pLow : Int) (pHigh : Int) (pWeightsO : Option Addr) (pWeightsN pWeightsC : Nat) (pWeightsg0 : Nat → Int) (pRuleDown : Int) (pRuleSleep : Int) (w : World), Row.sat w ⟨false, pWeightsO, 0, 1, pWeightsN, 0, [fun i => .int (pWeightsg0 i)]⟩ → capC pWeightsN → Calls Try.prog f #[.agg #[.int .i64 pPage, .int .i64 pCap, .int .i64 pLimit, .int .i64 pLow, .int .i64 pHigh, .slice pWeightsO pWeightsN pWeightsC, .int .i64 pRuleDown, .int .i64 pRuleSleep]] w fun e w' => ∃ (ro0 : Option Addr) (rc0 : Nat) (ro1 : Option Addr) (rc1 : Nat), e = .returned (.tuple #[.agg #[.int .i64 (ifZ (polB pPage pCap pLimit pLow pHigh pWeightsN pWeightsg0 pRuleDown pRuleSleep) pPage), .int .i64 (ifZ (polB pPage pCap pLimit pLow pHigh pWeightsN pWeightsg0 pRuleDown pRuleSleep) pCap), .int .i64 (ifZ (polB pPage pCap pLimit pLow pHigh pWeightsN pWeightsg0 pRuleDown pRuleSleep) pLimit), .int .i64 (ifZ (polB pPage pCap pLimit pLow pHigh pWeightsN pWeightsg0 pRuleDown pRuleSleep) pLow), .int .i64 (ifZ (polB pPage pCap pLimit pLow pHigh pWeightsN pWeightsg0 pRuleDown pRuleSleep) pHigh), .slice ro0 (ifN (polB pPage pCap pLimit pLow pHigh pWeightsN pWeightsg0 pRuleDown pRuleSleep) pWeightsN) rc0, .int .i64 (ifZ (polB pPage pCap pLimit pLow pHigh pWeightsN pWeightsg0 pRuleDown pRuleSleep) pRuleDown), .int .i64 (ifZ (polB pPage pCap pLimit pLow pHigh pWeightsN pWeightsg0 pRuleDown pRuleSleep) pRuleSleep), .int .i64 (ifZ (polB pPage pCap pLimit pLow pHigh pWeightsN pWeightsg0 pRuleDown pRuleSleep) pPage), .int .i64 (ifZ (polB pPage pCap pLimit pLow pHigh pWeightsN pWeightsg0 pRuleDown pRuleSleep) pCap), .int .i64 (ifZ (polB pPage pCap pLimit pLow pHigh pWeightsN pWeightsg0 pRuleDown pRuleSleep) pLimit), .int .i64 (ifZ (polB pPage pCap pLimit pLow pHigh pWeightsN pWeightsg0 pRuleDown pRuleSleep) pLow), .int .i64 (ifZ (polB pPage pCap pLimit pLow pHigh pWeightsN pWeightsg0 pRuleDown pRuleSleep) pHigh), .slice ro1 (ifN (polB pPage pCap pLimit pLow pHigh pWeightsN pWeightsg0 pRuleDown pRuleSleep) pWeightsN) rc1, .int .i64 (ifZ (polB pPage pCap pLimit pLow pHigh pWeightsN pWeightsg0 pRuleDown pRuleSleep) pRuleDown), .int .i64 (ifZ (polB pPage pCap pLimit pLow pHigh pWeightsN pWeightsg0 pRuleDown pRuleSleep) pRuleSleep), .bool (false)], .bool (polB pPage pCap pLimit pLow pHigh pWeightsN pWeightsg0 pRuleDown pRuleSleep)]) ∧ HS ⟨w, fun _ => False⟩ [.row ⟨true, ro0, 3, 1, ifN (polB pPage pCap pLimit pLow pHigh pWeightsN pWeightsg0 pRuleDown pRuleSleep) pWeightsN, rc0, [fun i => .int (pWeightsg0 i)]⟩, .row ⟨true, ro1, 3, 1, ifN (polB pPage pCap pLimit pLow pHigh pWeightsN pWeightsg0 pRuleDown pRuleSleep) pWeightsN, rc1, [fun i => .int (pWeightsg0 i)]⟩] w') : SmOK Try.prog f sBNew := by
  refine smN hc fun args ch kk w X h0 hs => ?_
  unfold sBNew at h0
  split at h0
  · rename_i c0 c1 c2 c3 c4 i0 a0 n0 d0 c5 c6
    split at h0
    · rename_i r0 pPage pCap pLimit pLow pHigh pRuleDown pRuleSleep hr0 hi
      obtain ⟨pWeightsg0, ⟨rfl, rfl, hf0, hpre⟩, h0⟩ := h0
      obtain ⟨ec0, hi⟩ := ints_cons hi
      obtain ⟨ec1, hi⟩ := ints_cons hi
      obtain ⟨ec2, hi⟩ := ints_cons hi
      obtain ⟨ec3, hi⟩ := ints_cons hi
      obtain ⟨ec4, hi⟩ := ints_cons hi
      obtain ⟨ec5, hi⟩ := ints_cons hi
      obtain ⟨ec6, hi⟩ := ints_cons hi
      refine Calls.mono (?_ : Calls Try.prog f _ w (fun e w' => ∃ (ro0 : Option Addr) (rc0 : Nat) (ro1 : Option Addr) (rc1 : Nat), e = .returned (.tuple #[.agg #[.int .i64 (ifZ (polB pPage pCap pLimit pLow pHigh r0.n pWeightsg0 pRuleDown pRuleSleep) pPage), .int .i64 (ifZ (polB pPage pCap pLimit pLow pHigh r0.n pWeightsg0 pRuleDown pRuleSleep) pCap), .int .i64 (ifZ (polB pPage pCap pLimit pLow pHigh r0.n pWeightsg0 pRuleDown pRuleSleep) pLimit), .int .i64 (ifZ (polB pPage pCap pLimit pLow pHigh r0.n pWeightsg0 pRuleDown pRuleSleep) pLow), .int .i64 (ifZ (polB pPage pCap pLimit pLow pHigh r0.n pWeightsg0 pRuleDown pRuleSleep) pHigh), .slice ro0 (ifN (polB pPage pCap pLimit pLow pHigh r0.n pWeightsg0 pRuleDown pRuleSleep) r0.n) rc0, .int .i64 (ifZ (polB pPage pCap pLimit pLow pHigh r0.n pWeightsg0 pRuleDown pRuleSleep) pRuleDown), .int .i64 (ifZ (polB pPage pCap pLimit pLow pHigh r0.n pWeightsg0 pRuleDown pRuleSleep) pRuleSleep), .int .i64 (ifZ (polB pPage pCap pLimit pLow pHigh r0.n pWeightsg0 pRuleDown pRuleSleep) pPage), .int .i64 (ifZ (polB pPage pCap pLimit pLow pHigh r0.n pWeightsg0 pRuleDown pRuleSleep) pCap), .int .i64 (ifZ (polB pPage pCap pLimit pLow pHigh r0.n pWeightsg0 pRuleDown pRuleSleep) pLimit), .int .i64 (ifZ (polB pPage pCap pLimit pLow pHigh r0.n pWeightsg0 pRuleDown pRuleSleep) pLow), .int .i64 (ifZ (polB pPage pCap pLimit pLow pHigh r0.n pWeightsg0 pRuleDown pRuleSleep) pHigh), .slice ro1 (ifN (polB pPage pCap pLimit pLow pHigh r0.n pWeightsg0 pRuleDown pRuleSleep) r0.n) rc1, .int .i64 (ifZ (polB pPage pCap pLimit pLow pHigh r0.n pWeightsg0 pRuleDown pRuleSleep) pRuleDown), .int .i64 (ifZ (polB pPage pCap pLimit pLow pHigh r0.n pWeightsg0 pRuleDown pRuleSleep) pRuleSleep), .bool (false)], .bool (polB pPage pCap pLimit pLow pHigh r0.n pWeightsg0 pRuleDown pRuleSleep)]) ∧ HS ⟨w, fun _ => False⟩ [.row ⟨true, ro0, 3, 1, ifN (polB pPage pCap pLimit pLow pHigh r0.n pWeightsg0 pRuleDown pRuleSleep) r0.n, rc0, [fun i => .int (pWeightsg0 i)]⟩, .row ⟨true, ro1, 3, 1, ifN (polB pPage pCap pLimit pLow pHigh r0.n pWeightsg0 pRuleDown pRuleSleep) r0.n, rc1, [fun i => .int (pWeightsg0 i)]⟩] w')) (fun e w' ⟨ro0, rc0, ro1, rc1, he, hs'⟩ => ⟨_, _, ?_, hs', rfl, h0 ro0 rc0 ro1 rc1⟩)
      · simp only [List.map_cons, List.map_nil, den_a, den_c, SA.den, den_sl, ec0, ec1, ec2, ec3, ec4, ec5, ec6]
        exact h pPage pCap pLimit pLow pHigh r0.ao r0.n d0 pWeightsg0 pRuleDown pRuleSleep w (Row.seenAs (hs.sat i0 _ hr0) hf0 rfl) hpre
      · rw [he]
        rfl
    · exact h0.elim
  · exact h0.elim
theorem sBNew_ok_bnewI : SmOK Try.prog 54 sBNew := sBNew_ok Try.call54 (fun pPage pCap pLimit pLow pHigh pWeightsO pWeightsN pWeightsC pWeightsg0 pRuleDown pRuleSleep w h0 hp => bnewI_any pPage pCap pLimit pLow pHigh pWeightsO pWeightsN pWeightsC pWeightsg0 pRuleDown pRuleSleep w h0 hp)
theorem sBNew_ok_bnewS : SmOK Try.prog 53 sBNew := sBNew_ok Try.call53 (fun pPage pCap pLimit pLow pHigh pWeightsO pWeightsN pWeightsC pWeightsg0 pRuleDown pRuleSleep w h0 hp => bnewS_any pPage pCap pLimit pLow pHigh pWeightsO pWeightsN pWeightsC pWeightsg0 pRuleDown pRuleSleep w h0 hp)
theorem baskI_T (bActivePage : Int) (bActiveCap : Int) (bActiveLimit : Int) (bActiveLow : Int) (bActiveHigh : Int) (bActiveWeightsO : Option Addr) (bActiveWeightsN bActiveWeightsC : Nat) (bActiveWeightsg0 : Nat → Int) (bActiveRuleDown : Int) (bActiveRuleSleep : Int) (bNextPage : Int) (bNextCap : Int) (bNextLimit : Int) (bNextLow : Int) (bNextHigh : Int) (bNextWeightsO : Option Addr) (bNextWeightsN bNextWeightsC : Nat) (bNextWeightsg0 : Nat → Int) (bNextRuleDown : Int) (bNextRuleSleep : Int) (bWaits : Bool) (pPage : Int) (pCap : Int) (pLimit : Int) (pLow : Int) (pHigh : Int) (pWeightsO : Option Addr) (pWeightsN pWeightsC : Nat) (pWeightsg0 : Nat → Int) (pRuleDown : Int) (pRuleSleep : Int) : (exFn Try.prog {tb := [(42, sPolOk), (90, sCopyP), (89, sCopyB)]} 400 Try.f56 ([.a (.agg [.int bActivePage, .int bActiveCap, .int bActiveLimit, .int bActiveLow, .int bActiveHigh, .sl 0 bActiveWeightsO bActiveWeightsN bActiveWeightsC, .int bActiveRuleDown, .int bActiveRuleSleep, .int bNextPage, .int bNextCap, .int bNextLimit, .int bNextLow, .int bNextHigh, .sl 1 bNextWeightsO bNextWeightsN bNextWeightsC, .int bNextRuleDown, .int bNextRuleSleep, .bool bWaits]), .a (.agg [.int pPage, .int pCap, .int pLimit, .int pLow, .int pHigh, .sl 2 pWeightsO pWeightsN pWeightsC, .int pRuleDown, .int pRuleSleep])]) ([.row ⟨false, bActiveWeightsO, 0, 1, bActiveWeightsN, 0, [fun i => .int (bActiveWeightsg0 i)]⟩, .row ⟨false, bNextWeightsO, 0, 1, bNextWeightsN, 0, [fun i => .int (bNextWeightsg0 i)]⟩, .row ⟨false, pWeightsO, 0, 1, pWeightsN, 0, [fun i => .int (pWeightsg0 i)]⟩]) (fun v ch => ∃ (ro0 : Option Addr) (rc0 : Nat) (ro1 : Option Addr) (rc1 : Nat), OutR v ch (.tuple #[.agg #[.int .i64 (bActivePage), .int .i64 (bActiveCap), .int .i64 (bActiveLimit), .int .i64 (bActiveLow), .int .i64 (bActiveHigh), .slice ro0 (bActiveWeightsN) rc0, .int .i64 (bActiveRuleDown), .int .i64 (bActiveRuleSleep), .int .i64 (selZ (polB pPage pCap pLimit pLow pHigh pWeightsN pWeightsg0 pRuleDown pRuleSleep) pPage bNextPage), .int .i64 (selZ (polB pPage pCap pLimit pLow pHigh pWeightsN pWeightsg0 pRuleDown pRuleSleep) pCap bNextCap), .int .i64 (selZ (polB pPage pCap pLimit pLow pHigh pWeightsN pWeightsg0 pRuleDown pRuleSleep) pLimit bNextLimit), .int .i64 (selZ (polB pPage pCap pLimit pLow pHigh pWeightsN pWeightsg0 pRuleDown pRuleSleep) pLow bNextLow), .int .i64 (selZ (polB pPage pCap pLimit pLow pHigh pWeightsN pWeightsg0 pRuleDown pRuleSleep) pHigh bNextHigh), .slice ro1 (selN (polB pPage pCap pLimit pLow pHigh pWeightsN pWeightsg0 pRuleDown pRuleSleep) pWeightsN bNextWeightsN) rc1, .int .i64 (selZ (polB pPage pCap pLimit pLow pHigh pWeightsN pWeightsg0 pRuleDown pRuleSleep) pRuleDown bNextRuleDown), .int .i64 (selZ (polB pPage pCap pLimit pLow pHigh pWeightsN pWeightsg0 pRuleDown pRuleSleep) pRuleSleep bNextRuleSleep), .bool (orB (polB pPage pCap pLimit pLow pHigh pWeightsN pWeightsg0 pRuleDown pRuleSleep) bWaits)], .bool (polB pPage pCap pLimit pLow pHigh pWeightsN pWeightsg0 pRuleDown pRuleSleep)]) [.row ⟨true, ro0, 3, 1, bActiveWeightsN, rc0, [fun i => .int (bActiveWeightsg0 i)]⟩, .row ⟨true, ro1, 3, 1, selN (polB pPage pCap pLimit pLow pHigh pWeightsN pWeightsg0 pRuleDown pRuleSleep) pWeightsN bNextWeightsN, rc1, [fun i => .int (selZ (polB pPage pCap pLimit pLow pHigh pWeightsN pWeightsg0 pRuleDown pRuleSleep) (pWeightsg0 i) (bNextWeightsg0 i))]⟩])) = (
  (∀ b0 : Nat,
  (∀ b1 : Nat,
  (∀ b2 : Nat,
  (b0 = b0 ∧
  (Exists (fun (bActiveWeightsg03 : (Nat →
  Int)) => (Exists (fun (bNextWeightsg04 : (Nat →
  Int)) => ((bActiveWeightsO = bActiveWeightsO ∧
  (bActiveWeightsN = bActiveWeightsN ∧
  ([(fun (i5 : Nat) => (SC.int (bActiveWeightsg0 i5)))] = [(fun (i6 : Nat) => (SC.int (bActiveWeightsg03 i6)))] ∧
  (bNextWeightsO = bNextWeightsO ∧
  (bNextWeightsN = bNextWeightsN ∧
  ([(fun (i7 : Nat) => (SC.int (bNextWeightsg0 i7)))] = [(fun (i8 : Nat) => (SC.int (bNextWeightsg04 i8)))] ∧
  ((capC bActiveWeightsN) ∧
  (capC bNextWeightsN)))))))) ∧
  (∀ ro09 : (Option Addr),
  (∀ rc010 : Nat,
  (∀ ro111 : (Option Addr),
  (∀ rc112 : Nat,
  (∀ b13 : Nat,
  (b13 = b13 ∧
  (b1 = b1 ∧
  (Exists (fun (pWeightsg014 : (Nat →
  Int)) => ((pWeightsO = pWeightsO ∧
  (pWeightsN = pWeightsN ∧
  ([(fun (i15 : Nat) => (SC.int (pWeightsg0 i15)))] = [(fun (i16 : Nat) => (SC.int (pWeightsg014 i16)))] ∧
  (capC pWeightsN)))) ∧
  (((!(polB pPage pCap pLimit pLow pHigh pWeightsN pWeightsg014 pRuleDown pRuleSleep)) = Bool.true →
  (b13 = b13 ∧
   (b2 = b2 ∧
   (b2 = b2 ∧
   (Exists (fun (ro017 : (Option Addr)) => (Exists (fun (rc018 : Nat) => (Exists (fun (ro119 : (Option Addr)) => (Exists (fun (rc120 : Nat) => ((Value.tuple (List.toArray [(Value.agg (List.toArray [(Value.int IntKind.i64 bActivePage), (Value.int IntKind.i64 bActiveCap), (Value.int IntKind.i64 bActiveLimit), (Value.int IntKind.i64 bActiveLow), (Value.int IntKind.i64 bActiveHigh), (Value.slice ro09 bActiveWeightsN rc010), (Value.int IntKind.i64 bActiveRuleDown), (Value.int IntKind.i64 bActiveRuleSleep), (Value.int IntKind.i64 bNextPage), (Value.int IntKind.i64 bNextCap), (Value.int IntKind.i64 bNextLimit), (Value.int IntKind.i64 bNextLow), (Value.int IntKind.i64 bNextHigh), (Value.slice ro111 bNextWeightsN rc112), (Value.int IntKind.i64 bNextRuleDown), (Value.int IntKind.i64 bNextRuleSleep), (Value.bool bWaits)])), (Value.bool Bool.false)])) = (Value.tuple (List.toArray [(Value.agg (List.toArray [(Value.int IntKind.i64 bActivePage), (Value.int IntKind.i64 bActiveCap), (Value.int IntKind.i64 bActiveLimit), (Value.int IntKind.i64 bActiveLow), (Value.int IntKind.i64 bActiveHigh), (Value.slice ro017 bActiveWeightsN rc018), (Value.int IntKind.i64 bActiveRuleDown), (Value.int IntKind.i64 bActiveRuleSleep), (Value.int IntKind.i64 (selZ (polB pPage pCap pLimit pLow pHigh pWeightsN pWeightsg0 pRuleDown pRuleSleep) pPage bNextPage)), (Value.int IntKind.i64 (selZ (polB pPage pCap pLimit pLow pHigh pWeightsN pWeightsg0 pRuleDown pRuleSleep) pCap bNextCap)), (Value.int IntKind.i64 (selZ (polB pPage pCap pLimit pLow pHigh pWeightsN pWeightsg0 pRuleDown pRuleSleep) pLimit bNextLimit)), (Value.int IntKind.i64 (selZ (polB pPage pCap pLimit pLow pHigh pWeightsN pWeightsg0 pRuleDown pRuleSleep) pLow bNextLow)), (Value.int IntKind.i64 (selZ (polB pPage pCap pLimit pLow pHigh pWeightsN pWeightsg0 pRuleDown pRuleSleep) pHigh bNextHigh)), (Value.slice ro119 (selN (polB pPage pCap pLimit pLow pHigh pWeightsN pWeightsg0 pRuleDown pRuleSleep) pWeightsN bNextWeightsN) rc120), (Value.int IntKind.i64 (selZ (polB pPage pCap pLimit pLow pHigh pWeightsN pWeightsg0 pRuleDown pRuleSleep) pRuleDown bNextRuleDown)), (Value.int IntKind.i64 (selZ (polB pPage pCap pLimit pLow pHigh pWeightsN pWeightsg0 pRuleDown pRuleSleep) pRuleSleep bNextRuleSleep)), (Value.bool (orB (polB pPage pCap pLimit pLow pHigh pWeightsN pWeightsg0 pRuleDown pRuleSleep) bWaits))])), (Value.bool (polB pPage pCap pLimit pLow pHigh pWeightsN pWeightsg0 pRuleDown pRuleSleep))])) ∧
   (((Bool.true = Bool.true ∧
   (ro09 = ro017 ∧
   (3 = 3 ∧
   (1 = 1 ∧
   (bActiveWeightsN = bActiveWeightsN ∧
   (rc010 = rc018 ∧
   ((∀ i21 : Nat,
   (i21 < bActiveWeightsN →
   (Value.int IntKind.i64 (bActiveWeightsg03 i21)) = (Value.int IntKind.i64 (bActiveWeightsg0 i21)))) ∧
   True))))))) ∧
   ((Bool.true = Bool.true ∧
   (ro111 = ro119 ∧
   (3 = 3 ∧
   (1 = 1 ∧
   (bNextWeightsN = (selN (polB pPage pCap pLimit pLow pHigh pWeightsN pWeightsg0 pRuleDown pRuleSleep) pWeightsN bNextWeightsN) ∧
   (rc112 = rc120 ∧
   ((∀ i22 : Nat,
   (i22 < bNextWeightsN →
   (Value.int IntKind.i64 (bNextWeightsg04 i22)) = (Value.int IntKind.i64 (selZ (polB pPage pCap pLimit pLow pHigh pWeightsN pWeightsg0 pRuleDown pRuleSleep) (pWeightsg0 i22) (bNextWeightsg0 i22))))) ∧
   True))))))) ∧
   True)) ∧
   Bool.true = Bool.true)))))))))))))) ∧
  ((!(polB pPage pCap pLimit pLow pHigh pWeightsN pWeightsg014 pRuleDown pRuleSleep)) = Bool.false →
  (b1 = b1 ∧
   (Exists (fun (pWeightsg023 : (Nat →
   Int)) => ((pWeightsO = pWeightsO ∧
   (pWeightsN = pWeightsN ∧
   ([(fun (i24 : Nat) => (SC.int (pWeightsg0 i24)))] = [(fun (i25 : Nat) => (SC.int (pWeightsg023 i25)))] ∧
   (capC pWeightsN)))) ∧
   (∀ ro026 : (Option Addr),
   (∀ rc027 : Nat,
   (b13 = b13 ∧
   (b13 = b13 ∧
   (b13 = b13 ∧
   (b2 = b2 ∧
   (b2 = b2 ∧
   (Exists (fun (ro028 : (Option Addr)) => (Exists (fun (rc029 : Nat) => (Exists (fun (ro130 : (Option Addr)) => (Exists (fun (rc131 : Nat) => ((Value.tuple (List.toArray [(Value.agg (List.toArray [(Value.int IntKind.i64 bActivePage), (Value.int IntKind.i64 bActiveCap), (Value.int IntKind.i64 bActiveLimit), (Value.int IntKind.i64 bActiveLow), (Value.int IntKind.i64 bActiveHigh), (Value.slice ro09 bActiveWeightsN rc010), (Value.int IntKind.i64 bActiveRuleDown), (Value.int IntKind.i64 bActiveRuleSleep), (Value.int IntKind.i64 pPage), (Value.int IntKind.i64 pCap), (Value.int IntKind.i64 pLimit), (Value.int IntKind.i64 pLow), (Value.int IntKind.i64 pHigh), (Value.slice ro026 pWeightsN rc027), (Value.int IntKind.i64 pRuleDown), (Value.int IntKind.i64 pRuleSleep), (Value.bool Bool.true)])), (Value.bool Bool.true)])) = (Value.tuple (List.toArray [(Value.agg (List.toArray [(Value.int IntKind.i64 bActivePage), (Value.int IntKind.i64 bActiveCap), (Value.int IntKind.i64 bActiveLimit), (Value.int IntKind.i64 bActiveLow), (Value.int IntKind.i64 bActiveHigh), (Value.slice ro028 bActiveWeightsN rc029), (Value.int IntKind.i64 bActiveRuleDown), (Value.int IntKind.i64 bActiveRuleSleep), (Value.int IntKind.i64 (selZ (polB pPage pCap pLimit pLow pHigh pWeightsN pWeightsg0 pRuleDown pRuleSleep) pPage bNextPage)), (Value.int IntKind.i64 (selZ (polB pPage pCap pLimit pLow pHigh pWeightsN pWeightsg0 pRuleDown pRuleSleep) pCap bNextCap)), (Value.int IntKind.i64 (selZ (polB pPage pCap pLimit pLow pHigh pWeightsN pWeightsg0 pRuleDown pRuleSleep) pLimit bNextLimit)), (Value.int IntKind.i64 (selZ (polB pPage pCap pLimit pLow pHigh pWeightsN pWeightsg0 pRuleDown pRuleSleep) pLow bNextLow)), (Value.int IntKind.i64 (selZ (polB pPage pCap pLimit pLow pHigh pWeightsN pWeightsg0 pRuleDown pRuleSleep) pHigh bNextHigh)), (Value.slice ro130 (selN (polB pPage pCap pLimit pLow pHigh pWeightsN pWeightsg0 pRuleDown pRuleSleep) pWeightsN bNextWeightsN) rc131), (Value.int IntKind.i64 (selZ (polB pPage pCap pLimit pLow pHigh pWeightsN pWeightsg0 pRuleDown pRuleSleep) pRuleDown bNextRuleDown)), (Value.int IntKind.i64 (selZ (polB pPage pCap pLimit pLow pHigh pWeightsN pWeightsg0 pRuleDown pRuleSleep) pRuleSleep bNextRuleSleep)), (Value.bool (orB (polB pPage pCap pLimit pLow pHigh pWeightsN pWeightsg0 pRuleDown pRuleSleep) bWaits))])), (Value.bool (polB pPage pCap pLimit pLow pHigh pWeightsN pWeightsg0 pRuleDown pRuleSleep))])) ∧
   (((Bool.true = Bool.true ∧
   (ro09 = ro028 ∧
   (3 = 3 ∧
   (1 = 1 ∧
   (bActiveWeightsN = bActiveWeightsN ∧
   (rc010 = rc029 ∧
   ((∀ i32 : Nat,
   (i32 < bActiveWeightsN →
   (Value.int IntKind.i64 (bActiveWeightsg03 i32)) = (Value.int IntKind.i64 (bActiveWeightsg0 i32)))) ∧
   True))))))) ∧
   ((Bool.true = Bool.true ∧
   (ro026 = ro130 ∧
   (3 = 3 ∧
   (1 = 1 ∧
   (pWeightsN = (selN (polB pPage pCap pLimit pLow pHigh pWeightsN pWeightsg0 pRuleDown pRuleSleep) pWeightsN bNextWeightsN) ∧
   (rc027 = rc131 ∧
   ((∀ i33 : Nat,
   (i33 < pWeightsN →
   (Value.int IntKind.i64 (pWeightsg023 i33)) = (Value.int IntKind.i64 (selZ (polB pPage pCap pLimit pLow pHigh pWeightsN pWeightsg0 pRuleDown pRuleSleep) (pWeightsg0 i33) (bNextWeightsg0 i33))))) ∧
   True))))))) ∧
   True)) ∧
   Bool.true = Bool.true))))))))))))))))))))))))))))))))))))))))))) := by kernel_rfl
theorem baskI_any (bActivePage : Int) (bActiveCap : Int) (bActiveLimit : Int) (bActiveLow : Int) (bActiveHigh : Int) (bActiveWeightsO : Option Addr) (bActiveWeightsN bActiveWeightsC : Nat) (bActiveWeightsg0 : Nat → Int) (bActiveRuleDown : Int) (bActiveRuleSleep : Int) (bNextPage : Int) (bNextCap : Int) (bNextLimit : Int) (bNextLow : Int) (bNextHigh : Int) (bNextWeightsO : Option Addr) (bNextWeightsN bNextWeightsC : Nat) (bNextWeightsg0 : Nat → Int) (bNextRuleDown : Int) (bNextRuleSleep : Int) (bWaits : Bool) (pPage : Int) (pCap : Int) (pLimit : Int) (pLow : Int) (pHigh : Int) (pWeightsO : Option Addr) (pWeightsN pWeightsC : Nat) (pWeightsg0 : Nat → Int) (pRuleDown : Int) (pRuleSleep : Int) (w : World) (hrbActiveWeights : Row.sat w ⟨false, bActiveWeightsO, 0, 1, bActiveWeightsN, 0, [fun i => .int (bActiveWeightsg0 i)]⟩) (hrbNextWeights : Row.sat w ⟨false, bNextWeightsO, 0, 1, bNextWeightsN, 0, [fun i => .int (bNextWeightsg0 i)]⟩) (hrpWeights : Row.sat w ⟨false, pWeightsO, 0, 1, pWeightsN, 0, [fun i => .int (pWeightsg0 i)]⟩) (hpre : capC bActiveWeightsN ∧ capC bNextWeightsN ∧ capC pWeightsN) : Calls Try.prog 56 #[.agg #[.int .i64 bActivePage, .int .i64 bActiveCap, .int .i64 bActiveLimit, .int .i64 bActiveLow, .int .i64 bActiveHigh, .slice bActiveWeightsO bActiveWeightsN bActiveWeightsC, .int .i64 bActiveRuleDown, .int .i64 bActiveRuleSleep, .int .i64 bNextPage, .int .i64 bNextCap, .int .i64 bNextLimit, .int .i64 bNextLow, .int .i64 bNextHigh, .slice bNextWeightsO bNextWeightsN bNextWeightsC, .int .i64 bNextRuleDown, .int .i64 bNextRuleSleep, .bool bWaits], .agg #[.int .i64 pPage, .int .i64 pCap, .int .i64 pLimit, .int .i64 pLow, .int .i64 pHigh, .slice pWeightsO pWeightsN pWeightsC, .int .i64 pRuleDown, .int .i64 pRuleSleep]] w fun e w' => ∃ (ro0 : Option Addr) (rc0 : Nat) (ro1 : Option Addr) (rc1 : Nat), e = .returned (.tuple #[.agg #[.int .i64 (bActivePage), .int .i64 (bActiveCap), .int .i64 (bActiveLimit), .int .i64 (bActiveLow), .int .i64 (bActiveHigh), .slice ro0 (bActiveWeightsN) rc0, .int .i64 (bActiveRuleDown), .int .i64 (bActiveRuleSleep), .int .i64 (selZ (polB pPage pCap pLimit pLow pHigh pWeightsN pWeightsg0 pRuleDown pRuleSleep) pPage bNextPage), .int .i64 (selZ (polB pPage pCap pLimit pLow pHigh pWeightsN pWeightsg0 pRuleDown pRuleSleep) pCap bNextCap), .int .i64 (selZ (polB pPage pCap pLimit pLow pHigh pWeightsN pWeightsg0 pRuleDown pRuleSleep) pLimit bNextLimit), .int .i64 (selZ (polB pPage pCap pLimit pLow pHigh pWeightsN pWeightsg0 pRuleDown pRuleSleep) pLow bNextLow), .int .i64 (selZ (polB pPage pCap pLimit pLow pHigh pWeightsN pWeightsg0 pRuleDown pRuleSleep) pHigh bNextHigh), .slice ro1 (selN (polB pPage pCap pLimit pLow pHigh pWeightsN pWeightsg0 pRuleDown pRuleSleep) pWeightsN bNextWeightsN) rc1, .int .i64 (selZ (polB pPage pCap pLimit pLow pHigh pWeightsN pWeightsg0 pRuleDown pRuleSleep) pRuleDown bNextRuleDown), .int .i64 (selZ (polB pPage pCap pLimit pLow pHigh pWeightsN pWeightsg0 pRuleDown pRuleSleep) pRuleSleep bNextRuleSleep), .bool (orB (polB pPage pCap pLimit pLow pHigh pWeightsN pWeightsg0 pRuleDown pRuleSleep) bWaits)], .bool (polB pPage pCap pLimit pLow pHigh pWeightsN pWeightsg0 pRuleDown pRuleSleep)]) ∧ HS ⟨w, fun _ => False⟩ [.row ⟨true, ro0, 3, 1, bActiveWeightsN, rc0, [fun i => .int (bActiveWeightsg0 i)]⟩, .row ⟨true, ro1, 3, 1, selN (polB pPage pCap pLimit pLow pHigh pWeightsN pWeightsg0 pRuleDown pRuleSleep) pWeightsN bNextWeightsN, rc1, [fun i => .int (selZ (polB pPage pCap pLimit pLow pHigh pWeightsN pWeightsg0 pRuleDown pRuleSleep) (pWeightsg0 i) (bNextWeightsg0 i))]⟩] w' := by
  refine fnB (tb := [(42, sPolOk), (90, sCopyP), (89, sCopyB)]) ⟨sPolOk_ok_polI, sCopyP_ok_copyPI, sCopyB_ok_copyBI, trivial⟩ Try.func56 ((baskI_T bActivePage bActiveCap bActiveLimit bActiveLow bActiveHigh bActiveWeightsO bActiveWeightsN bActiveWeightsC bActiveWeightsg0 bActiveRuleDown bActiveRuleSleep bNextPage bNextCap bNextLimit bNextLow bNextHigh bNextWeightsO bNextWeightsN bNextWeightsC bNextWeightsg0 bNextRuleDown bNextRuleSleep bWaits pPage pCap pLimit pLow pHigh pWeightsO pWeightsN pWeightsC pWeightsg0 pRuleDown pRuleSleep).mpr ?_) (HS.rows (fun _ => False) [⟨false, bActiveWeightsO, 0, 1, bActiveWeightsN, 0, [fun i => .int (bActiveWeightsg0 i)]⟩, ⟨false, bNextWeightsO, 0, 1, bNextWeightsN, 0, [fun i => .int (bNextWeightsg0 i)]⟩, ⟨false, pWeightsO, 0, 1, pWeightsN, 0, [fun i => .int (pWeightsg0 i)]⟩] (by simp; exact ⟨hrbActiveWeights, hrbNextWeights, hrpWeights⟩)) (fun v ch' w' ⟨ro0, rc0, ro1, rc1, hk⟩ hs => ⟨ro0, rc0, ro1, rc1, by rw [hk.1], hk.hs hs⟩)
  clear hrbActiveWeights hrbNextWeights hrpWeights
  cases hp : polB pPage pCap pLimit pLow pHigh pWeightsN pWeightsg0 pRuleDown pRuleSleep
  all_goals
    repeat' (first
      | with_reducible exact rfl
      | exact True.intro
      | with_reducible assumption
      | refine And.intro ?_ ?_
      | apply Exists.intro
      | (intro h; exfalso; simp [hp] at h; done)
      | (intro h; exfalso; simp [hp] at h; omega)
      | intro _
      | omega
      | (simp; omega))
  all_goals (try simp_all [ifN, ifZ, selZ, selN, orB])
theorem baskS_T (bActivePage : Int) (bActiveCap : Int) (bActiveLimit : Int) (bActiveLow : Int) (bActiveHigh : Int) (bActiveWeightsO : Option Addr) (bActiveWeightsN bActiveWeightsC : Nat) (bActiveWeightsg0 : Nat → Int) (bActiveRuleDown : Int) (bActiveRuleSleep : Int) (bNextPage : Int) (bNextCap : Int) (bNextLimit : Int) (bNextLow : Int) (bNextHigh : Int) (bNextWeightsO : Option Addr) (bNextWeightsN bNextWeightsC : Nat) (bNextWeightsg0 : Nat → Int) (bNextRuleDown : Int) (bNextRuleSleep : Int) (bWaits : Bool) (pPage : Int) (pCap : Int) (pLimit : Int) (pLow : Int) (pHigh : Int) (pWeightsO : Option Addr) (pWeightsN pWeightsC : Nat) (pWeightsg0 : Nat → Int) (pRuleDown : Int) (pRuleSleep : Int) : (exFn Try.prog {tb := [(40, sPolOk), (88, sCopyP), (87, sCopyB)]} 400 Try.f55 ([.a (.agg [.int bActivePage, .int bActiveCap, .int bActiveLimit, .int bActiveLow, .int bActiveHigh, .sl 0 bActiveWeightsO bActiveWeightsN bActiveWeightsC, .int bActiveRuleDown, .int bActiveRuleSleep, .int bNextPage, .int bNextCap, .int bNextLimit, .int bNextLow, .int bNextHigh, .sl 1 bNextWeightsO bNextWeightsN bNextWeightsC, .int bNextRuleDown, .int bNextRuleSleep, .bool bWaits]), .a (.agg [.int pPage, .int pCap, .int pLimit, .int pLow, .int pHigh, .sl 2 pWeightsO pWeightsN pWeightsC, .int pRuleDown, .int pRuleSleep])]) ([.row ⟨false, bActiveWeightsO, 0, 1, bActiveWeightsN, 0, [fun i => .int (bActiveWeightsg0 i)]⟩, .row ⟨false, bNextWeightsO, 0, 1, bNextWeightsN, 0, [fun i => .int (bNextWeightsg0 i)]⟩, .row ⟨false, pWeightsO, 0, 1, pWeightsN, 0, [fun i => .int (pWeightsg0 i)]⟩]) (fun v ch => ∃ (ro0 : Option Addr) (rc0 : Nat) (ro1 : Option Addr) (rc1 : Nat), OutR v ch (.tuple #[.agg #[.int .i64 (bActivePage), .int .i64 (bActiveCap), .int .i64 (bActiveLimit), .int .i64 (bActiveLow), .int .i64 (bActiveHigh), .slice ro0 (bActiveWeightsN) rc0, .int .i64 (bActiveRuleDown), .int .i64 (bActiveRuleSleep), .int .i64 (selZ (polB pPage pCap pLimit pLow pHigh pWeightsN pWeightsg0 pRuleDown pRuleSleep) pPage bNextPage), .int .i64 (selZ (polB pPage pCap pLimit pLow pHigh pWeightsN pWeightsg0 pRuleDown pRuleSleep) pCap bNextCap), .int .i64 (selZ (polB pPage pCap pLimit pLow pHigh pWeightsN pWeightsg0 pRuleDown pRuleSleep) pLimit bNextLimit), .int .i64 (selZ (polB pPage pCap pLimit pLow pHigh pWeightsN pWeightsg0 pRuleDown pRuleSleep) pLow bNextLow), .int .i64 (selZ (polB pPage pCap pLimit pLow pHigh pWeightsN pWeightsg0 pRuleDown pRuleSleep) pHigh bNextHigh), .slice ro1 (selN (polB pPage pCap pLimit pLow pHigh pWeightsN pWeightsg0 pRuleDown pRuleSleep) pWeightsN bNextWeightsN) rc1, .int .i64 (selZ (polB pPage pCap pLimit pLow pHigh pWeightsN pWeightsg0 pRuleDown pRuleSleep) pRuleDown bNextRuleDown), .int .i64 (selZ (polB pPage pCap pLimit pLow pHigh pWeightsN pWeightsg0 pRuleDown pRuleSleep) pRuleSleep bNextRuleSleep), .bool (orB (polB pPage pCap pLimit pLow pHigh pWeightsN pWeightsg0 pRuleDown pRuleSleep) bWaits)], .bool (polB pPage pCap pLimit pLow pHigh pWeightsN pWeightsg0 pRuleDown pRuleSleep)]) [.row ⟨true, ro0, 3, 1, bActiveWeightsN, rc0, [fun i => .int (bActiveWeightsg0 i)]⟩, .row ⟨true, ro1, 3, 1, selN (polB pPage pCap pLimit pLow pHigh pWeightsN pWeightsg0 pRuleDown pRuleSleep) pWeightsN bNextWeightsN, rc1, [fun i => .int (selZ (polB pPage pCap pLimit pLow pHigh pWeightsN pWeightsg0 pRuleDown pRuleSleep) (pWeightsg0 i) (bNextWeightsg0 i))]⟩])) = (
  (∀ b0 : Nat,
  (∀ b1 : Nat,
  (∀ b2 : Nat,
  (b0 = b0 ∧
  (Exists (fun (bActiveWeightsg03 : (Nat →
  Int)) => (Exists (fun (bNextWeightsg04 : (Nat →
  Int)) => ((bActiveWeightsO = bActiveWeightsO ∧
  (bActiveWeightsN = bActiveWeightsN ∧
  ([(fun (i5 : Nat) => (SC.int (bActiveWeightsg0 i5)))] = [(fun (i6 : Nat) => (SC.int (bActiveWeightsg03 i6)))] ∧
  (bNextWeightsO = bNextWeightsO ∧
  (bNextWeightsN = bNextWeightsN ∧
  ([(fun (i7 : Nat) => (SC.int (bNextWeightsg0 i7)))] = [(fun (i8 : Nat) => (SC.int (bNextWeightsg04 i8)))] ∧
  ((capC bActiveWeightsN) ∧
  (capC bNextWeightsN)))))))) ∧
  (∀ ro09 : (Option Addr),
  (∀ rc010 : Nat,
  (∀ ro111 : (Option Addr),
  (∀ rc112 : Nat,
  (∀ b13 : Nat,
  (b13 = b13 ∧
  (b1 = b1 ∧
  (Exists (fun (pWeightsg014 : (Nat →
  Int)) => ((pWeightsO = pWeightsO ∧
  (pWeightsN = pWeightsN ∧
  ([(fun (i15 : Nat) => (SC.int (pWeightsg0 i15)))] = [(fun (i16 : Nat) => (SC.int (pWeightsg014 i16)))] ∧
  (capC pWeightsN)))) ∧
  (((!(polB pPage pCap pLimit pLow pHigh pWeightsN pWeightsg014 pRuleDown pRuleSleep)) = Bool.true →
  (b13 = b13 ∧
   (b2 = b2 ∧
   (b2 = b2 ∧
   (Exists (fun (ro017 : (Option Addr)) => (Exists (fun (rc018 : Nat) => (Exists (fun (ro119 : (Option Addr)) => (Exists (fun (rc120 : Nat) => ((Value.tuple (List.toArray [(Value.agg (List.toArray [(Value.int IntKind.i64 bActivePage), (Value.int IntKind.i64 bActiveCap), (Value.int IntKind.i64 bActiveLimit), (Value.int IntKind.i64 bActiveLow), (Value.int IntKind.i64 bActiveHigh), (Value.slice ro09 bActiveWeightsN rc010), (Value.int IntKind.i64 bActiveRuleDown), (Value.int IntKind.i64 bActiveRuleSleep), (Value.int IntKind.i64 bNextPage), (Value.int IntKind.i64 bNextCap), (Value.int IntKind.i64 bNextLimit), (Value.int IntKind.i64 bNextLow), (Value.int IntKind.i64 bNextHigh), (Value.slice ro111 bNextWeightsN rc112), (Value.int IntKind.i64 bNextRuleDown), (Value.int IntKind.i64 bNextRuleSleep), (Value.bool bWaits)])), (Value.bool Bool.false)])) = (Value.tuple (List.toArray [(Value.agg (List.toArray [(Value.int IntKind.i64 bActivePage), (Value.int IntKind.i64 bActiveCap), (Value.int IntKind.i64 bActiveLimit), (Value.int IntKind.i64 bActiveLow), (Value.int IntKind.i64 bActiveHigh), (Value.slice ro017 bActiveWeightsN rc018), (Value.int IntKind.i64 bActiveRuleDown), (Value.int IntKind.i64 bActiveRuleSleep), (Value.int IntKind.i64 (selZ (polB pPage pCap pLimit pLow pHigh pWeightsN pWeightsg0 pRuleDown pRuleSleep) pPage bNextPage)), (Value.int IntKind.i64 (selZ (polB pPage pCap pLimit pLow pHigh pWeightsN pWeightsg0 pRuleDown pRuleSleep) pCap bNextCap)), (Value.int IntKind.i64 (selZ (polB pPage pCap pLimit pLow pHigh pWeightsN pWeightsg0 pRuleDown pRuleSleep) pLimit bNextLimit)), (Value.int IntKind.i64 (selZ (polB pPage pCap pLimit pLow pHigh pWeightsN pWeightsg0 pRuleDown pRuleSleep) pLow bNextLow)), (Value.int IntKind.i64 (selZ (polB pPage pCap pLimit pLow pHigh pWeightsN pWeightsg0 pRuleDown pRuleSleep) pHigh bNextHigh)), (Value.slice ro119 (selN (polB pPage pCap pLimit pLow pHigh pWeightsN pWeightsg0 pRuleDown pRuleSleep) pWeightsN bNextWeightsN) rc120), (Value.int IntKind.i64 (selZ (polB pPage pCap pLimit pLow pHigh pWeightsN pWeightsg0 pRuleDown pRuleSleep) pRuleDown bNextRuleDown)), (Value.int IntKind.i64 (selZ (polB pPage pCap pLimit pLow pHigh pWeightsN pWeightsg0 pRuleDown pRuleSleep) pRuleSleep bNextRuleSleep)), (Value.bool (orB (polB pPage pCap pLimit pLow pHigh pWeightsN pWeightsg0 pRuleDown pRuleSleep) bWaits))])), (Value.bool (polB pPage pCap pLimit pLow pHigh pWeightsN pWeightsg0 pRuleDown pRuleSleep))])) ∧
   (((Bool.true = Bool.true ∧
   (ro09 = ro017 ∧
   (3 = 3 ∧
   (1 = 1 ∧
   (bActiveWeightsN = bActiveWeightsN ∧
   (rc010 = rc018 ∧
   ((∀ i21 : Nat,
   (i21 < bActiveWeightsN →
   (Value.int IntKind.i64 (bActiveWeightsg03 i21)) = (Value.int IntKind.i64 (bActiveWeightsg0 i21)))) ∧
   True))))))) ∧
   ((Bool.true = Bool.true ∧
   (ro111 = ro119 ∧
   (3 = 3 ∧
   (1 = 1 ∧
   (bNextWeightsN = (selN (polB pPage pCap pLimit pLow pHigh pWeightsN pWeightsg0 pRuleDown pRuleSleep) pWeightsN bNextWeightsN) ∧
   (rc112 = rc120 ∧
   ((∀ i22 : Nat,
   (i22 < bNextWeightsN →
   (Value.int IntKind.i64 (bNextWeightsg04 i22)) = (Value.int IntKind.i64 (selZ (polB pPage pCap pLimit pLow pHigh pWeightsN pWeightsg0 pRuleDown pRuleSleep) (pWeightsg0 i22) (bNextWeightsg0 i22))))) ∧
   True))))))) ∧
   True)) ∧
   Bool.true = Bool.true)))))))))))))) ∧
  ((!(polB pPage pCap pLimit pLow pHigh pWeightsN pWeightsg014 pRuleDown pRuleSleep)) = Bool.false →
  (b1 = b1 ∧
   (Exists (fun (pWeightsg023 : (Nat →
   Int)) => ((pWeightsO = pWeightsO ∧
   (pWeightsN = pWeightsN ∧
   ([(fun (i24 : Nat) => (SC.int (pWeightsg0 i24)))] = [(fun (i25 : Nat) => (SC.int (pWeightsg023 i25)))] ∧
   (capC pWeightsN)))) ∧
   (∀ ro026 : (Option Addr),
   (∀ rc027 : Nat,
   (b13 = b13 ∧
   (b13 = b13 ∧
   (b13 = b13 ∧
   (b2 = b2 ∧
   (b2 = b2 ∧
   (Exists (fun (ro028 : (Option Addr)) => (Exists (fun (rc029 : Nat) => (Exists (fun (ro130 : (Option Addr)) => (Exists (fun (rc131 : Nat) => ((Value.tuple (List.toArray [(Value.agg (List.toArray [(Value.int IntKind.i64 bActivePage), (Value.int IntKind.i64 bActiveCap), (Value.int IntKind.i64 bActiveLimit), (Value.int IntKind.i64 bActiveLow), (Value.int IntKind.i64 bActiveHigh), (Value.slice ro09 bActiveWeightsN rc010), (Value.int IntKind.i64 bActiveRuleDown), (Value.int IntKind.i64 bActiveRuleSleep), (Value.int IntKind.i64 pPage), (Value.int IntKind.i64 pCap), (Value.int IntKind.i64 pLimit), (Value.int IntKind.i64 pLow), (Value.int IntKind.i64 pHigh), (Value.slice ro026 pWeightsN rc027), (Value.int IntKind.i64 pRuleDown), (Value.int IntKind.i64 pRuleSleep), (Value.bool Bool.true)])), (Value.bool Bool.true)])) = (Value.tuple (List.toArray [(Value.agg (List.toArray [(Value.int IntKind.i64 bActivePage), (Value.int IntKind.i64 bActiveCap), (Value.int IntKind.i64 bActiveLimit), (Value.int IntKind.i64 bActiveLow), (Value.int IntKind.i64 bActiveHigh), (Value.slice ro028 bActiveWeightsN rc029), (Value.int IntKind.i64 bActiveRuleDown), (Value.int IntKind.i64 bActiveRuleSleep), (Value.int IntKind.i64 (selZ (polB pPage pCap pLimit pLow pHigh pWeightsN pWeightsg0 pRuleDown pRuleSleep) pPage bNextPage)), (Value.int IntKind.i64 (selZ (polB pPage pCap pLimit pLow pHigh pWeightsN pWeightsg0 pRuleDown pRuleSleep) pCap bNextCap)), (Value.int IntKind.i64 (selZ (polB pPage pCap pLimit pLow pHigh pWeightsN pWeightsg0 pRuleDown pRuleSleep) pLimit bNextLimit)), (Value.int IntKind.i64 (selZ (polB pPage pCap pLimit pLow pHigh pWeightsN pWeightsg0 pRuleDown pRuleSleep) pLow bNextLow)), (Value.int IntKind.i64 (selZ (polB pPage pCap pLimit pLow pHigh pWeightsN pWeightsg0 pRuleDown pRuleSleep) pHigh bNextHigh)), (Value.slice ro130 (selN (polB pPage pCap pLimit pLow pHigh pWeightsN pWeightsg0 pRuleDown pRuleSleep) pWeightsN bNextWeightsN) rc131), (Value.int IntKind.i64 (selZ (polB pPage pCap pLimit pLow pHigh pWeightsN pWeightsg0 pRuleDown pRuleSleep) pRuleDown bNextRuleDown)), (Value.int IntKind.i64 (selZ (polB pPage pCap pLimit pLow pHigh pWeightsN pWeightsg0 pRuleDown pRuleSleep) pRuleSleep bNextRuleSleep)), (Value.bool (orB (polB pPage pCap pLimit pLow pHigh pWeightsN pWeightsg0 pRuleDown pRuleSleep) bWaits))])), (Value.bool (polB pPage pCap pLimit pLow pHigh pWeightsN pWeightsg0 pRuleDown pRuleSleep))])) ∧
   (((Bool.true = Bool.true ∧
   (ro09 = ro028 ∧
   (3 = 3 ∧
   (1 = 1 ∧
   (bActiveWeightsN = bActiveWeightsN ∧
   (rc010 = rc029 ∧
   ((∀ i32 : Nat,
   (i32 < bActiveWeightsN →
   (Value.int IntKind.i64 (bActiveWeightsg03 i32)) = (Value.int IntKind.i64 (bActiveWeightsg0 i32)))) ∧
   True))))))) ∧
   ((Bool.true = Bool.true ∧
   (ro026 = ro130 ∧
   (3 = 3 ∧
   (1 = 1 ∧
   (pWeightsN = (selN (polB pPage pCap pLimit pLow pHigh pWeightsN pWeightsg0 pRuleDown pRuleSleep) pWeightsN bNextWeightsN) ∧
   (rc027 = rc131 ∧
   ((∀ i33 : Nat,
   (i33 < pWeightsN →
   (Value.int IntKind.i64 (pWeightsg023 i33)) = (Value.int IntKind.i64 (selZ (polB pPage pCap pLimit pLow pHigh pWeightsN pWeightsg0 pRuleDown pRuleSleep) (pWeightsg0 i33) (bNextWeightsg0 i33))))) ∧
   True))))))) ∧
   True)) ∧
   Bool.true = Bool.true))))))))))))))))))))))))))))))))))))))))))) := by kernel_rfl
theorem baskS_any (bActivePage : Int) (bActiveCap : Int) (bActiveLimit : Int) (bActiveLow : Int) (bActiveHigh : Int) (bActiveWeightsO : Option Addr) (bActiveWeightsN bActiveWeightsC : Nat) (bActiveWeightsg0 : Nat → Int) (bActiveRuleDown : Int) (bActiveRuleSleep : Int) (bNextPage : Int) (bNextCap : Int) (bNextLimit : Int) (bNextLow : Int) (bNextHigh : Int) (bNextWeightsO : Option Addr) (bNextWeightsN bNextWeightsC : Nat) (bNextWeightsg0 : Nat → Int) (bNextRuleDown : Int) (bNextRuleSleep : Int) (bWaits : Bool) (pPage : Int) (pCap : Int) (pLimit : Int) (pLow : Int) (pHigh : Int) (pWeightsO : Option Addr) (pWeightsN pWeightsC : Nat) (pWeightsg0 : Nat → Int) (pRuleDown : Int) (pRuleSleep : Int) (w : World) (hrbActiveWeights : Row.sat w ⟨false, bActiveWeightsO, 0, 1, bActiveWeightsN, 0, [fun i => .int (bActiveWeightsg0 i)]⟩) (hrbNextWeights : Row.sat w ⟨false, bNextWeightsO, 0, 1, bNextWeightsN, 0, [fun i => .int (bNextWeightsg0 i)]⟩) (hrpWeights : Row.sat w ⟨false, pWeightsO, 0, 1, pWeightsN, 0, [fun i => .int (pWeightsg0 i)]⟩) (hpre : capC bActiveWeightsN ∧ capC bNextWeightsN ∧ capC pWeightsN) : Calls Try.prog 55 #[.agg #[.int .i64 bActivePage, .int .i64 bActiveCap, .int .i64 bActiveLimit, .int .i64 bActiveLow, .int .i64 bActiveHigh, .slice bActiveWeightsO bActiveWeightsN bActiveWeightsC, .int .i64 bActiveRuleDown, .int .i64 bActiveRuleSleep, .int .i64 bNextPage, .int .i64 bNextCap, .int .i64 bNextLimit, .int .i64 bNextLow, .int .i64 bNextHigh, .slice bNextWeightsO bNextWeightsN bNextWeightsC, .int .i64 bNextRuleDown, .int .i64 bNextRuleSleep, .bool bWaits], .agg #[.int .i64 pPage, .int .i64 pCap, .int .i64 pLimit, .int .i64 pLow, .int .i64 pHigh, .slice pWeightsO pWeightsN pWeightsC, .int .i64 pRuleDown, .int .i64 pRuleSleep]] w fun e w' => ∃ (ro0 : Option Addr) (rc0 : Nat) (ro1 : Option Addr) (rc1 : Nat), e = .returned (.tuple #[.agg #[.int .i64 (bActivePage), .int .i64 (bActiveCap), .int .i64 (bActiveLimit), .int .i64 (bActiveLow), .int .i64 (bActiveHigh), .slice ro0 (bActiveWeightsN) rc0, .int .i64 (bActiveRuleDown), .int .i64 (bActiveRuleSleep), .int .i64 (selZ (polB pPage pCap pLimit pLow pHigh pWeightsN pWeightsg0 pRuleDown pRuleSleep) pPage bNextPage), .int .i64 (selZ (polB pPage pCap pLimit pLow pHigh pWeightsN pWeightsg0 pRuleDown pRuleSleep) pCap bNextCap), .int .i64 (selZ (polB pPage pCap pLimit pLow pHigh pWeightsN pWeightsg0 pRuleDown pRuleSleep) pLimit bNextLimit), .int .i64 (selZ (polB pPage pCap pLimit pLow pHigh pWeightsN pWeightsg0 pRuleDown pRuleSleep) pLow bNextLow), .int .i64 (selZ (polB pPage pCap pLimit pLow pHigh pWeightsN pWeightsg0 pRuleDown pRuleSleep) pHigh bNextHigh), .slice ro1 (selN (polB pPage pCap pLimit pLow pHigh pWeightsN pWeightsg0 pRuleDown pRuleSleep) pWeightsN bNextWeightsN) rc1, .int .i64 (selZ (polB pPage pCap pLimit pLow pHigh pWeightsN pWeightsg0 pRuleDown pRuleSleep) pRuleDown bNextRuleDown), .int .i64 (selZ (polB pPage pCap pLimit pLow pHigh pWeightsN pWeightsg0 pRuleDown pRuleSleep) pRuleSleep bNextRuleSleep), .bool (orB (polB pPage pCap pLimit pLow pHigh pWeightsN pWeightsg0 pRuleDown pRuleSleep) bWaits)], .bool (polB pPage pCap pLimit pLow pHigh pWeightsN pWeightsg0 pRuleDown pRuleSleep)]) ∧ HS ⟨w, fun _ => False⟩ [.row ⟨true, ro0, 3, 1, bActiveWeightsN, rc0, [fun i => .int (bActiveWeightsg0 i)]⟩, .row ⟨true, ro1, 3, 1, selN (polB pPage pCap pLimit pLow pHigh pWeightsN pWeightsg0 pRuleDown pRuleSleep) pWeightsN bNextWeightsN, rc1, [fun i => .int (selZ (polB pPage pCap pLimit pLow pHigh pWeightsN pWeightsg0 pRuleDown pRuleSleep) (pWeightsg0 i) (bNextWeightsg0 i))]⟩] w' := by
  refine fnB (tb := [(40, sPolOk), (88, sCopyP), (87, sCopyB)]) ⟨sPolOk_ok_polS, sCopyP_ok_copyPS, sCopyB_ok_copyBS, trivial⟩ Try.func55 ((baskS_T bActivePage bActiveCap bActiveLimit bActiveLow bActiveHigh bActiveWeightsO bActiveWeightsN bActiveWeightsC bActiveWeightsg0 bActiveRuleDown bActiveRuleSleep bNextPage bNextCap bNextLimit bNextLow bNextHigh bNextWeightsO bNextWeightsN bNextWeightsC bNextWeightsg0 bNextRuleDown bNextRuleSleep bWaits pPage pCap pLimit pLow pHigh pWeightsO pWeightsN pWeightsC pWeightsg0 pRuleDown pRuleSleep).mpr ?_) (HS.rows (fun _ => False) [⟨false, bActiveWeightsO, 0, 1, bActiveWeightsN, 0, [fun i => .int (bActiveWeightsg0 i)]⟩, ⟨false, bNextWeightsO, 0, 1, bNextWeightsN, 0, [fun i => .int (bNextWeightsg0 i)]⟩, ⟨false, pWeightsO, 0, 1, pWeightsN, 0, [fun i => .int (pWeightsg0 i)]⟩] (by simp; exact ⟨hrbActiveWeights, hrbNextWeights, hrpWeights⟩)) (fun v ch' w' ⟨ro0, rc0, ro1, rc1, hk⟩ hs => ⟨ro0, rc0, ro1, rc1, by rw [hk.1], hk.hs hs⟩)
  clear hrbActiveWeights hrbNextWeights hrpWeights
  cases hp : polB pPage pCap pLimit pLow pHigh pWeightsN pWeightsg0 pRuleDown pRuleSleep
  all_goals
    repeat' (first
      | with_reducible exact rfl
      | exact True.intro
      | with_reducible assumption
      | refine And.intro ?_ ?_
      | apply Exists.intro
      | (intro h; exfalso; simp [hp] at h; done)
      | (intro h; exfalso; simp [hp] at h; omega)
      | intro _
      | omega
      | (simp; omega))
  all_goals (try simp_all [ifN, ifZ, selZ, selN, orB])
def sBAsk : Sm := fun args ch kk =>
  match args with
  | [.a (.agg [c0, c1, c2, c3, c4, .sl i0 a0 n0 d0, c5, c6, c7, c8, c9, c10, c11, .sl i1 a1 n1 d1, c12, c13, c14]), .a (.agg [c15, c16, c17, c18, c19, .sl i2 a2 n2 d2, c20, c21])] =>
    match ch[i0]?, ch[i1]?, ch[i2]?, ints [c0, c1, c2, c3, c4, c5, c6, c7, c8, c9, c10, c11, c12, c13, c15, c16, c17, c18, c19, c20, c21], bools [c14] with
    | some (.row r0), some (.row r1), some (.row r2), some [bActivePage, bActiveCap, bActiveLimit, bActiveLow, bActiveHigh, bActiveRuleDown, bActiveRuleSleep, bNextPage, bNextCap, bNextLimit, bNextLow, bNextHigh, bNextRuleDown, bNextRuleSleep, pPage, pCap, pLimit, pLow, pHigh, pRuleDown, pRuleSleep], some [bWaits] => ∃ bActiveWeightsg0 bNextWeightsg0 pWeightsg0 : Nat → Int, (a0 = r0.ao ∧ n0 = r0.n ∧ r0.fld = [fun i => .int (bActiveWeightsg0 i)] ∧ a1 = r1.ao ∧ n1 = r1.n ∧ r1.fld = [fun i => .int (bNextWeightsg0 i)] ∧ a2 = r2.ao ∧ n2 = r2.n ∧ r2.fld = [fun i => .int (pWeightsg0 i)] ∧ capC n0 ∧ capC n1 ∧ capC n2) ∧ ∀ (ro0 : Option Addr) (rc0 : Nat), ∀ (ro1 : Option Addr) (rc1 : Nat), kk (.tup [.agg [.int (bActivePage), .int (bActiveCap), .int (bActiveLimit), .int (bActiveLow), .int (bActiveHigh), .sl (ch.length) ro0 (n0) rc0, .int (bActiveRuleDown), .int (bActiveRuleSleep), .int (selZ (polB pPage pCap pLimit pLow pHigh n2 pWeightsg0 pRuleDown pRuleSleep) pPage bNextPage), .int (selZ (polB pPage pCap pLimit pLow pHigh n2 pWeightsg0 pRuleDown pRuleSleep) pCap bNextCap), .int (selZ (polB pPage pCap pLimit pLow pHigh n2 pWeightsg0 pRuleDown pRuleSleep) pLimit bNextLimit), .int (selZ (polB pPage pCap pLimit pLow pHigh n2 pWeightsg0 pRuleDown pRuleSleep) pLow bNextLow), .int (selZ (polB pPage pCap pLimit pLow pHigh n2 pWeightsg0 pRuleDown pRuleSleep) pHigh bNextHigh), .sl (ch.length + 1) ro1 (selN (polB pPage pCap pLimit pLow pHigh n2 pWeightsg0 pRuleDown pRuleSleep) n2 n1) rc1, .int (selZ (polB pPage pCap pLimit pLow pHigh n2 pWeightsg0 pRuleDown pRuleSleep) pRuleDown bNextRuleDown), .int (selZ (polB pPage pCap pLimit pLow pHigh n2 pWeightsg0 pRuleDown pRuleSleep) pRuleSleep bNextRuleSleep), .bool (orB (polB pPage pCap pLimit pLow pHigh n2 pWeightsg0 pRuleDown pRuleSleep) bWaits)], .c (.bool (polB pPage pCap pLimit pLow pHigh n2 pWeightsg0 pRuleDown pRuleSleep))]) (ch ++ [.row ⟨true, ro0, 3, 1, n0, rc0, [fun i => .int (bActiveWeightsg0 i)]⟩, .row ⟨true, ro1, 3, 1, selN (polB pPage pCap pLimit pLow pHigh n2 pWeightsg0 pRuleDown pRuleSleep) n2 n1, rc1, [fun i => .int (selZ (polB pPage pCap pLimit pLow pHigh n2 pWeightsg0 pRuleDown pRuleSleep) (pWeightsg0 i) (bNextWeightsg0 i))]⟩]) []
    | _, _, _, _, _ => False
  | _ => False
theorem sBAsk_ok {f : FuncId} (hc : ∀ args w, (callFunc f args).run Try.prog w = .ok (.enter f args) w) (h : ∀ (bActivePage : Int) (bActiveCap : Int) (bActiveLimit : Int) (bActiveLow : Int) (bActiveHigh : Int) (bActiveWeightsO : Option Addr) (bActiveWeightsN bActiveWeightsC : Nat) (bActiveWeightsg0 : Nat → Int) (bActiveRuleDown : Int) (bActiveRuleSleep : Int) (bNextPage : Int) (bNextCap : Int) (bNextLimit : Int) (bNextLow : Int) (bNextHigh : Int) (bNextWeightsO : Option Addr) (bNextWeightsN bNextWeightsC : Nat) (bNextWeightsg0 : Nat → Int) (bNextRuleDown : Int) (bNextRuleSleep : Int) (bWaits : Bool) (pPage : Int) (pCap : Int) (pLimit : Int) (pLow : Int) (pHigh : Int) (pWeightsO : Option Addr) (pWeightsN pWeightsC : Nat) (pWeightsg0 : Nat → Int) (pRuleDown : Int) (pRuleSleep : Int) (w : World), Row.sat w ⟨false, bActiveWeightsO, 0, 1, bActiveWeightsN, 0, [fun i => .int (bActiveWeightsg0 i)]⟩ → Row.sat w ⟨false, bNextWeightsO, 0, 1, bNextWeightsN, 0, [fun i => .int (bNextWeightsg0 i)]⟩ → Row.sat w ⟨false, pWeightsO, 0, 1, pWeightsN, 0, [fun i => .int (pWeightsg0 i)]⟩ → capC bActiveWeightsN ∧ capC bNextWeightsN ∧ capC pWeightsN → Calls Try.prog f #[.agg #[.int .i64 bActivePage, .int .i64 bActiveCap, .int .i64 bActiveLimit, .int .i64 bActiveLow, .int .i64 bActiveHigh, .slice bActiveWeightsO bActiveWeightsN bActiveWeightsC, .int .i64 bActiveRuleDown, .int .i64 bActiveRuleSleep, .int .i64 bNextPage, .int .i64 bNextCap, .int .i64 bNextLimit, .int .i64 bNextLow, .int .i64 bNextHigh, .slice bNextWeightsO bNextWeightsN bNextWeightsC, .int .i64 bNextRuleDown, .int .i64 bNextRuleSleep, .bool bWaits], .agg #[.int .i64 pPage, .int .i64 pCap, .int .i64 pLimit, .int .i64 pLow, .int .i64 pHigh, .slice pWeightsO pWeightsN pWeightsC, .int .i64 pRuleDown, .int .i64 pRuleSleep]] w fun e w' => ∃ (ro0 : Option Addr) (rc0 : Nat) (ro1 : Option Addr) (rc1 : Nat), e = .returned (.tuple #[.agg #[.int .i64 (bActivePage), .int .i64 (bActiveCap), .int .i64 (bActiveLimit), .int .i64 (bActiveLow), .int .i64 (bActiveHigh), .slice ro0 (bActiveWeightsN) rc0, .int .i64 (bActiveRuleDown), .int .i64 (bActiveRuleSleep), .int .i64 (selZ (polB pPage pCap pLimit pLow pHigh pWeightsN pWeightsg0 pRuleDown pRuleSleep) pPage bNextPage), .int .i64 (selZ (polB pPage pCap pLimit pLow pHigh pWeightsN pWeightsg0 pRuleDown pRuleSleep) pCap bNextCap), .int .i64 (selZ (polB pPage pCap pLimit pLow pHigh pWeightsN pWeightsg0 pRuleDown pRuleSleep) pLimit bNextLimit), .int .i64 (selZ (polB pPage pCap pLimit pLow pHigh pWeightsN pWeightsg0 pRuleDown pRuleSleep) pLow bNextLow), .int .i64 (selZ (polB pPage pCap pLimit pLow pHigh pWeightsN pWeightsg0 pRuleDown pRuleSleep) pHigh bNextHigh), .slice ro1 (selN (polB pPage pCap pLimit pLow pHigh pWeightsN pWeightsg0 pRuleDown pRuleSleep) pWeightsN bNextWeightsN) rc1, .int .i64 (selZ (polB pPage pCap pLimit pLow pHigh pWeightsN pWeightsg0 pRuleDown pRuleSleep) pRuleDown bNextRuleDown), .int .i64 (selZ (polB pPage pCap pLimit pLow pHigh pWeightsN pWeightsg0 pRuleDown pRuleSleep) pRuleSleep bNextRuleSleep), .bool (orB (polB pPage pCap pLimit pLow pHigh pWeightsN pWeightsg0 pRuleDown pRuleSleep) bWaits)], .bool (polB pPage pCap pLimit pLow pHigh pWeightsN pWeightsg0 pRuleDown pRuleSleep)]) ∧ HS ⟨w, fun _ => False⟩ [.row ⟨true, ro0, 3, 1, bActiveWeightsN, rc0, [fun i => .int (bActiveWeightsg0 i)]⟩, .row ⟨true, ro1, 3, 1, selN (polB pPage pCap pLimit pLow pHigh pWeightsN pWeightsg0 pRuleDown pRuleSleep) pWeightsN bNextWeightsN, rc1, [fun i => .int (selZ (polB pPage pCap pLimit pLow pHigh pWeightsN pWeightsg0 pRuleDown pRuleSleep) (pWeightsg0 i) (bNextWeightsg0 i))]⟩] w') : SmOK Try.prog f sBAsk := by
  refine smN hc fun args ch kk w X h0 hs => ?_
  unfold sBAsk at h0
  split at h0
  · rename_i c0 c1 c2 c3 c4 i0 a0 n0 d0 c5 c6 c7 c8 c9 c10 c11 i1 a1 n1 d1 c12 c13 c14 c15 c16 c17 c18 c19 i2 a2 n2 d2 c20 c21
    split at h0
    · rename_i r0 r1 r2 bActivePage bActiveCap bActiveLimit bActiveLow bActiveHigh bActiveRuleDown bActiveRuleSleep bNextPage bNextCap bNextLimit bNextLow bNextHigh bNextRuleDown bNextRuleSleep pPage pCap pLimit pLow pHigh pRuleDown pRuleSleep bWaits hr0 hr1 hr2 hi hb
      obtain ⟨bActiveWeightsg0, bNextWeightsg0, pWeightsg0, ⟨rfl, rfl, hf0, rfl, rfl, hf1, rfl, rfl, hf2, hpre⟩, h0⟩ := h0
      obtain ⟨ec0, hi⟩ := ints_cons hi
      obtain ⟨ec1, hi⟩ := ints_cons hi
      obtain ⟨ec2, hi⟩ := ints_cons hi
      obtain ⟨ec3, hi⟩ := ints_cons hi
      obtain ⟨ec4, hi⟩ := ints_cons hi
      obtain ⟨ec5, hi⟩ := ints_cons hi
      obtain ⟨ec6, hi⟩ := ints_cons hi
      obtain ⟨ec7, hi⟩ := ints_cons hi
      obtain ⟨ec8, hi⟩ := ints_cons hi
      obtain ⟨ec9, hi⟩ := ints_cons hi
      obtain ⟨ec10, hi⟩ := ints_cons hi
      obtain ⟨ec11, hi⟩ := ints_cons hi
      obtain ⟨ec12, hi⟩ := ints_cons hi
      obtain ⟨ec13, hi⟩ := ints_cons hi
      obtain ⟨ec15, hi⟩ := ints_cons hi
      obtain ⟨ec16, hi⟩ := ints_cons hi
      obtain ⟨ec17, hi⟩ := ints_cons hi
      obtain ⟨ec18, hi⟩ := ints_cons hi
      obtain ⟨ec19, hi⟩ := ints_cons hi
      obtain ⟨ec20, hi⟩ := ints_cons hi
      obtain ⟨ec21, hi⟩ := ints_cons hi
      obtain ⟨ec14, hb⟩ := bools_cons hb
      refine Calls.mono (?_ : Calls Try.prog f _ w (fun e w' => ∃ (ro0 : Option Addr) (rc0 : Nat) (ro1 : Option Addr) (rc1 : Nat), e = .returned (.tuple #[.agg #[.int .i64 (bActivePage), .int .i64 (bActiveCap), .int .i64 (bActiveLimit), .int .i64 (bActiveLow), .int .i64 (bActiveHigh), .slice ro0 (r0.n) rc0, .int .i64 (bActiveRuleDown), .int .i64 (bActiveRuleSleep), .int .i64 (selZ (polB pPage pCap pLimit pLow pHigh r2.n pWeightsg0 pRuleDown pRuleSleep) pPage bNextPage), .int .i64 (selZ (polB pPage pCap pLimit pLow pHigh r2.n pWeightsg0 pRuleDown pRuleSleep) pCap bNextCap), .int .i64 (selZ (polB pPage pCap pLimit pLow pHigh r2.n pWeightsg0 pRuleDown pRuleSleep) pLimit bNextLimit), .int .i64 (selZ (polB pPage pCap pLimit pLow pHigh r2.n pWeightsg0 pRuleDown pRuleSleep) pLow bNextLow), .int .i64 (selZ (polB pPage pCap pLimit pLow pHigh r2.n pWeightsg0 pRuleDown pRuleSleep) pHigh bNextHigh), .slice ro1 (selN (polB pPage pCap pLimit pLow pHigh r2.n pWeightsg0 pRuleDown pRuleSleep) r2.n r1.n) rc1, .int .i64 (selZ (polB pPage pCap pLimit pLow pHigh r2.n pWeightsg0 pRuleDown pRuleSleep) pRuleDown bNextRuleDown), .int .i64 (selZ (polB pPage pCap pLimit pLow pHigh r2.n pWeightsg0 pRuleDown pRuleSleep) pRuleSleep bNextRuleSleep), .bool (orB (polB pPage pCap pLimit pLow pHigh r2.n pWeightsg0 pRuleDown pRuleSleep) bWaits)], .bool (polB pPage pCap pLimit pLow pHigh r2.n pWeightsg0 pRuleDown pRuleSleep)]) ∧ HS ⟨w, fun _ => False⟩ [.row ⟨true, ro0, 3, 1, r0.n, rc0, [fun i => .int (bActiveWeightsg0 i)]⟩, .row ⟨true, ro1, 3, 1, selN (polB pPage pCap pLimit pLow pHigh r2.n pWeightsg0 pRuleDown pRuleSleep) r2.n r1.n, rc1, [fun i => .int (selZ (polB pPage pCap pLimit pLow pHigh r2.n pWeightsg0 pRuleDown pRuleSleep) (pWeightsg0 i) (bNextWeightsg0 i))]⟩] w')) (fun e w' ⟨ro0, rc0, ro1, rc1, he, hs'⟩ => ⟨_, _, ?_, hs', rfl, h0 ro0 rc0 ro1 rc1⟩)
      · simp only [List.map_cons, List.map_nil, den_a, den_c, SA.den, den_sl, ec0, ec1, ec2, ec3, ec4, ec5, ec6, ec7, ec8, ec9, ec10, ec11, ec12, ec13, ec15, ec16, ec17, ec18, ec19, ec20, ec21, ec14]
        exact h bActivePage bActiveCap bActiveLimit bActiveLow bActiveHigh r0.ao r0.n d0 bActiveWeightsg0 bActiveRuleDown bActiveRuleSleep bNextPage bNextCap bNextLimit bNextLow bNextHigh r1.ao r1.n d1 bNextWeightsg0 bNextRuleDown bNextRuleSleep bWaits pPage pCap pLimit pLow pHigh r2.ao r2.n d2 pWeightsg0 pRuleDown pRuleSleep w (Row.seenAs (hs.sat i0 _ hr0) hf0 rfl) (Row.seenAs (hs.sat i1 _ hr1) hf1 rfl) (Row.seenAs (hs.sat i2 _ hr2) hf2 rfl) hpre
      · rw [he]
        rfl
    · exact h0.elim
  · exact h0.elim
theorem sBAsk_ok_baskI : SmOK Try.prog 56 sBAsk := sBAsk_ok Try.call56 (fun bActivePage bActiveCap bActiveLimit bActiveLow bActiveHigh bActiveWeightsO bActiveWeightsN bActiveWeightsC bActiveWeightsg0 bActiveRuleDown bActiveRuleSleep bNextPage bNextCap bNextLimit bNextLow bNextHigh bNextWeightsO bNextWeightsN bNextWeightsC bNextWeightsg0 bNextRuleDown bNextRuleSleep bWaits pPage pCap pLimit pLow pHigh pWeightsO pWeightsN pWeightsC pWeightsg0 pRuleDown pRuleSleep w h0 h1 h2 hp => baskI_any bActivePage bActiveCap bActiveLimit bActiveLow bActiveHigh bActiveWeightsO bActiveWeightsN bActiveWeightsC bActiveWeightsg0 bActiveRuleDown bActiveRuleSleep bNextPage bNextCap bNextLimit bNextLow bNextHigh bNextWeightsO bNextWeightsN bNextWeightsC bNextWeightsg0 bNextRuleDown bNextRuleSleep bWaits pPage pCap pLimit pLow pHigh pWeightsO pWeightsN pWeightsC pWeightsg0 pRuleDown pRuleSleep w h0 h1 h2 hp)
theorem sBAsk_ok_baskS : SmOK Try.prog 55 sBAsk := sBAsk_ok Try.call55 (fun bActivePage bActiveCap bActiveLimit bActiveLow bActiveHigh bActiveWeightsO bActiveWeightsN bActiveWeightsC bActiveWeightsg0 bActiveRuleDown bActiveRuleSleep bNextPage bNextCap bNextLimit bNextLow bNextHigh bNextWeightsO bNextWeightsN bNextWeightsC bNextWeightsg0 bNextRuleDown bNextRuleSleep bWaits pPage pCap pLimit pLow pHigh pWeightsO pWeightsN pWeightsC pWeightsg0 pRuleDown pRuleSleep w h0 h1 h2 hp => baskS_any bActivePage bActiveCap bActiveLimit bActiveLow bActiveHigh bActiveWeightsO bActiveWeightsN bActiveWeightsC bActiveWeightsg0 bActiveRuleDown bActiveRuleSleep bNextPage bNextCap bNextLimit bNextLow bNextHigh bNextWeightsO bNextWeightsN bNextWeightsC bNextWeightsg0 bNextRuleDown bNextRuleSleep bWaits pPage pCap pLimit pLow pHigh pWeightsO pWeightsN pWeightsC pWeightsg0 pRuleDown pRuleSleep w h0 h1 h2 hp)
end Go.Proofs.Ytlkklplnomecgaa

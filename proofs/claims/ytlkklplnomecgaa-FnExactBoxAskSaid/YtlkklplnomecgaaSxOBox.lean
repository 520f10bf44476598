/-
  Boxes, as objects.
-/
import Derived.Test.YtlkklplnomecgaaSxOPol
import Derived.Test.YtlkklplnomecgaaSxPol4
namespace Go.Proofs.Ytlkklplnomecgaa
set_option linter.unusedVariables false
set_option linter.unusedSimpArgs false
open Go.RowKit
set_option maxRecDepth 100000
set_option maxHeartbeats 8000000

def polD (p : PolicyD) : Bool := polB p.Page p.Cap p.Limit p.Low p.High p.WeightsN p.Weightsg0 p.RuleDown p.RuleSleep
def sPolO : Sm := fun args ch k =>
  match args with
  | [.a (.c (.obj i0 v0))] =>
    match ch[i0]? with
    | some (.obj _ r0) => ∃ (p : PolicyD), (isPolicy v0 p r0 ∧ capPolicy p) ∧ k (.a (.c (.bool (polD p)))) ch []
    | _ => False
  | _ => False
theorem sPolO_ok_impl_PolicyOk : SmOK Try.prog 42 sPolO := by
  refine smB Try.call42 fun args ch k w X h0 hs => ?_
  unfold sPolO at h0
  split at h0
  · rename_i i0 v0
    split at h0
    · rename_i o0 r0 hi0
      obtain ⟨p, ⟨⟨_, _, _, _, _, rfl, rfl⟩, hpre⟩, h0⟩ := h0
      have hw0 := hs.seeObj hi0
      refine ⟨_, h0, ?_⟩
      simp only [List.map_cons, List.map_nil, den_a, den_c, SA.den, den_obj]
      exact polI_any p.Page p.Cap p.Limit p.Low p.High _ p.WeightsN _ p.Weightsg0 p.RuleDown p.RuleSleep w (Row.seenAs (hw0 _ (mem0)).2 rfl rfl) hpre
    · exact h0.elim
  · exact h0.elim
theorem sPolO_ok_spec_PolicyOk : SmOK Try.prog 40 sPolO := by
  refine smB Try.call40 fun args ch k w X h0 hs => ?_
  unfold sPolO at h0
  split at h0
  · rename_i i0 v0
    split at h0
    · rename_i o0 r0 hi0
      obtain ⟨p, ⟨⟨_, _, _, _, _, rfl, rfl⟩, hpre⟩, h0⟩ := h0
      have hw0 := hs.seeObj hi0
      refine ⟨_, h0, ?_⟩
      simp only [List.map_cons, List.map_nil, den_a, den_c, SA.den, den_obj]
      exact polS_any p.Page p.Cap p.Limit p.Low p.High _ p.WeightsN _ p.Weightsg0 p.RuleDown p.RuleSleep w (Row.seenAs (hw0 _ (mem0)).2 rfl rfl) hpre
    · exact h0.elim
  · exact h0.elim
def bnewD (p : PolicyD) : PolicyBoxD := ⟨ifZ (polD p) p.Page, ifZ (polD p) p.Cap, ifZ (polD p) p.Limit, ifZ (polD p) p.Low, ifZ (polD p) p.High, ifN (polD p) p.WeightsN, p.Weightsg0, ifZ (polD p) p.RuleDown, ifZ (polD p) p.RuleSleep, ifZ (polD p) p.Page, ifZ (polD p) p.Cap, ifZ (polD p) p.Limit, ifZ (polD p) p.Low, ifZ (polD p) p.High, ifN (polD p) p.WeightsN, p.Weightsg0, ifZ (polD p) p.RuleDown, ifZ (polD p) p.RuleSleep, false⟩
theorem capBNew {p : PolicyD} (h : capPolicy p) : capPolicyBox (bnewD p) := by
  have h1 : p.WeightsN ≤ 1048576 := h
  simp only [capPolicyBox, bnewD, ifN]
  split <;> omega
def sBNewO : Sm := fun args ch k =>
  match args with
  | [.a (.c (.obj i0 v0))] =>
    match ch[i0]? with
    | some (.obj _ r0) => ∃ (p : PolicyD), (isPolicy v0 p r0 ∧ capPolicy p) ∧ ∀ (v' : Value) (rs' : List Row), isPolicyBox v' (bnewD p) rs' → k (.tup [.c (.obj ch.length v'), .c (.bool (polD p))]) (ch ++ [.obj true rs']) []
    | _ => False
  | _ => False
theorem sBNewO_ok_impl_BoxNew : SmOK Try.prog 54 sBNewO := by
  refine smN Try.call54 fun args ch k w X h0 hs => ?_
  unfold sBNewO at h0
  split at h0
  · rename_i i0 v0
    split at h0
    · rename_i o0 r0 hi0
      obtain ⟨p, ⟨⟨_, _, _, _, _, rfl, rfl⟩, hpre⟩, h0⟩ := h0
      have hw0 := hs.seeObj hi0
      simp only [List.map_cons, List.map_nil, den_a, den_c, SA.den, den_obj]
      refine Calls.mono (bnewI_any p.Page p.Cap p.Limit p.Low p.High _ p.WeightsN _ p.Weightsg0 p.RuleDown p.RuleSleep w (Row.seenAs (hw0 _ (mem0)).2 rfl rfl) hpre) fun e w' ⟨ro0, rc0, ro1, rc1, he, hs'⟩ => ⟨_, [.obj true _], ?_, hs'.pack (rs := [_, _]) (by simp), rfl, h0 _ _ ⟨ro0, ro1, rc0, _, _, rc1, _, _, _, _, rfl, rfl⟩⟩
      rw [he]
      rfl
    · exact h0.elim
  · exact h0.elim
theorem sBNewO_ok_spec_BoxNew : SmOK Try.prog 53 sBNewO := by
  refine smN Try.call53 fun args ch k w X h0 hs => ?_
  unfold sBNewO at h0
  split at h0
  · rename_i i0 v0
    split at h0
    · rename_i o0 r0 hi0
      obtain ⟨p, ⟨⟨_, _, _, _, _, rfl, rfl⟩, hpre⟩, h0⟩ := h0
      have hw0 := hs.seeObj hi0
      simp only [List.map_cons, List.map_nil, den_a, den_c, SA.den, den_obj]
      refine Calls.mono (bnewS_any p.Page p.Cap p.Limit p.Low p.High _ p.WeightsN _ p.Weightsg0 p.RuleDown p.RuleSleep w (Row.seenAs (hw0 _ (mem0)).2 rfl rfl) hpre) fun e w' ⟨ro0, rc0, ro1, rc1, he, hs'⟩ => ⟨_, [.obj true _], ?_, hs'.pack (rs := [_, _]) (by simp), rfl, h0 _ _ ⟨ro0, ro1, rc0, _, _, rc1, _, _, _, _, rfl, rfl⟩⟩
      rw [he]
      rfl
    · exact h0.elim
  · exact h0.elim
def baskD (b : PolicyBoxD) (p : PolicyD) : PolicyBoxD := ⟨b.ActivePage, b.ActiveCap, b.ActiveLimit, b.ActiveLow, b.ActiveHigh, b.ActiveWeightsN, b.ActiveWeightsg0, b.ActiveRuleDown, b.ActiveRuleSleep, selZ (polD p) p.Page b.NextPage, selZ (polD p) p.Cap b.NextCap, selZ (polD p) p.Limit b.NextLimit, selZ (polD p) p.Low b.NextLow, selZ (polD p) p.High b.NextHigh, selN (polD p) p.WeightsN b.NextWeightsN, fun i => selZ (polD p) (p.Weightsg0 i) (b.NextWeightsg0 i), selZ (polD p) p.RuleDown b.NextRuleDown, selZ (polD p) p.RuleSleep b.NextRuleSleep, orB (polD p) b.Waits⟩
theorem capBAsk {b : PolicyBoxD} {p : PolicyD} (h : capPolicyBox b) (h2 : capPolicy p) : capPolicyBox (baskD b p) := by
  refine ⟨h.1, ?_⟩
  simp only [baskD, selN]
  split
  · exact h2
  · exact h.2
def sBAskO : Sm := fun args ch k =>
  match args with
  | [.a (.c (.obj i0 v0)), .a (.c (.obj i1 v1))] =>
    match ch[i0]?, ch[i1]? with
    | some (.obj _ r0), some (.obj _ r1) => ∃ (b : PolicyBoxD) (p : PolicyD), (isPolicyBox v0 b r0 ∧ isPolicy v1 p r1 ∧ capPolicyBox b ∧ capPolicy p) ∧ ∀ (v' : Value) (rs' : List Row), isPolicyBox v' (baskD b p) rs' → k (.tup [.c (.obj ch.length v'), .c (.bool (polD p))]) (ch ++ [.obj true rs']) []
    | _, _ => False
  | _ => False
theorem sBAskO_ok_impl_BoxAsk : SmOK Try.prog 56 sBAskO := by
  refine smN Try.call56 fun args ch k w X h0 hs => ?_
  unfold sBAskO at h0
  split at h0
  · rename_i i0 v0 i1 v1
    split at h0
    · rename_i o0 r0 o1 r1 hi0 hi1
      obtain ⟨b, p, ⟨⟨_, _, _, _, _, _, _, _, _, _, rfl, rfl⟩, ⟨_, _, _, _, _, rfl, rfl⟩, hpre⟩, h0⟩ := h0
      have hw0 := hs.seeObj hi0
      have hw1 := hs.seeObj hi1
      simp only [List.map_cons, List.map_nil, den_a, den_c, SA.den, den_obj]
      refine Calls.mono (baskI_any b.ActivePage b.ActiveCap b.ActiveLimit b.ActiveLow b.ActiveHigh _ b.ActiveWeightsN _ b.ActiveWeightsg0 b.ActiveRuleDown b.ActiveRuleSleep b.NextPage b.NextCap b.NextLimit b.NextLow b.NextHigh _ b.NextWeightsN _ b.NextWeightsg0 b.NextRuleDown b.NextRuleSleep b.Waits p.Page p.Cap p.Limit p.Low p.High _ p.WeightsN _ p.Weightsg0 p.RuleDown p.RuleSleep w (Row.seenAs (hw0 _ (mem0)).2 rfl rfl) (Row.seenAs (hw0 _ ((memS mem0))).2 rfl rfl) (Row.seenAs (hw1 _ (mem0)).2 rfl rfl) ⟨hpre.1.1, hpre.1.2, hpre.2⟩) fun e w' ⟨ro0, rc0, ro1, rc1, he, hs'⟩ => ⟨_, [.obj true _], ?_, hs'.pack (rs := [_, _]) (by simp), rfl, h0 _ _ ⟨ro0, ro1, rc0, _, _, rc1, _, _, _, _, rfl, rfl⟩⟩
      rw [he]
      rfl
    · exact h0.elim
  · exact h0.elim
theorem sBAskO_ok_spec_BoxAsk : SmOK Try.prog 55 sBAskO := by
  refine smN Try.call55 fun args ch k w X h0 hs => ?_
  unfold sBAskO at h0
  split at h0
  · rename_i i0 v0 i1 v1
    split at h0
    · rename_i o0 r0 o1 r1 hi0 hi1
      obtain ⟨b, p, ⟨⟨_, _, _, _, _, _, _, _, _, _, rfl, rfl⟩, ⟨_, _, _, _, _, rfl, rfl⟩, hpre⟩, h0⟩ := h0
      have hw0 := hs.seeObj hi0
      have hw1 := hs.seeObj hi1
      simp only [List.map_cons, List.map_nil, den_a, den_c, SA.den, den_obj]
      refine Calls.mono (baskS_any b.ActivePage b.ActiveCap b.ActiveLimit b.ActiveLow b.ActiveHigh _ b.ActiveWeightsN _ b.ActiveWeightsg0 b.ActiveRuleDown b.ActiveRuleSleep b.NextPage b.NextCap b.NextLimit b.NextLow b.NextHigh _ b.NextWeightsN _ b.NextWeightsg0 b.NextRuleDown b.NextRuleSleep b.Waits p.Page p.Cap p.Limit p.Low p.High _ p.WeightsN _ p.Weightsg0 p.RuleDown p.RuleSleep w (Row.seenAs (hw0 _ (mem0)).2 rfl rfl) (Row.seenAs (hw0 _ ((memS mem0))).2 rfl rfl) (Row.seenAs (hw1 _ (mem0)).2 rfl rfl) ⟨hpre.1.1, hpre.1.2, hpre.2⟩) fun e w' ⟨ro0, rc0, ro1, rc1, he, hs'⟩ => ⟨_, [.obj true _], ?_, hs'.pack (rs := [_, _]) (by simp), rfl, h0 _ _ ⟨ro0, ro1, rc0, _, _, rc1, _, _, _, _, rfl, rfl⟩⟩
      rw [he]
      rfl
    · exact h0.elim
  · exact h0.elim
end Go.Proofs.Ytlkklplnomecgaa

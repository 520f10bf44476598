/-
  PolicyFits.
-/
import Derived.Test.YtlkklplnomecgaaSxFits
import Derived.Test.YtlkklplnomecgaaSxOPol
import Derived.Test.YtlkklplnomecgaaSxOpen
namespace Go.Proofs.Ytlkklplnomecgaa
set_option linter.unusedVariables false
set_option linter.unusedSimpArgs false
open Go.RowKit
set_option maxRecDepth 100000
set_option maxHeartbeats 8000000

def fitD (cGeometryGroups cGeometryBanks cGeometryRows cGeometryCols cTimingRCD cTimingRP cTimingRAS cTimingRRDS cTimingRRDL cTimingFAW cTimingCCDS cTimingCCDL cTimingRTP cTimingWR cTimingWTRS cTimingWTRL cTimingRTW cTimingRFC cTimingCKE cTimingXP cTimingXS cMappingOrder cSpares cInterval cTrack cLimitsAge cLimitsHits : Int) (cMappingHash : Bool) (p : PolicyD) : Bool := fitsP (cfgB cGeometryGroups cGeometryBanks cGeometryRows cGeometryCols cTimingRCD cTimingRP cTimingRAS cTimingRRDS cTimingRRDL cTimingFAW cTimingCCDS cTimingCCDL cTimingRTP cTimingWR cTimingWTRS cTimingWTRL cTimingRTW cTimingRFC cTimingCKE cTimingXP cTimingXS cMappingOrder cSpares cInterval cTrack cLimitsAge cLimitsHits cMappingHash) (polB p.Page p.Cap p.Limit p.Low p.High p.WeightsN p.Weightsg0 p.RuleDown p.RuleSleep) cTrack cInterval cTimingRAS cTimingRP cLimitsHits p.Limit
def sFitO : Sm := fun args ch k =>
  match args with
  | [.a (.agg [c0, c1, c2, c3, c4, c5, c6, c7, c8, c9, c10, c11, c12, c13, c14, c15, c16, c17, c18, c19, c20, c21, c22, c23, c24, c25, c26, c27]), .a (.c (.obj i0 v0))] =>
    match ch[i0]?, ints [c0, c1, c2, c3, c4, c5, c6, c7, c8, c9, c10, c11, c12, c13, c14, c15, c16, c17, c18, c19, c20, c21, c23, c24, c25, c26, c27], bools [c22] with
    | some (.obj _ r0), some [cGeometryGroups, cGeometryBanks, cGeometryRows, cGeometryCols, cTimingRCD, cTimingRP, cTimingRAS, cTimingRRDS, cTimingRRDL, cTimingFAW, cTimingCCDS, cTimingCCDL, cTimingRTP, cTimingWR, cTimingWTRS, cTimingWTRL, cTimingRTW, cTimingRFC, cTimingCKE, cTimingXP, cTimingXS, cMappingOrder, cSpares, cInterval, cTrack, cLimitsAge, cLimitsHits], some [cMappingHash] => ∃ (p : PolicyD), (isPolicy v0 p r0 ∧ rngC cGeometryRows ∧ capPolicy p) ∧ k (.a (.c (.bool (fitD cGeometryGroups cGeometryBanks cGeometryRows cGeometryCols cTimingRCD cTimingRP cTimingRAS cTimingRRDS cTimingRRDL cTimingFAW cTimingCCDS cTimingCCDL cTimingRTP cTimingWR cTimingWTRS cTimingWTRL cTimingRTW cTimingRFC cTimingCKE cTimingXP cTimingXS cMappingOrder cSpares cInterval cTrack cLimitsAge cLimitsHits cMappingHash p)))) ch []
    | _, _, _ => False
  | _ => False
theorem sFitO_ok_impl_PolicyFits : SmOK Try.prog 58 sFitO := by
  refine smB Try.call58 fun args ch k w X h0 hs => ?_
  unfold sFitO at h0
  split at h0
  · rename_i c0 c1 c2 c3 c4 c5 c6 c7 c8 c9 c10 c11 c12 c13 c14 c15 c16 c17 c18 c19 c20 c21 c22 c23 c24 c25 c26 c27 i0 v0
    split at h0
    · rename_i o0 r0 cGeometryGroups cGeometryBanks cGeometryRows cGeometryCols cTimingRCD cTimingRP cTimingRAS cTimingRRDS cTimingRRDL cTimingFAW cTimingCCDS cTimingCCDL cTimingRTP cTimingWR cTimingWTRS cTimingWTRL cTimingRTW cTimingRFC cTimingCKE cTimingXP cTimingXS cMappingOrder cSpares cInterval cTrack cLimitsAge cLimitsHits cMappingHash hi0 hI hB
      obtain ⟨p, ⟨⟨_, _, _, _, _, rfl, rfl⟩, hpre⟩, h0⟩ := h0
      obtain ⟨ec0, hI⟩ := ints_cons hI
      obtain ⟨ec1, hI⟩ := ints_cons hI
      obtain ⟨ec2, hI⟩ := ints_cons hI
      obtain ⟨ec3, hI⟩ := ints_cons hI
      obtain ⟨ec4, hI⟩ := ints_cons hI
      obtain ⟨ec5, hI⟩ := ints_cons hI
      obtain ⟨ec6, hI⟩ := ints_cons hI
      obtain ⟨ec7, hI⟩ := ints_cons hI
      obtain ⟨ec8, hI⟩ := ints_cons hI
      obtain ⟨ec9, hI⟩ := ints_cons hI
      obtain ⟨ec10, hI⟩ := ints_cons hI
      obtain ⟨ec11, hI⟩ := ints_cons hI
      obtain ⟨ec12, hI⟩ := ints_cons hI
      obtain ⟨ec13, hI⟩ := ints_cons hI
      obtain ⟨ec14, hI⟩ := ints_cons hI
      obtain ⟨ec15, hI⟩ := ints_cons hI
      obtain ⟨ec16, hI⟩ := ints_cons hI
      obtain ⟨ec17, hI⟩ := ints_cons hI
      obtain ⟨ec18, hI⟩ := ints_cons hI
      obtain ⟨ec19, hI⟩ := ints_cons hI
      obtain ⟨ec20, hI⟩ := ints_cons hI
      obtain ⟨ec21, hI⟩ := ints_cons hI
      obtain ⟨ec23, hI⟩ := ints_cons hI
      obtain ⟨ec24, hI⟩ := ints_cons hI
      obtain ⟨ec25, hI⟩ := ints_cons hI
      obtain ⟨ec26, hI⟩ := ints_cons hI
      obtain ⟨ec27, hI⟩ := ints_cons hI
      obtain ⟨ec22, hB⟩ := bools_cons hB
      have hw0 := hs.seeObj hi0
      refine ⟨_, h0, ?_⟩
      simp only [List.map_cons, List.map_nil, den_a, den_c, SA.den, den_obj, ec0, ec1, ec2, ec3, ec4, ec5, ec6, ec7, ec8, ec9, ec10, ec11, ec12, ec13, ec14, ec15, ec16, ec17, ec18, ec19, ec20, ec21, ec23, ec24, ec25, ec26, ec27, ec22]
      exact fitI_any cGeometryGroups cGeometryBanks cGeometryRows cGeometryCols cTimingRCD cTimingRP cTimingRAS cTimingRRDS cTimingRRDL cTimingFAW cTimingCCDS cTimingCCDL cTimingRTP cTimingWR cTimingWTRS cTimingWTRL cTimingRTW cTimingRFC cTimingCKE cTimingXP cTimingXS cMappingOrder cMappingHash cSpares cInterval cTrack cLimitsAge cLimitsHits p.Page p.Cap p.Limit p.Low p.High _ p.WeightsN _ p.Weightsg0 p.RuleDown p.RuleSleep w (Row.seenAs (hw0 _ (mem0)).2 rfl rfl) hpre
    · exact h0.elim
  · exact h0.elim
theorem sFitO_ok_spec_PolicyFits : SmOK Try.prog 57 sFitO := by
  refine smB Try.call57 fun args ch k w X h0 hs => ?_
  unfold sFitO at h0
  split at h0
  · rename_i c0 c1 c2 c3 c4 c5 c6 c7 c8 c9 c10 c11 c12 c13 c14 c15 c16 c17 c18 c19 c20 c21 c22 c23 c24 c25 c26 c27 i0 v0
    split at h0
    · rename_i o0 r0 cGeometryGroups cGeometryBanks cGeometryRows cGeometryCols cTimingRCD cTimingRP cTimingRAS cTimingRRDS cTimingRRDL cTimingFAW cTimingCCDS cTimingCCDL cTimingRTP cTimingWR cTimingWTRS cTimingWTRL cTimingRTW cTimingRFC cTimingCKE cTimingXP cTimingXS cMappingOrder cSpares cInterval cTrack cLimitsAge cLimitsHits cMappingHash hi0 hI hB
      obtain ⟨p, ⟨⟨_, _, _, _, _, rfl, rfl⟩, hpre⟩, h0⟩ := h0
      obtain ⟨ec0, hI⟩ := ints_cons hI
      obtain ⟨ec1, hI⟩ := ints_cons hI
      obtain ⟨ec2, hI⟩ := ints_cons hI
      obtain ⟨ec3, hI⟩ := ints_cons hI
      obtain ⟨ec4, hI⟩ := ints_cons hI
      obtain ⟨ec5, hI⟩ := ints_cons hI
      obtain ⟨ec6, hI⟩ := ints_cons hI
      obtain ⟨ec7, hI⟩ := ints_cons hI
      obtain ⟨ec8, hI⟩ := ints_cons hI
      obtain ⟨ec9, hI⟩ := ints_cons hI
      obtain ⟨ec10, hI⟩ := ints_cons hI
      obtain ⟨ec11, hI⟩ := ints_cons hI
      obtain ⟨ec12, hI⟩ := ints_cons hI
      obtain ⟨ec13, hI⟩ := ints_cons hI
      obtain ⟨ec14, hI⟩ := ints_cons hI
      obtain ⟨ec15, hI⟩ := ints_cons hI
      obtain ⟨ec16, hI⟩ := ints_cons hI
      obtain ⟨ec17, hI⟩ := ints_cons hI
      obtain ⟨ec18, hI⟩ := ints_cons hI
      obtain ⟨ec19, hI⟩ := ints_cons hI
      obtain ⟨ec20, hI⟩ := ints_cons hI
      obtain ⟨ec21, hI⟩ := ints_cons hI
      obtain ⟨ec23, hI⟩ := ints_cons hI
      obtain ⟨ec24, hI⟩ := ints_cons hI
      obtain ⟨ec25, hI⟩ := ints_cons hI
      obtain ⟨ec26, hI⟩ := ints_cons hI
      obtain ⟨ec27, hI⟩ := ints_cons hI
      obtain ⟨ec22, hB⟩ := bools_cons hB
      have hw0 := hs.seeObj hi0
      refine ⟨_, h0, ?_⟩
      simp only [List.map_cons, List.map_nil, den_a, den_c, SA.den, den_obj, ec0, ec1, ec2, ec3, ec4, ec5, ec6, ec7, ec8, ec9, ec10, ec11, ec12, ec13, ec14, ec15, ec16, ec17, ec18, ec19, ec20, ec21, ec23, ec24, ec25, ec26, ec27, ec22]
      exact fitS_any cGeometryGroups cGeometryBanks cGeometryRows cGeometryCols cTimingRCD cTimingRP cTimingRAS cTimingRRDS cTimingRRDL cTimingFAW cTimingCCDS cTimingCCDL cTimingRTP cTimingWR cTimingWTRS cTimingWTRL cTimingRTW cTimingRFC cTimingCKE cTimingXP cTimingXS cMappingOrder cMappingHash cSpares cInterval cTrack cLimitsAge cLimitsHits p.Page p.Cap p.Limit p.Low p.High _ p.WeightsN _ p.Weightsg0 p.RuleDown p.RuleSleep w (Row.seenAs (hw0 _ (mem0)).2 rfl rfl) hpre
    · exact h0.elim
  · exact h0.elim
theorem law_FnExactPolicyFits_T (aCGeometryGroups : Int) (aCGeometryBanks : Int) (aCGeometryRows : Int) (aCGeometryCols : Int) (aCTimingRCD : Int) (aCTimingRP : Int) (aCTimingRAS : Int) (aCTimingRRDS : Int) (aCTimingRRDL : Int) (aCTimingFAW : Int) (aCTimingCCDS : Int) (aCTimingCCDL : Int) (aCTimingRTP : Int) (aCTimingWR : Int) (aCTimingWTRS : Int) (aCTimingWTRL : Int) (aCTimingRTW : Int) (aCTimingRFC : Int) (aCTimingCKE : Int) (aCTimingXP : Int) (aCTimingXS : Int) (aCMappingOrder : Int) (aCMappingHash : Bool) (aCSpares : Int) (aCInterval : Int) (aCTrack : Int) (aCLimitsAge : Int) (aCLimitsHits : Int) (v0 : Value) (rs0 : List Row) : (exFn Try.prog {tb := [(44, sToConfig), (41, sToPolicyO), (36, sEqPolicyO), (37, sMarkPolicyO), (38, sHeldPolicyO), (39, sSzPolicyO), (58, sFitO), (57, sFitO)]} 400 Try.f15 ([.a (.agg [.int aCGeometryGroups, .int aCGeometryBanks, .int aCGeometryRows, .int aCGeometryCols, .int aCTimingRCD, .int aCTimingRP, .int aCTimingRAS, .int aCTimingRRDS, .int aCTimingRRDL, .int aCTimingFAW, .int aCTimingCCDS, .int aCTimingCCDL, .int aCTimingRTP, .int aCTimingWR, .int aCTimingWTRS, .int aCTimingWTRL, .int aCTimingRTW, .int aCTimingRFC, .int aCTimingCKE, .int aCTimingXP, .int aCTimingXS, .int aCMappingOrder, .bool aCMappingHash, .int aCSpares, .int aCInterval, .int aCTrack, .int aCLimitsAge, .int aCLimitsHits]), .a (.c (.obj 0 v0))]) ([.obj false rs0]) (fun v _ => v.den = .bool true)) = (
  (∀ b0 : Nat,
  ((wholeC Bool.true v0 8) ∧
  (∀ b1 : Nat,
  (b1 = b1 ∧
  (Exists (fun (x2 : PolicyD) => (((isPolicy v0 x2 rs0) ∧
  ((lensPolicy x2) ∧
  (szK (1048576 : Int)))) ∧
  ((Value.bool Bool.true) = (Value.bool Bool.true) ∧
  (∀ z3 : Int,
  ((szO z3 (1048576 : Int)) →
  ((capPolicy x2) →
   (((decide (z3 < (0 : Int))) = Bool.true →
    (Value.bool Bool.true) = (Value.bool Bool.true)) ∧
    ((decide (z3 < (0 : Int))) = Bool.false →
    (b0 = b0 ∧
     (b1 = b1 ∧
     (True ∧
     (Exists (fun (x4 : PolicyD) => (((isPolicy v0 x4 rs0) ∧
     (capPolicy x4)) ∧
     (∀ v'5 : Value,
     (∀ rs'6 : (List Row),
     ((isPolicy v'5 x4 rs'6) →
     (True ∧
      (Exists (fun (p7 : PolicyD) => (((isPolicy v'5 p7 rs'6) ∧
      ((rngC aCGeometryRows) ∧
      (capPolicy p7))) ∧
      (True ∧
      (b1 = b1 ∧
      (Exists (fun (x8 : PolicyD) => (((isPolicy v0 x8 rs0) ∧
      (capPolicy x8)) ∧
      (∀ v'9 : Value,
      (∀ rs'10 : (List Row),
      ((isPolicy v'9 x8 rs'10) →
      (∀ b11 : Nat,
       ((b11 = b11 ∧
       (wholeC Bool.true v'9 8)) ∧
       (b0 = b0 ∧
       (b11 = b11 ∧
       (True ∧
       (Exists (fun (p12 : PolicyD) => (((isPolicy v'9 p12 rs'10) ∧
       ((rngC aCGeometryRows) ∧
       (capPolicy p12))) ∧
       (True ∧
       ((((fitD aCGeometryGroups aCGeometryBanks aCGeometryRows aCGeometryCols aCTimingRCD aCTimingRP aCTimingRAS aCTimingRRDS aCTimingRRDL aCTimingFAW aCTimingCCDS aCTimingCCDL aCTimingRTP aCTimingWR aCTimingWTRS aCTimingWTRL aCTimingRTW aCTimingRFC aCTimingCKE aCTimingXP aCTimingXS aCMappingOrder aCSpares aCInterval aCTrack aCLimitsAge aCLimitsHits aCMappingHash p12) != (fitD aCGeometryGroups aCGeometryBanks aCGeometryRows aCGeometryCols aCTimingRCD aCTimingRP aCTimingRAS aCTimingRRDS aCTimingRRDL aCTimingFAW aCTimingCCDS aCTimingCCDL aCTimingRTP aCTimingWR aCTimingWTRS aCTimingWTRL aCTimingRTW aCTimingRFC aCTimingCKE aCTimingXP aCTimingXS aCMappingOrder aCSpares aCInterval aCTrack aCLimitsAge aCLimitsHits aCMappingHash p7)) = Bool.true →
       (Value.bool Bool.false) = (Value.bool Bool.true)) ∧
       (((fitD aCGeometryGroups aCGeometryBanks aCGeometryRows aCGeometryCols aCTimingRCD aCTimingRP aCTimingRAS aCTimingRRDS aCTimingRRDL aCTimingFAW aCTimingCCDS aCTimingCCDL aCTimingRTP aCTimingWR aCTimingWTRS aCTimingWTRL aCTimingRTW aCTimingRFC aCTimingCKE aCTimingXP aCTimingXS aCMappingOrder aCSpares aCInterval aCTrack aCLimitsAge aCLimitsHits aCMappingHash p12) != (fitD aCGeometryGroups aCGeometryBanks aCGeometryRows aCGeometryCols aCTimingRCD aCTimingRP aCTimingRAS aCTimingRRDS aCTimingRRDL aCTimingFAW aCTimingCCDS aCTimingCCDL aCTimingRTP aCTimingWR aCTimingWTRS aCTimingWTRL aCTimingRTW aCTimingRFC aCTimingCKE aCTimingXP aCTimingXS aCMappingOrder aCSpares aCInterval aCTrack aCLimitsAge aCLimitsHits aCMappingHash p7)) = Bool.false →
       (b11 = b11 ∧
        (b1 = b1 ∧
        (Exists (fun (x13 : PolicyD) => (((isPolicy v0 x13 rs0) ∧
        (capPolicy x13)) ∧
        (∀ v'14 : Value,
        (∀ rs'15 : (List Row),
        ((isPolicy v'14 x13 rs'15) →
        (True ∧
         (Exists (fun (x16 : PolicyD) => (((isPolicy v'9 x16 rs'10) ∧
         ((isPolicy v'14 x16 rs'15) ∧
         (capPolicy x16))) ∧
         (True ∧
         (Value.bool Bool.true) = (Value.bool Bool.true)))))))))))))))))))))))))))))))))))))))))))))))))))))))))))) := by kernel_rfl
theorem law_FnExactPolicyFits_any (aCGeometryGroups : Int) (aCGeometryBanks : Int) (aCGeometryRows : Int) (aCGeometryCols : Int) (aCTimingRCD : Int) (aCTimingRP : Int) (aCTimingRAS : Int) (aCTimingRRDS : Int) (aCTimingRRDL : Int) (aCTimingFAW : Int) (aCTimingCCDS : Int) (aCTimingCCDL : Int) (aCTimingRTP : Int) (aCTimingWR : Int) (aCTimingWTRS : Int) (aCTimingWTRL : Int) (aCTimingRTW : Int) (aCTimingRFC : Int) (aCTimingCKE : Int) (aCTimingXP : Int) (aCTimingXS : Int) (aCMappingOrder : Int) (aCMappingHash : Bool) (aCSpares : Int) (aCInterval : Int) (aCTrack : Int) (aCLimitsAge : Int) (aCLimitsHits : Int) (v0 : Value) (rs0 : List Row) (W : World) (baCGeometryGroups : -9223372036854775808 ≤ aCGeometryGroups ∧ aCGeometryGroups ≤ 9223372036854775807) (baCGeometryBanks : -9223372036854775808 ≤ aCGeometryBanks ∧ aCGeometryBanks ≤ 9223372036854775807) (baCGeometryRows : -9223372036854775808 ≤ aCGeometryRows ∧ aCGeometryRows ≤ 9223372036854775807) (baCGeometryCols : -9223372036854775808 ≤ aCGeometryCols ∧ aCGeometryCols ≤ 9223372036854775807) (baCTimingRCD : -9223372036854775808 ≤ aCTimingRCD ∧ aCTimingRCD ≤ 9223372036854775807) (baCTimingRP : -9223372036854775808 ≤ aCTimingRP ∧ aCTimingRP ≤ 9223372036854775807) (baCTimingRAS : -9223372036854775808 ≤ aCTimingRAS ∧ aCTimingRAS ≤ 9223372036854775807) (baCTimingRRDS : -9223372036854775808 ≤ aCTimingRRDS ∧ aCTimingRRDS ≤ 9223372036854775807) (baCTimingRRDL : -9223372036854775808 ≤ aCTimingRRDL ∧ aCTimingRRDL ≤ 9223372036854775807) (baCTimingFAW : -9223372036854775808 ≤ aCTimingFAW ∧ aCTimingFAW ≤ 9223372036854775807) (baCTimingCCDS : -9223372036854775808 ≤ aCTimingCCDS ∧ aCTimingCCDS ≤ 9223372036854775807) (baCTimingCCDL : -9223372036854775808 ≤ aCTimingCCDL ∧ aCTimingCCDL ≤ 9223372036854775807) (baCTimingRTP : -9223372036854775808 ≤ aCTimingRTP ∧ aCTimingRTP ≤ 9223372036854775807) (baCTimingWR : -9223372036854775808 ≤ aCTimingWR ∧ aCTimingWR ≤ 9223372036854775807) (baCTimingWTRS : -9223372036854775808 ≤ aCTimingWTRS ∧ aCTimingWTRS ≤ 9223372036854775807) (baCTimingWTRL : -9223372036854775808 ≤ aCTimingWTRL ∧ aCTimingWTRL ≤ 9223372036854775807) (baCTimingRTW : -9223372036854775808 ≤ aCTimingRTW ∧ aCTimingRTW ≤ 9223372036854775807) (baCTimingRFC : -9223372036854775808 ≤ aCTimingRFC ∧ aCTimingRFC ≤ 9223372036854775807) (baCTimingCKE : -9223372036854775808 ≤ aCTimingCKE ∧ aCTimingCKE ≤ 9223372036854775807) (baCTimingXP : -9223372036854775808 ≤ aCTimingXP ∧ aCTimingXP ≤ 9223372036854775807) (baCTimingXS : -9223372036854775808 ≤ aCTimingXS ∧ aCTimingXS ≤ 9223372036854775807) (baCMappingOrder : -9223372036854775808 ≤ aCMappingOrder ∧ aCMappingOrder ≤ 9223372036854775807) (baCSpares : -9223372036854775808 ≤ aCSpares ∧ aCSpares ≤ 9223372036854775807) (baCInterval : -9223372036854775808 ≤ aCInterval ∧ aCInterval ≤ 9223372036854775807) (baCTrack : -9223372036854775808 ≤ aCTrack ∧ aCTrack ≤ 9223372036854775807) (baCLimitsAge : -9223372036854775808 ≤ aCLimitsAge ∧ aCLimitsAge ≤ 9223372036854775807) (baCLimitsHits : -9223372036854775808 ≤ aCLimitsHits ∧ aCLimitsHits ≤ 9223372036854775807) (x0 : PolicyD) (hx0 : isPolicy v0 x0 rs0) (hw0 : ∀ r ∈ rs0, r.own = false ∧ r.sat W) (hn0 : x0.WeightsN ≤ 9223372036854775807) (hb0 : (-9223372036854775808 ≤ x0.Page ∧ x0.Page ≤ 9223372036854775807) ∧ (-9223372036854775808 ≤ x0.Cap ∧ x0.Cap ≤ 9223372036854775807) ∧ (-9223372036854775808 ≤ x0.Limit ∧ x0.Limit ≤ 9223372036854775807) ∧ (-9223372036854775808 ≤ x0.Low ∧ x0.Low ≤ 9223372036854775807) ∧ (-9223372036854775808 ≤ x0.High ∧ x0.High ≤ 9223372036854775807) ∧ (-9223372036854775808 ≤ x0.RuleDown ∧ x0.RuleDown ≤ 9223372036854775807) ∧ (-9223372036854775808 ≤ x0.RuleSleep ∧ x0.RuleSleep ≤ 9223372036854775807)) : Calls Try.prog 15 #[.agg #[.int .i64 aCGeometryGroups, .int .i64 aCGeometryBanks, .int .i64 aCGeometryRows, .int .i64 aCGeometryCols, .int .i64 aCTimingRCD, .int .i64 aCTimingRP, .int .i64 aCTimingRAS, .int .i64 aCTimingRRDS, .int .i64 aCTimingRRDL, .int .i64 aCTimingFAW, .int .i64 aCTimingCCDS, .int .i64 aCTimingCCDL, .int .i64 aCTimingRTP, .int .i64 aCTimingWR, .int .i64 aCTimingWTRS, .int .i64 aCTimingWTRL, .int .i64 aCTimingRTW, .int .i64 aCTimingRFC, .int .i64 aCTimingCKE, .int .i64 aCTimingXP, .int .i64 aCTimingXS, .int .i64 aCMappingOrder, .bool aCMappingHash, .int .i64 aCSpares, .int .i64 aCInterval, .int .i64 aCTrack, .int .i64 aCLimitsAge, .int .i64 aCLimitsHits], v0] W fun e W' => e = .returned (.bool true) ∧ Below W.heap.size W W' := by
  refine fnB (tb := [(44, sToConfig), (41, sToPolicyO), (36, sEqPolicyO), (37, sMarkPolicyO), (38, sHeldPolicyO), (39, sSzPolicyO), (58, sFitO), (57, sFitO)]) ⟨(sToConfig_ok Try.call44 toConfig_any), sToPolicyO_ok_laws_toPolicy, sEqPolicyO_ok, sMarkPolicyO_ok, sHeldPolicyO_ok, sSzPolicyO_ok, sFitO_ok_impl_PolicyFits, sFitO_ok_spec_PolicyFits, trivial⟩ Try.func15 ((law_FnExactPolicyFits_T aCGeometryGroups aCGeometryBanks aCGeometryRows aCGeometryCols aCTimingRCD aCTimingRP aCTimingRAS aCTimingRRDS aCTimingRRDL aCTimingFAW aCTimingCCDS aCTimingCCDL aCTimingRTP aCTimingWR aCTimingWTRS aCTimingWTRL aCTimingRTW aCTimingRFC aCTimingCKE aCTimingXP aCTimingXS aCMappingOrder aCMappingHash aCSpares aCInterval aCTrack aCLimitsAge aCLimitsHits v0 rs0).mpr ?_) (HS.objs (fun _ => False) [rs0] (seen_cons hw0 seen_nil)) (fun v ch' w' hk hs => ⟨by rw [hk], hs.below⟩)
  clear hw0
  repeat' (first
    | exact rfl
    | exact True.intro
    | assumption
    | exact wholePolicy (by assumption)
    | refine And.intro ?_ ?_
    | apply Exists.intro
    | omega
    | (intro h; exfalso; revert h; simp; done)
    | (intro h; exfalso; simp at h; omega)
    | intro _)
theorem walk_FnExactPolicyFits (cs0 : Array Value) (cs1 : Array Value) (W : World) (h0 : Has W (.cons (.cons .int (.cons .int (.cons .int (.cons .int .nil)))) (.cons (.cons .int (.cons .int (.cons .int (.cons .int (.cons .int (.cons .int (.cons .int (.cons .int (.cons .int (.cons .int (.cons .int (.cons .int (.cons .int (.cons .int (.cons .int (.cons .int (.cons .int .nil))))))))))))))))) (.cons (.cons .int (.cons .bool .nil)) (.cons .int (.cons .int (.cons .int (.cons (.cons .int (.cons .int .nil)) .nil))))))) cs0.toList) (h1 : Has W (.cons .int (.cons .int (.cons .int (.cons .int (.cons .int (.cons (.slice .int) (.cons (.cons .int (.cons .int .nil)) .nil))))))) cs1.toList) : Calls Try.prog 15 #[.agg cs0, .agg cs1] W fun e W' => e = .returned (.bool true) ∧ Below W.heap.size W W' := by
  obtain ⟨l0, hl0⟩ : ∃ l, cs0.toList = l := ⟨_, rfl⟩
  rw [hl0] at h0
  obtain ⟨_, _, rfl, h0Geometry, h0_f0⟩ := has_struct h0
  obtain ⟨aCGeometryGroups, _, rfl, baCGeometryGroups, h0Geometry_f0⟩ := has_int h0Geometry
  obtain ⟨aCGeometryBanks, _, rfl, baCGeometryBanks, h0Geometry_f1⟩ := has_int h0Geometry_f0
  obtain ⟨aCGeometryRows, _, rfl, baCGeometryRows, h0Geometry_f2⟩ := has_int h0Geometry_f1
  obtain ⟨aCGeometryCols, _, rfl, baCGeometryCols, h0Geometry_f3⟩ := has_int h0Geometry_f2
  obtain rfl := has_nil h0Geometry_f3
  obtain ⟨_, _, rfl, h0Timing, h0_f1⟩ := has_struct h0_f0
  obtain ⟨aCTimingRCD, _, rfl, baCTimingRCD, h0Timing_f0⟩ := has_int h0Timing
  obtain ⟨aCTimingRP, _, rfl, baCTimingRP, h0Timing_f1⟩ := has_int h0Timing_f0
  obtain ⟨aCTimingRAS, _, rfl, baCTimingRAS, h0Timing_f2⟩ := has_int h0Timing_f1
  obtain ⟨aCTimingRRDS, _, rfl, baCTimingRRDS, h0Timing_f3⟩ := has_int h0Timing_f2
  obtain ⟨aCTimingRRDL, _, rfl, baCTimingRRDL, h0Timing_f4⟩ := has_int h0Timing_f3
  obtain ⟨aCTimingFAW, _, rfl, baCTimingFAW, h0Timing_f5⟩ := has_int h0Timing_f4
  obtain ⟨aCTimingCCDS, _, rfl, baCTimingCCDS, h0Timing_f6⟩ := has_int h0Timing_f5
  obtain ⟨aCTimingCCDL, _, rfl, baCTimingCCDL, h0Timing_f7⟩ := has_int h0Timing_f6
  obtain ⟨aCTimingRTP, _, rfl, baCTimingRTP, h0Timing_f8⟩ := has_int h0Timing_f7
  obtain ⟨aCTimingWR, _, rfl, baCTimingWR, h0Timing_f9⟩ := has_int h0Timing_f8
  obtain ⟨aCTimingWTRS, _, rfl, baCTimingWTRS, h0Timing_f10⟩ := has_int h0Timing_f9
  obtain ⟨aCTimingWTRL, _, rfl, baCTimingWTRL, h0Timing_f11⟩ := has_int h0Timing_f10
  obtain ⟨aCTimingRTW, _, rfl, baCTimingRTW, h0Timing_f12⟩ := has_int h0Timing_f11
  obtain ⟨aCTimingRFC, _, rfl, baCTimingRFC, h0Timing_f13⟩ := has_int h0Timing_f12
  obtain ⟨aCTimingCKE, _, rfl, baCTimingCKE, h0Timing_f14⟩ := has_int h0Timing_f13
  obtain ⟨aCTimingXP, _, rfl, baCTimingXP, h0Timing_f15⟩ := has_int h0Timing_f14
  obtain ⟨aCTimingXS, _, rfl, baCTimingXS, h0Timing_f16⟩ := has_int h0Timing_f15
  obtain rfl := has_nil h0Timing_f16
  obtain ⟨_, _, rfl, h0Mapping, h0_f2⟩ := has_struct h0_f1
  obtain ⟨aCMappingOrder, _, rfl, baCMappingOrder, h0Mapping_f0⟩ := has_int h0Mapping
  obtain ⟨aCMappingHash, _, rfl, h0Mapping_f1⟩ := has_bool h0Mapping_f0
  obtain rfl := has_nil h0Mapping_f1
  obtain ⟨aCSpares, _, rfl, baCSpares, h0_f3⟩ := has_int h0_f2
  obtain ⟨aCInterval, _, rfl, baCInterval, h0_f4⟩ := has_int h0_f3
  obtain ⟨aCTrack, _, rfl, baCTrack, h0_f5⟩ := has_int h0_f4
  obtain ⟨_, _, rfl, h0Limits, h0_f6⟩ := has_struct h0_f5
  obtain ⟨aCLimitsAge, _, rfl, baCLimitsAge, h0Limits_f0⟩ := has_int h0Limits
  obtain ⟨aCLimitsHits, _, rfl, baCLimitsHits, h0Limits_f1⟩ := has_int h0Limits_f0
  obtain rfl := has_nil h0Limits_f1
  obtain rfl := has_nil h0_f6
  rw [arr_of hl0]
  obtain ⟨l1, hl1⟩ : ∃ l, cs1.toList = l := ⟨_, rfl⟩
  rw [hl1] at h1
  obtain ⟨aPPage, _, rfl, baPPage, h1_f0⟩ := has_int h1
  obtain ⟨aPCap, _, rfl, baPCap, h1_f1⟩ := has_int h1_f0
  obtain ⟨aPLimit, _, rfl, baPLimit, h1_f2⟩ := has_int h1_f1
  obtain ⟨aPLow, _, rfl, baPLow, h1_f3⟩ := has_int h1_f2
  obtain ⟨aPHigh, _, rfl, baPHigh, h1_f4⟩ := has_int h1_f3
  obtain ⟨aPWeightsO, aPWeightsN, aPWeightsC, _, rfl, hsaPWeights, h1_f5⟩ := has_slice h1_f4
  obtain ⟨hnaPWeights, aPWeightsG, bGaPWeights, hraPWeights⟩ := row_of_has (s := 1) (.inl ⟨rfl, rfl⟩) (by omega) rfl hsaPWeights
  obtain ⟨_, _, rfl, h1Rule, h1_f6⟩ := has_struct h1_f5
  obtain ⟨aPRuleDown, _, rfl, baPRuleDown, h1Rule_f0⟩ := has_int h1Rule
  obtain ⟨aPRuleSleep, _, rfl, baPRuleSleep, h1Rule_f1⟩ := has_int h1Rule_f0
  obtain rfl := has_nil h1Rule_f1
  obtain rfl := has_nil h1_f6
  rw [arr_of hl1]
  exact law_FnExactPolicyFits_any aCGeometryGroups aCGeometryBanks aCGeometryRows aCGeometryCols aCTimingRCD aCTimingRP aCTimingRAS aCTimingRRDS aCTimingRRDL aCTimingFAW aCTimingCCDS aCTimingCCDL aCTimingRTP aCTimingWR aCTimingWTRS aCTimingWTRL aCTimingRTW aCTimingRFC aCTimingCKE aCTimingXP aCTimingXS aCMappingOrder aCMappingHash aCSpares aCInterval aCTrack aCLimitsAge aCLimitsHits (.agg #[.int .i64 aPPage, .int .i64 aPCap, .int .i64 aPLimit, .int .i64 aPLow, .int .i64 aPHigh, .slice aPWeightsO aPWeightsN aPWeightsC, .int .i64 aPRuleDown, .int .i64 aPRuleSleep]) [⟨false, aPWeightsO, 0, 1, aPWeightsN, 0, [fun i => .int (aPWeightsG 0 i)]⟩] W baCGeometryGroups baCGeometryBanks baCGeometryRows baCGeometryCols baCTimingRCD baCTimingRP baCTimingRAS baCTimingRRDS baCTimingRRDL baCTimingFAW baCTimingCCDS baCTimingCCDL baCTimingRTP baCTimingWR baCTimingWTRS baCTimingWTRL baCTimingRTW baCTimingRFC baCTimingCKE baCTimingXP baCTimingXS baCMappingOrder baCSpares baCInterval baCTrack baCLimitsAge baCLimitsHits ⟨aPPage, aPCap, aPLimit, aPLow, aPHigh, aPWeightsN, (aPWeightsG 0), aPRuleDown, aPRuleSleep⟩ ⟨_, _, _, _, _, rfl, rfl⟩ (rows_seen [⟨false, aPWeightsO, 0, 1, aPWeightsN, 0, [fun i => .int (aPWeightsG 0 i)]⟩] (by simp; exact hraPWeights)) hnaPWeights ⟨baPPage, baPCap, baPLimit, baPLow, baPHigh, baPRuleDown, baPRuleSleep⟩
end Go.Proofs.Ytlkklplnomecgaa

/-
  ConfigOk.
-/
import Derived.Test.YtlkklplnomecgaaSxConf
import Derived.Test.YtlkklplnomecgaaSxO
import Derived.Test.YtlkklplnomecgaaSxOpen
namespace Go.Proofs.Ytlkklplnomecgaa
set_option linter.unusedVariables false
set_option linter.unusedSimpArgs false
open Go.RowKit
set_option maxRecDepth 100000
set_option maxHeartbeats 8000000

theorem law_FnExactConfigOk_T (aCGeometryGroups : Int) (aCGeometryBanks : Int) (aCGeometryRows : Int) (aCGeometryCols : Int) (aCTimingRCD : Int) (aCTimingRP : Int) (aCTimingRAS : Int) (aCTimingRRDS : Int) (aCTimingRRDL : Int) (aCTimingFAW : Int) (aCTimingCCDS : Int) (aCTimingCCDL : Int) (aCTimingRTP : Int) (aCTimingWR : Int) (aCTimingWTRS : Int) (aCTimingWTRL : Int) (aCTimingRTW : Int) (aCTimingRFC : Int) (aCTimingCKE : Int) (aCTimingXP : Int) (aCTimingXS : Int) (aCMappingOrder : Int) (aCMappingHash : Bool) (aCSpares : Int) (aCInterval : Int) (aCTrack : Int) (aCLimitsAge : Int) (aCLimitsHits : Int) : (exFn Try.prog {tb := [(44, sToConfig), (45, sConf), (43, sConf)]} 400 Try.f11 ([.a (.agg [.int aCGeometryGroups, .int aCGeometryBanks, .int aCGeometryRows, .int aCGeometryCols, .int aCTimingRCD, .int aCTimingRP, .int aCTimingRAS, .int aCTimingRRDS, .int aCTimingRRDL, .int aCTimingFAW, .int aCTimingCCDS, .int aCTimingCCDL, .int aCTimingRTP, .int aCTimingWR, .int aCTimingWTRS, .int aCTimingWTRL, .int aCTimingRTW, .int aCTimingRFC, .int aCTimingCKE, .int aCTimingXP, .int aCTimingXS, .int aCMappingOrder, .bool aCMappingHash, .int aCSpares, .int aCInterval, .int aCTrack, .int aCLimitsAge, .int aCLimitsHits])]) ([]) (fun v _ => v.den = .bool true)) = (
  (∀ b0 : Nat,
  (b0 = b0 ∧
  ((rngC aCGeometryRows) ∧
  (b0 = b0 ∧
  ((rngC aCGeometryRows) ∧
  ((((cfgB aCGeometryGroups aCGeometryBanks aCGeometryRows aCGeometryCols aCTimingRCD aCTimingRP aCTimingRAS aCTimingRRDS aCTimingRRDL aCTimingFAW aCTimingCCDS aCTimingCCDL aCTimingRTP aCTimingWR aCTimingWTRS aCTimingWTRL aCTimingRTW aCTimingRFC aCTimingCKE aCTimingXP aCTimingXS aCMappingOrder aCSpares aCInterval aCTrack aCLimitsAge aCLimitsHits aCMappingHash) != (cfgB aCGeometryGroups aCGeometryBanks aCGeometryRows aCGeometryCols aCTimingRCD aCTimingRP aCTimingRAS aCTimingRRDS aCTimingRRDL aCTimingFAW aCTimingCCDS aCTimingCCDL aCTimingRTP aCTimingWR aCTimingWTRS aCTimingWTRL aCTimingRTW aCTimingRFC aCTimingCKE aCTimingXP aCTimingXS aCMappingOrder aCSpares aCInterval aCTrack aCLimitsAge aCLimitsHits aCMappingHash)) = Bool.true →
  (Value.bool Bool.false) = (Value.bool Bool.true)) ∧
  (((cfgB aCGeometryGroups aCGeometryBanks aCGeometryRows aCGeometryCols aCTimingRCD aCTimingRP aCTimingRAS aCTimingRRDS aCTimingRRDL aCTimingFAW aCTimingCCDS aCTimingCCDL aCTimingRTP aCTimingWR aCTimingWTRS aCTimingWTRL aCTimingRTW aCTimingRFC aCTimingCKE aCTimingXP aCTimingXS aCMappingOrder aCSpares aCInterval aCTrack aCLimitsAge aCLimitsHits aCMappingHash) != (cfgB aCGeometryGroups aCGeometryBanks aCGeometryRows aCGeometryCols aCTimingRCD aCTimingRP aCTimingRAS aCTimingRRDS aCTimingRRDL aCTimingFAW aCTimingCCDS aCTimingCCDL aCTimingRTP aCTimingWR aCTimingWTRS aCTimingWTRL aCTimingRTW aCTimingRFC aCTimingCKE aCTimingXP aCTimingXS aCMappingOrder aCSpares aCInterval aCTrack aCLimitsAge aCLimitsHits aCMappingHash)) = Bool.false →
  (Value.bool Bool.true) = (Value.bool Bool.true))))))))) := by kernel_rfl
theorem law_FnExactConfigOk_any (aCGeometryGroups : Int) (aCGeometryBanks : Int) (aCGeometryRows : Int) (aCGeometryCols : Int) (aCTimingRCD : Int) (aCTimingRP : Int) (aCTimingRAS : Int) (aCTimingRRDS : Int) (aCTimingRRDL : Int) (aCTimingFAW : Int) (aCTimingCCDS : Int) (aCTimingCCDL : Int) (aCTimingRTP : Int) (aCTimingWR : Int) (aCTimingWTRS : Int) (aCTimingWTRL : Int) (aCTimingRTW : Int) (aCTimingRFC : Int) (aCTimingCKE : Int) (aCTimingXP : Int) (aCTimingXS : Int) (aCMappingOrder : Int) (aCMappingHash : Bool) (aCSpares : Int) (aCInterval : Int) (aCTrack : Int) (aCLimitsAge : Int) (aCLimitsHits : Int) (W : World) (baCGeometryGroups : -9223372036854775808 ≤ aCGeometryGroups ∧ aCGeometryGroups ≤ 9223372036854775807) (baCGeometryBanks : -9223372036854775808 ≤ aCGeometryBanks ∧ aCGeometryBanks ≤ 9223372036854775807) (baCGeometryRows : -9223372036854775808 ≤ aCGeometryRows ∧ aCGeometryRows ≤ 9223372036854775807) (baCGeometryCols : -9223372036854775808 ≤ aCGeometryCols ∧ aCGeometryCols ≤ 9223372036854775807) (baCTimingRCD : -9223372036854775808 ≤ aCTimingRCD ∧ aCTimingRCD ≤ 9223372036854775807) (baCTimingRP : -9223372036854775808 ≤ aCTimingRP ∧ aCTimingRP ≤ 9223372036854775807) (baCTimingRAS : -9223372036854775808 ≤ aCTimingRAS ∧ aCTimingRAS ≤ 9223372036854775807) (baCTimingRRDS : -9223372036854775808 ≤ aCTimingRRDS ∧ aCTimingRRDS ≤ 9223372036854775807) (baCTimingRRDL : -9223372036854775808 ≤ aCTimingRRDL ∧ aCTimingRRDL ≤ 9223372036854775807) (baCTimingFAW : -9223372036854775808 ≤ aCTimingFAW ∧ aCTimingFAW ≤ 9223372036854775807) (baCTimingCCDS : -9223372036854775808 ≤ aCTimingCCDS ∧ aCTimingCCDS ≤ 9223372036854775807) (baCTimingCCDL : -9223372036854775808 ≤ aCTimingCCDL ∧ aCTimingCCDL ≤ 9223372036854775807) (baCTimingRTP : -9223372036854775808 ≤ aCTimingRTP ∧ aCTimingRTP ≤ 9223372036854775807) (baCTimingWR : -9223372036854775808 ≤ aCTimingWR ∧ aCTimingWR ≤ 9223372036854775807) (baCTimingWTRS : -9223372036854775808 ≤ aCTimingWTRS ∧ aCTimingWTRS ≤ 9223372036854775807) (baCTimingWTRL : -9223372036854775808 ≤ aCTimingWTRL ∧ aCTimingWTRL ≤ 9223372036854775807) (baCTimingRTW : -9223372036854775808 ≤ aCTimingRTW ∧ aCTimingRTW ≤ 9223372036854775807) (baCTimingRFC : -9223372036854775808 ≤ aCTimingRFC ∧ aCTimingRFC ≤ 9223372036854775807) (baCTimingCKE : -9223372036854775808 ≤ aCTimingCKE ∧ aCTimingCKE ≤ 9223372036854775807) (baCTimingXP : -9223372036854775808 ≤ aCTimingXP ∧ aCTimingXP ≤ 9223372036854775807) (baCTimingXS : -9223372036854775808 ≤ aCTimingXS ∧ aCTimingXS ≤ 9223372036854775807) (baCMappingOrder : -9223372036854775808 ≤ aCMappingOrder ∧ aCMappingOrder ≤ 9223372036854775807) (baCSpares : -9223372036854775808 ≤ aCSpares ∧ aCSpares ≤ 9223372036854775807) (baCInterval : -9223372036854775808 ≤ aCInterval ∧ aCInterval ≤ 9223372036854775807) (baCTrack : -9223372036854775808 ≤ aCTrack ∧ aCTrack ≤ 9223372036854775807) (baCLimitsAge : -9223372036854775808 ≤ aCLimitsAge ∧ aCLimitsAge ≤ 9223372036854775807) (baCLimitsHits : -9223372036854775808 ≤ aCLimitsHits ∧ aCLimitsHits ≤ 9223372036854775807) : Calls Try.prog 11 #[.agg #[.int .i64 aCGeometryGroups, .int .i64 aCGeometryBanks, .int .i64 aCGeometryRows, .int .i64 aCGeometryCols, .int .i64 aCTimingRCD, .int .i64 aCTimingRP, .int .i64 aCTimingRAS, .int .i64 aCTimingRRDS, .int .i64 aCTimingRRDL, .int .i64 aCTimingFAW, .int .i64 aCTimingCCDS, .int .i64 aCTimingCCDL, .int .i64 aCTimingRTP, .int .i64 aCTimingWR, .int .i64 aCTimingWTRS, .int .i64 aCTimingWTRL, .int .i64 aCTimingRTW, .int .i64 aCTimingRFC, .int .i64 aCTimingCKE, .int .i64 aCTimingXP, .int .i64 aCTimingXS, .int .i64 aCMappingOrder, .bool aCMappingHash, .int .i64 aCSpares, .int .i64 aCInterval, .int .i64 aCTrack, .int .i64 aCLimitsAge, .int .i64 aCLimitsHits]] W fun e W' => e = .returned (.bool true) ∧ Below W.heap.size W W' := by
  refine fnB (tb := [(44, sToConfig), (45, sConf), (43, sConf)]) ⟨(sToConfig_ok Try.call44 toConfig_any), sConf_I, sConf_S, trivial⟩ Try.func11 ((law_FnExactConfigOk_T aCGeometryGroups aCGeometryBanks aCGeometryRows aCGeometryCols aCTimingRCD aCTimingRP aCTimingRAS aCTimingRRDS aCTimingRRDL aCTimingFAW aCTimingCCDS aCTimingCCDL aCTimingRTP aCTimingWR aCTimingWTRS aCTimingWTRL aCTimingRTW aCTimingRFC aCTimingCKE aCTimingXP aCTimingXS aCMappingOrder aCMappingHash aCSpares aCInterval aCTrack aCLimitsAge aCLimitsHits).mpr ?_) (HS.start W (fun _ => False)) (fun v ch' w' hk hs => ⟨by rw [hk], hs.below⟩)
  repeat' (first
    | exact rfl
    | exact True.intro
    | assumption
    | refine And.intro ?_ ?_
    | apply Exists.intro
    | omega
    | (intro h; exfalso; revert h; simp; done)
    | (intro h; exfalso; simp at h; omega)
    | intro _)
theorem walk_FnExactConfigOk (cs0 : Array Value) (W : World) (h0 : Has W (.cons (.cons .int (.cons .int (.cons .int (.cons .int .nil)))) (.cons (.cons .int (.cons .int (.cons .int (.cons .int (.cons .int (.cons .int (.cons .int (.cons .int (.cons .int (.cons .int (.cons .int (.cons .int (.cons .int (.cons .int (.cons .int (.cons .int (.cons .int .nil))))))))))))))))) (.cons (.cons .int (.cons .bool .nil)) (.cons .int (.cons .int (.cons .int (.cons (.cons .int (.cons .int .nil)) .nil))))))) cs0.toList) : Calls Try.prog 11 #[.agg cs0] W fun e W' => e = .returned (.bool true) ∧ Below W.heap.size W W' := by
  obtain ⟨l0, hl0⟩ : ∃ l, cs0.toList = l := ⟨_, rfl⟩
  rw [hl0] at h0
  obtain ⟨_, _, rfl, h0Geometry, h0_f0⟩ := has_struct h0
  obtain ⟨aCGeometryGroups, _, rfl, baCGeometryGroups, h0Geometry_f0⟩ := has_int h0Geometry
  obtain ⟨aCGeometryBanks, _, rfl, baCGeometryBanks, h0Geometry_f1⟩ := has_int h0Geometry_f0
  obtain ⟨aCGeometryRows, _, rfl, baCGeometryRows, h0Geometry_f2⟩ := has_int h0Geometry_f1
  obtain ⟨aCGeometryCols, _, rfl, baCGeometryCols, h0Geometry_f3⟩ := has_int h0Geometry_f2
  obtain rfl := has_nil h0Geometry_f3
  obtain ⟨_, _, rfl, h0Timing, h0_f1⟩ := has_struct h0_f0
  obtain ⟨aCTimingRCD, _, rfl, baCTimingRCD, h0Timing_f0⟩ := has_int h0Timing
  obtain ⟨aCTimingRP, _, rfl, baCTimingRP, h0Timing_f1⟩ := has_int h0Timing_f0
  obtain ⟨aCTimingRAS, _, rfl, baCTimingRAS, h0Timing_f2⟩ := has_int h0Timing_f1
  obtain ⟨aCTimingRRDS, _, rfl, baCTimingRRDS, h0Timing_f3⟩ := has_int h0Timing_f2
  obtain ⟨aCTimingRRDL, _, rfl, baCTimingRRDL, h0Timing_f4⟩ := has_int h0Timing_f3
  obtain ⟨aCTimingFAW, _, rfl, baCTimingFAW, h0Timing_f5⟩ := has_int h0Timing_f4
  obtain ⟨aCTimingCCDS, _, rfl, baCTimingCCDS, h0Timing_f6⟩ := has_int h0Timing_f5
  obtain ⟨aCTimingCCDL, _, rfl, baCTimingCCDL, h0Timing_f7⟩ := has_int h0Timing_f6
  obtain ⟨aCTimingRTP, _, rfl, baCTimingRTP, h0Timing_f8⟩ := has_int h0Timing_f7
  obtain ⟨aCTimingWR, _, rfl, baCTimingWR, h0Timing_f9⟩ := has_int h0Timing_f8
  obtain ⟨aCTimingWTRS, _, rfl, baCTimingWTRS, h0Timing_f10⟩ := has_int h0Timing_f9
  obtain ⟨aCTimingWTRL, _, rfl, baCTimingWTRL, h0Timing_f11⟩ := has_int h0Timing_f10
  obtain ⟨aCTimingRTW, _, rfl, baCTimingRTW, h0Timing_f12⟩ := has_int h0Timing_f11
  obtain ⟨aCTimingRFC, _, rfl, baCTimingRFC, h0Timing_f13⟩ := has_int h0Timing_f12
  obtain ⟨aCTimingCKE, _, rfl, baCTimingCKE, h0Timing_f14⟩ := has_int h0Timing_f13
  obtain ⟨aCTimingXP, _, rfl, baCTimingXP, h0Timing_f15⟩ := has_int h0Timing_f14
  obtain ⟨aCTimingXS, _, rfl, baCTimingXS, h0Timing_f16⟩ := has_int h0Timing_f15
  obtain rfl := has_nil h0Timing_f16
  obtain ⟨_, _, rfl, h0Mapping, h0_f2⟩ := has_struct h0_f1
  obtain ⟨aCMappingOrder, _, rfl, baCMappingOrder, h0Mapping_f0⟩ := has_int h0Mapping
  obtain ⟨aCMappingHash, _, rfl, h0Mapping_f1⟩ := has_bool h0Mapping_f0
  obtain rfl := has_nil h0Mapping_f1
  obtain ⟨aCSpares, _, rfl, baCSpares, h0_f3⟩ := has_int h0_f2
  obtain ⟨aCInterval, _, rfl, baCInterval, h0_f4⟩ := has_int h0_f3
  obtain ⟨aCTrack, _, rfl, baCTrack, h0_f5⟩ := has_int h0_f4
  obtain ⟨_, _, rfl, h0Limits, h0_f6⟩ := has_struct h0_f5
  obtain ⟨aCLimitsAge, _, rfl, baCLimitsAge, h0Limits_f0⟩ := has_int h0Limits
  obtain ⟨aCLimitsHits, _, rfl, baCLimitsHits, h0Limits_f1⟩ := has_int h0Limits_f0
  obtain rfl := has_nil h0Limits_f1
  obtain rfl := has_nil h0_f6
  rw [arr_of hl0]
  exact law_FnExactConfigOk_any aCGeometryGroups aCGeometryBanks aCGeometryRows aCGeometryCols aCTimingRCD aCTimingRP aCTimingRAS aCTimingRRDS aCTimingRRDL aCTimingFAW aCTimingCCDS aCTimingCCDL aCTimingRTP aCTimingWR aCTimingWTRS aCTimingWTRL aCTimingRTW aCTimingRFC aCTimingCKE aCTimingXP aCTimingXS aCMappingOrder aCMappingHash aCSpares aCInterval aCTrack aCLimitsAge aCLimitsHits W baCGeometryGroups baCGeometryBanks baCGeometryRows baCGeometryCols baCTimingRCD baCTimingRP baCTimingRAS baCTimingRRDS baCTimingRRDL baCTimingFAW baCTimingCCDS baCTimingCCDL baCTimingRTP baCTimingWR baCTimingWTRS baCTimingWTRL baCTimingRTW baCTimingRFC baCTimingCKE baCTimingXP baCTimingXS baCMappingOrder baCSpares baCInterval baCTrack baCLimitsAge baCLimitsHits
end Go.Proofs.Ytlkklplnomecgaa

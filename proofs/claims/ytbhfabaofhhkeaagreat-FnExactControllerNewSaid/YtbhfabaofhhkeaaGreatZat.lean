/-
  FnExactControllerNew: a part of the walk (merged and squeezed by program: SxFits).
-/
import Derived.Test.YtbhfabaofhhkeaaGreatZas
namespace Go.Proofs.YtbhfabaofhhkeaaGreat
set_option linter.unusedVariables false
set_option linter.unusedSimpArgs false
open Go.RowKit
set_option maxRecDepth 100000
set_option maxHeartbeats 8000000
def guardB (l:Int):Int:=if btw l 3 1000=true then 2*l+2 else 0
theorem guardI_T (l:Int):(exFn Tryz.prog {tb:=[(106,sBtw)]} 400 Tryz.f101 ([.a (.c (.int l))]) ([]) (fun v _=>v.den=.int .i64 (guardB l)))=(
 ((! (btw l (3:Int) (1000:Int)))=true→(Wi 0)=(Wi (guardB l)))∧((! (btw l (3:Int) (1000:Int)))=false→rng ((2:Int)*l)∧rng (((2:Int)*l)+(2:Int))∧(Wi (((2:Int)*l)+(2:Int)))=(Wi (guardB l)))):=by kernel_rfl
theorem guardI_any (l:Int)(w:World):Calls Tryz.prog 101 #[.int .i64 l] w fun e w'=>e=.returned (.int .i64 (guardB l))∧Below w.heap.size w w':=by
 refine fnB (tb:=[(106,sBtw)]) ⟨sBtwI_ok,trivial⟩ Tryz.func101 (@Eq.mpr _ _ (guardI_T l) ?_) (HS.start w (fun _=>False)) (fun v ch' w' hk hs=>⟨by rw [hk],hs.below⟩)
 cases hb:btw l 3 1000
 ·repeat' (first | with_reducible exact rfl | exact True.intro | refine And.intro ?_ ?_ | intro _)
  all_goals simp_all [guardB]
 ·have hf:=btw_facts' hb
  repeat' (first | with_reducible exact rfl | exact True.intro | refine And.intro ?_ ?_ | (intro h;exfalso;simp [hb] at h;done) | intro _ | omega)
  all_goals simp_all [guardB]
theorem guardS_T (l:Int):(exFn Tryz.prog {tb:=[(97,sBtw)]} 400 Tryz.f92 ([.a (.c (.int l))]) ([]) (fun v _=>v.den=.int .i64 (guardB l)))=(
 ((! (btw l (3:Int) (1000:Int)))=true→(Wi 0)=(Wi (guardB l)))∧((! (btw l (3:Int) (1000:Int)))=false→rng ((2:Int)*l)∧rng (((2:Int)*l)+(2:Int))∧(Wi (((2:Int)*l)+(2:Int)))=(Wi (guardB l)))):=by kernel_rfl
theorem guardS_any (l:Int)(w:World):Calls Tryz.prog 92 #[.int .i64 l] w fun e w'=>e=.returned (.int .i64 (guardB l))∧Below w.heap.size w w':=by
 refine fnB (tb:=[(97,sBtw)]) ⟨sBtwS_ok,trivial⟩ Tryz.func92 (@Eq.mpr _ _ (guardS_T l) ?_) (HS.start w (fun _=>False)) (fun v ch' w' hk hs=>⟨by rw [hk],hs.below⟩)
 cases hb:btw l 3 1000
 ·repeat' (first | with_reducible exact rfl | exact True.intro | refine And.intro ?_ ?_ | intro _)
  all_goals simp_all [guardB]
 ·have hf:=btw_facts' hb
  repeat' (first | with_reducible exact rfl | exact True.intro | refine And.intro ?_ ?_ | (intro h;exfalso;simp [hb] at h;done) | intro _ | omega)
  all_goals simp_all [guardB]
def sGuard:Sm:=fun args ch k =>
 match args with
 | [.a (.c c0)] =>
  match ints [c0],bools [] with
  | some [l],some []=>k (.a (.c (.int (guardB l)))) ch []
  | _,_=>False
 | _=>False
theorem sGuard_ok {f:FuncId}(hc:∀ args w,(callFunc f args).run Tryz.prog w=.ok (.enter f args) w)(h:∀ (l:Int) (w:World),Calls Tryz.prog f #[.int .i64 l] w fun e w'=>e=.returned (.int .i64 (guardB l))∧Below w.heap.size w w'):SmOK Tryz.prog f sGuard:=by
 refine smB hc fun args ch k w X h0 hs=>?_
 unfold sGuard at h0
 split at h0
 ·split at h0
  ·rename_i l hi hb
   obtain ⟨e0,hi1⟩:=ints_cons hi
   refine ⟨_,h0,?_⟩
   simp only [List.map_cons,List.map_nil,den_a,den_c,SA.den,e0]
   exact h l w
  ·exact h0.elim
 ·exact h0.elim
theorem sGuard_I:SmOK Tryz.prog 101 sGuard:=sGuard_ok Tryz.call101 guardI_any
theorem sGuard_S:SmOK Tryz.prog 92 sGuard:=sGuard_ok Tryz.call92 guardS_any
def fitsP (cb pb:Bool)(tr iv ra rp hi li:Int):Bool:=cb&&pb&&decide (guardB li+2≤hi)&&decide ((tr+1)*li > 5*iv / (ra+rp)+2)
theorem cfg_facts {cGeometryGroups cGeometryBanks cGeometryRows cGeometryCols cTimingRCD cTimingRP cTimingRAS cTimingRRDS cTimingRRDL cTimingFAW cTimingCCDS cTimingCCDL cTimingRTP cTimingWR cTimingWTRS cTimingWTRL cTimingRTW cTimingRFC cTimingCKE cTimingXP cTimingXS cMappingOrder cSpares cInterval cTrack cLimitsAge cLimitsHits:Int}{cMappingHash:Bool}(h:cfgB cGeometryGroups cGeometryBanks cGeometryRows cGeometryCols cTimingRCD cTimingRP cTimingRAS cTimingRRDS cTimingRRDL cTimingFAW cTimingCCDS cTimingCCDL cTimingRTP cTimingWR cTimingWTRS cTimingWTRL cTimingRTW cTimingRFC cTimingCKE cTimingXP cTimingXS cMappingOrder cSpares cInterval cTrack cLimitsAge cLimitsHits cMappingHash=true):(1≤cTrack∧cTrack≤16)∧(0≤cInterval∧cInterval≤10000)∧(1≤cTimingRAS∧cTimingRAS≤64)∧(1≤cTimingRP∧cTimingRP≤64)∧(0≤cLimitsHits∧cLimitsHits≤100000):=by
 simp only [cfgB,Bool.and_eq_true] at h
 obtain ⟨⟨⟨⟨⟨⟨_,ht⟩,_⟩,hi⟩,htr⟩,_⟩,hh⟩:=h
 have hb:=tim_bounds cTimingRCD cTimingRP cTimingRAS cTimingRRDS cTimingRRDL cTimingFAW cTimingCCDS cTimingCCDL cTimingRTP cTimingWR cTimingWTRS cTimingWTRL cTimingRTW cTimingRFC cTimingCKE cTimingXP cTimingXS ht
 have h1:=btw_facts' hi
 have h2:=btw_facts' htr
 have h3:=btw_facts' hh
 have h4:0≤needI cTimingRCD cTimingRP cTimingRAS cTimingRRDS cTimingRRDL cTimingFAW cTimingCCDS cTimingCCDL cTimingRTP cTimingWR cTimingWTRS cTimingWTRL cTimingRTW cTimingRFC cTimingCKE cTimingXP cTimingXS:=need_nonneg
 omega
theorem pol_facts {page cap limit low high:Int}{n:Nat}{g:Nat→Int}{d s:Int}(h:polB page cap limit low high n g d s=true):(3≤limit∧limit≤1000)∧btw limit 3 1000=true:=by
 simp only [polB,Bool.and_eq_true] at h
 exact ⟨btw_facts' h.1.1.1.1.2,h.1.1.1.1.2⟩
theorem fitI_T (cGeometryGroups:Int)(cGeometryBanks:Int)(cGeometryRows:Int)(cGeometryCols:Int)(cTimingRCD:Int)(cTimingRP:Int)(cTimingRAS:Int)(cTimingRRDS:Int)(cTimingRRDL:Int)(cTimingFAW:Int)(cTimingCCDS:Int)(cTimingCCDL:Int)(cTimingRTP:Int)(cTimingWR:Int)(cTimingWTRS:Int)(cTimingWTRL:Int)(cTimingRTW:Int)(cTimingRFC:Int)(cTimingCKE:Int)(cTimingXP:Int)(cTimingXS:Int)(cMappingOrder:Int)(cMappingHash:Bool)(cSpares:Int)(cInterval:Int)(cTrack:Int)(cLimitsAge:Int)(cLimitsHits:Int)(pPage:Int)(pCap:Int)(pLimit:Int)(pLow:Int)(pHigh:Int)(pWeightsO:Option Addr)(pWeightsN pWeightsC:Nat)(pWeightsg0:Nat→Int)(pRuleDown:Int)(pRuleSleep:Int):(exFn Tryz.prog {tb:=[(99,sConf),(100,sPolOk),(101,sGuard)]} 400 Tryz.f32 ([.a (.agg [.int cGeometryGroups,.int cGeometryBanks,.int cGeometryRows,.int cGeometryCols,.int cTimingRCD,.int cTimingRP,.int cTimingRAS,.int cTimingRRDS,.int cTimingRRDL,.int cTimingFAW,.int cTimingCCDS,.int cTimingCCDL,.int cTimingRTP,.int cTimingWR,.int cTimingWTRS,.int cTimingWTRL,.int cTimingRTW,.int cTimingRFC,.int cTimingCKE,.int cTimingXP,.int cTimingXS,.int cMappingOrder,.bool cMappingHash,.int cSpares,.int cInterval,.int cTrack,.int cLimitsAge,.int cLimitsHits]),.a (.agg [.int pPage,.int pCap,.int pLimit,.int pLow,.int pHigh,.sl 0 pWeightsO pWeightsN pWeightsC,.int pRuleDown,.int pRuleSleep])]) ([.row ⟨false,pWeightsO,0,1,pWeightsN,0,[fun i=>.int (pWeightsg0 i)]⟩]) (fun v _=>v.den=.bool (fitsP (cfgB cGeometryGroups cGeometryBanks cGeometryRows cGeometryCols cTimingRCD cTimingRP cTimingRAS cTimingRRDS cTimingRRDL cTimingFAW cTimingCCDS cTimingCCDL cTimingRTP cTimingWR cTimingWTRS cTimingWTRL cTimingRTW cTimingRFC cTimingCKE cTimingXP cTimingXS cMappingOrder cSpares cInterval cTrack cLimitsAge cLimitsHits cMappingHash) (polB pPage pCap pLimit pLow pHigh pWeightsN pWeightsg0 pRuleDown pRuleSleep) cTrack cInterval cTimingRAS cTimingRP cLimitsHits pLimit)))=(
 (fun b:Bool=>(fun c:Bool=>(fun d:Value=>∀ g h:Nat,g=g∧rngC cGeometryRows∧True∧(c=true→h=h∧∃ j:Nat→Int,(fun k:Bool=>(pWeightsO=pWeightsO∧pWeightsN=pWeightsN∧[fun l=>Ci (pWeightsg0 l)]=[fun l=>Ci (j l)]∧capC pWeightsN)∧True∧(k=true→h=h∧g=g∧True∧rng ((guardB pLimit)+(2:Int))∧(b=true→g=g∧rng (cTrack+(1:Int))∧h=h∧rng ((cTrack+(1:Int))*pLimit)∧g=g∧rng ((5:Int)*cInterval)∧g=g∧g=g∧rng (cTimingRAS+cTimingRP)∧divC ((5:Int)*cInterval) (cTimingRAS+cTimingRP)∧rng ((((5:Int)*cInterval) / (cTimingRAS+cTimingRP))+(2:Int))∧(Wb (decide (((cTrack+(1:Int))*pLimit) > ((((5:Int)*cInterval) / (cTimingRAS+cTimingRP))+(2:Int)))))=d)∧(b=false→(Wb false)=d))∧(k=false→(Wb false)=d)) (polB pPage pCap pLimit pLow pHigh pWeightsN j pRuleDown pRuleSleep))∧(c=false→(Wb false)=d)) (Wb (fitsP c (polB pPage pCap pLimit pLow pHigh pWeightsN pWeightsg0 pRuleDown pRuleSleep) cTrack cInterval cTimingRAS cTimingRP cLimitsHits pLimit))) (cfgB cGeometryGroups cGeometryBanks cGeometryRows cGeometryCols cTimingRCD cTimingRP cTimingRAS cTimingRRDS cTimingRRDL cTimingFAW cTimingCCDS cTimingCCDL cTimingRTP cTimingWR cTimingWTRS cTimingWTRL cTimingRTW cTimingRFC cTimingCKE cTimingXP cTimingXS cMappingOrder cSpares cInterval cTrack cLimitsAge cLimitsHits cMappingHash)) (decide (((guardB pLimit)+(2:Int))≤cLimitsHits))):=by kernel_rfl
theorem fitI_any (cGeometryGroups:Int)(cGeometryBanks:Int)(cGeometryRows:Int)(cGeometryCols:Int)(cTimingRCD:Int)(cTimingRP:Int)(cTimingRAS:Int)(cTimingRRDS:Int)(cTimingRRDL:Int)(cTimingFAW:Int)(cTimingCCDS:Int)(cTimingCCDL:Int)(cTimingRTP:Int)(cTimingWR:Int)(cTimingWTRS:Int)(cTimingWTRL:Int)(cTimingRTW:Int)(cTimingRFC:Int)(cTimingCKE:Int)(cTimingXP:Int)(cTimingXS:Int)(cMappingOrder:Int)(cMappingHash:Bool)(cSpares:Int)(cInterval:Int)(cTrack:Int)(cLimitsAge:Int)(cLimitsHits:Int)(pPage:Int)(pCap:Int)(pLimit:Int)(pLow:Int)(pHigh:Int)(pWeightsO:Option Addr)(pWeightsN pWeightsC:Nat)(pWeightsg0:Nat→Int)(pRuleDown:Int)(pRuleSleep:Int)(w:World)(hrpWeights:Row.sat w ⟨false,pWeightsO,0,1,pWeightsN,0,[fun i=>.int (pWeightsg0 i)]⟩)(hpre:rngC cGeometryRows∧capC pWeightsN):Calls Tryz.prog 32 #[.agg #[.int .i64 cGeometryGroups,.int .i64 cGeometryBanks,.int .i64 cGeometryRows,.int .i64 cGeometryCols,.int .i64 cTimingRCD,.int .i64 cTimingRP,.int .i64 cTimingRAS,.int .i64 cTimingRRDS,.int .i64 cTimingRRDL,.int .i64 cTimingFAW,.int .i64 cTimingCCDS,.int .i64 cTimingCCDL,.int .i64 cTimingRTP,.int .i64 cTimingWR,.int .i64 cTimingWTRS,.int .i64 cTimingWTRL,.int .i64 cTimingRTW,.int .i64 cTimingRFC,.int .i64 cTimingCKE,.int .i64 cTimingXP,.int .i64 cTimingXS,.int .i64 cMappingOrder,.bool cMappingHash,.int .i64 cSpares,.int .i64 cInterval,.int .i64 cTrack,.int .i64 cLimitsAge,.int .i64 cLimitsHits],.agg #[.int .i64 pPage,.int .i64 pCap,.int .i64 pLimit,.int .i64 pLow,.int .i64 pHigh,.slice pWeightsO pWeightsN pWeightsC,.int .i64 pRuleDown,.int .i64 pRuleSleep]] w fun e w'=>e=.returned (.bool (fitsP (cfgB cGeometryGroups cGeometryBanks cGeometryRows cGeometryCols cTimingRCD cTimingRP cTimingRAS cTimingRRDS cTimingRRDL cTimingFAW cTimingCCDS cTimingCCDL cTimingRTP cTimingWR cTimingWTRS cTimingWTRL cTimingRTW cTimingRFC cTimingCKE cTimingXP cTimingXS cMappingOrder cSpares cInterval cTrack cLimitsAge cLimitsHits cMappingHash) (polB pPage pCap pLimit pLow pHigh pWeightsN pWeightsg0 pRuleDown pRuleSleep) cTrack cInterval cTimingRAS cTimingRP cLimitsHits pLimit))∧Below w.heap.size w w':=by
 refine fnB (tb:=[(99,sConf),(100,sPolOk),(101,sGuard)]) ⟨sConf_I,sPolOk_ok_polI,sGuard_I,trivial⟩ Tryz.func32 (@Eq.mpr _ _ (fitI_T cGeometryGroups cGeometryBanks cGeometryRows cGeometryCols cTimingRCD cTimingRP cTimingRAS cTimingRRDS cTimingRRDL cTimingFAW cTimingCCDS cTimingCCDL cTimingRTP cTimingWR cTimingWTRS cTimingWTRL cTimingRTW cTimingRFC cTimingCKE cTimingXP cTimingXS cMappingOrder cMappingHash cSpares cInterval cTrack cLimitsAge cLimitsHits pPage pCap pLimit pLow pHigh pWeightsO pWeightsN pWeightsC pWeightsg0 pRuleDown pRuleSleep) ?_) (HS.rows (fun _=>False) [⟨false,pWeightsO,0,1,pWeightsN,0,[fun i=>.int (pWeightsg0 i)]⟩] (by simp;exact hrpWeights)) (fun v ch' w' hk hs=>⟨by rw [hk],hs.below⟩)
 dsimp -zeta -proj -iota -eta -failIfUnchanged (etaStruct:=.none) only
 clear hrpWeights
 cases hc:cfgB cGeometryGroups cGeometryBanks cGeometryRows cGeometryCols cTimingRCD cTimingRP cTimingRAS cTimingRRDS cTimingRRDL cTimingFAW cTimingCCDS cTimingCCDL cTimingRTP cTimingWR cTimingWTRS cTimingWTRL cTimingRTW cTimingRFC cTimingCKE cTimingXP cTimingXS cMappingOrder cSpares cInterval cTrack cLimitsAge cLimitsHits cMappingHash
 ·have hok:fitsP (cfgB cGeometryGroups cGeometryBanks cGeometryRows cGeometryCols cTimingRCD cTimingRP cTimingRAS cTimingRRDS cTimingRRDL cTimingFAW cTimingCCDS cTimingCCDL cTimingRTP cTimingWR cTimingWTRS cTimingWTRL cTimingRTW cTimingRFC cTimingCKE cTimingXP cTimingXS cMappingOrder cSpares cInterval cTrack cLimitsAge cLimitsHits cMappingHash) (polB pPage pCap pLimit pLow pHigh pWeightsN pWeightsg0 pRuleDown pRuleSleep) cTrack cInterval cTimingRAS cTimingRP cLimitsHits pLimit=false:=by simp [fitsP,hc]
  repeat' (first
   | with_reducible exact rfl
   | exact True.intro
   | with_reducible assumption
   | refine And.intro ?_ ?_
   | apply Exists.intro
   | (intro h;exfalso;simp [hc] at h;done)
   | (intro h;exfalso;simp [hc] at h;omega)
   | intro _
   | omega
   | (simp;omega))
  all_goals (simp_all;done)
 ·cases hp:polB pPage pCap pLimit pLow pHigh pWeightsN pWeightsg0 pRuleDown pRuleSleep
  ·have hok:fitsP (cfgB cGeometryGroups cGeometryBanks cGeometryRows cGeometryCols cTimingRCD cTimingRP cTimingRAS cTimingRRDS cTimingRRDL cTimingFAW cTimingCCDS cTimingCCDL cTimingRTP cTimingWR cTimingWTRS cTimingWTRL cTimingRTW cTimingRFC cTimingCKE cTimingXP cTimingXS cMappingOrder cSpares cInterval cTrack cLimitsAge cLimitsHits cMappingHash) (polB pPage pCap pLimit pLow pHigh pWeightsN pWeightsg0 pRuleDown pRuleSleep) cTrack cInterval cTimingRAS cTimingRP cLimitsHits pLimit=false:=by simp [fitsP,hp]
   repeat' (first
    | with_reducible exact rfl
    | exact True.intro
    | with_reducible assumption
    | refine And.intro ?_ ?_
    | apply Exists.intro
    | (intro h;exfalso;simp [hc,hp] at h;done)
    | (intro h;exfalso;simp [hc,hp] at h;omega)
    | intro _
    | omega
    | (simp;omega))
   all_goals (simp_all;done)
  ·have hcf:=cfg_facts hc
   have hpf:=pol_facts hp
   have hg:guardB pLimit=2*pLimit+2:=by simp [guardB,hpf.2]
   have hpl:=hpf.1
   have hmul:0≤(cTrack+1)*pLimit∧(cTrack+1)*pLimit≤17*1000:=⟨Int.mul_nonneg (by omega) (by omega),Int.mul_le_mul (by omega) (by omega) (by omega) (by omega)⟩
   have hd0:0≤5*cInterval / (cTimingRAS+cTimingRP):=Int.ediv_nonneg (by omega) (by omega)
   have hd1:5*cInterval / (cTimingRAS+cTimingRP)≤5*cInterval:=Int.ediv_le_self _ (by omega)
   repeat' (first
    | with_reducible exact rfl
    | exact True.intro
    | with_reducible assumption
    | refine And.intro ?_ ?_
    | apply Exists.intro
    | (intro h;exfalso;simp [hc,hp] at h;done)
    | (intro h;exfalso;simp [hc,hp] at h;omega)
    | intro _
    | omega
    | (simp;omega))
   all_goals first
    | (simp_all [fitsP];done)
    | (simp only [fitsP,hc,hp,hg,Bool.true_and];congr 1;rw [Bool.eq_iff_iff];simp;omega)
    | (simp_all [fitsP];omega)
    | trace_state
theorem fitS_T (cGeometryGroups:Int)(cGeometryBanks:Int)(cGeometryRows:Int)(cGeometryCols:Int)(cTimingRCD:Int)(cTimingRP:Int)(cTimingRAS:Int)(cTimingRRDS:Int)(cTimingRRDL:Int)(cTimingFAW:Int)(cTimingCCDS:Int)(cTimingCCDL:Int)(cTimingRTP:Int)(cTimingWR:Int)(cTimingWTRS:Int)(cTimingWTRL:Int)(cTimingRTW:Int)(cTimingRFC:Int)(cTimingCKE:Int)(cTimingXP:Int)(cTimingXS:Int)(cMappingOrder:Int)(cMappingHash:Bool)(cSpares:Int)(cInterval:Int)(cTrack:Int)(cLimitsAge:Int)(cLimitsHits:Int)(pPage:Int)(pCap:Int)(pLimit:Int)(pLow:Int)(pHigh:Int)(pWeightsO:Option Addr)(pWeightsN pWeightsC:Nat)(pWeightsg0:Nat→Int)(pRuleDown:Int)(pRuleSleep:Int):(exFn Tryz.prog {tb:=[(90,sConf),(91,sPolOk),(92,sGuard)]} 400 Tryz.f15 ([.a (.agg [.int cGeometryGroups,.int cGeometryBanks,.int cGeometryRows,.int cGeometryCols,.int cTimingRCD,.int cTimingRP,.int cTimingRAS,.int cTimingRRDS,.int cTimingRRDL,.int cTimingFAW,.int cTimingCCDS,.int cTimingCCDL,.int cTimingRTP,.int cTimingWR,.int cTimingWTRS,.int cTimingWTRL,.int cTimingRTW,.int cTimingRFC,.int cTimingCKE,.int cTimingXP,.int cTimingXS,.int cMappingOrder,.bool cMappingHash,.int cSpares,.int cInterval,.int cTrack,.int cLimitsAge,.int cLimitsHits]),.a (.agg [.int pPage,.int pCap,.int pLimit,.int pLow,.int pHigh,.sl 0 pWeightsO pWeightsN pWeightsC,.int pRuleDown,.int pRuleSleep])]) ([.row ⟨false,pWeightsO,0,1,pWeightsN,0,[fun i=>.int (pWeightsg0 i)]⟩]) (fun v _=>v.den=.bool (fitsP (cfgB cGeometryGroups cGeometryBanks cGeometryRows cGeometryCols cTimingRCD cTimingRP cTimingRAS cTimingRRDS cTimingRRDL cTimingFAW cTimingCCDS cTimingCCDL cTimingRTP cTimingWR cTimingWTRS cTimingWTRL cTimingRTW cTimingRFC cTimingCKE cTimingXP cTimingXS cMappingOrder cSpares cInterval cTrack cLimitsAge cLimitsHits cMappingHash) (polB pPage pCap pLimit pLow pHigh pWeightsN pWeightsg0 pRuleDown pRuleSleep) cTrack cInterval cTimingRAS cTimingRP cLimitsHits pLimit)))=(
 (fun b:Bool=>(fun c:Bool=>(fun d:Bool=>(fun g:Value=>∀ h j:Nat,h=h∧rngC cGeometryRows∧(d=false→j=j∧∃ k:Nat→Int,(fun l:Bool=>(pWeightsO=pWeightsO∧pWeightsN=pWeightsN∧[fun m=>Ci (pWeightsg0 m)]=[fun m=>Ci (k m)]∧capC pWeightsN)∧(l=true→(Wb false)=g)∧(l=false→j=j∧h=h∧True∧rng ((guardB pLimit)+(2:Int))∧(b=true→h=h∧rng (cTrack+(1:Int))∧j=j∧rng ((cTrack+(1:Int))*pLimit)∧h=h∧rng ((5:Int)*cInterval)∧h=h∧h=h∧rng (cTimingRAS+cTimingRP)∧divC ((5:Int)*cInterval) (cTimingRAS+cTimingRP)∧rng ((((5:Int)*cInterval) / (cTimingRAS+cTimingRP))+(2:Int))∧(Wb (decide (((cTrack+(1:Int))*pLimit) > ((((5:Int)*cInterval) / (cTimingRAS+cTimingRP))+(2:Int)))))=g)∧(b=false→(Wb false)=g))) (! (polB pPage pCap pLimit pLow pHigh pWeightsN k pRuleDown pRuleSleep)))∧(d=true→(Wb false)=g)) (Wb (fitsP c (polB pPage pCap pLimit pLow pHigh pWeightsN pWeightsg0 pRuleDown pRuleSleep) cTrack cInterval cTimingRAS cTimingRP cLimitsHits pLimit))) (! c)) (cfgB cGeometryGroups cGeometryBanks cGeometryRows cGeometryCols cTimingRCD cTimingRP cTimingRAS cTimingRRDS cTimingRRDL cTimingFAW cTimingCCDS cTimingCCDL cTimingRTP cTimingWR cTimingWTRS cTimingWTRL cTimingRTW cTimingRFC cTimingCKE cTimingXP cTimingXS cMappingOrder cSpares cInterval cTrack cLimitsAge cLimitsHits cMappingHash)) (decide (((guardB pLimit)+(2:Int))≤cLimitsHits))):=by kernel_rfl
theorem fitS_any (cGeometryGroups:Int)(cGeometryBanks:Int)(cGeometryRows:Int)(cGeometryCols:Int)(cTimingRCD:Int)(cTimingRP:Int)(cTimingRAS:Int)(cTimingRRDS:Int)(cTimingRRDL:Int)(cTimingFAW:Int)(cTimingCCDS:Int)(cTimingCCDL:Int)(cTimingRTP:Int)(cTimingWR:Int)(cTimingWTRS:Int)(cTimingWTRL:Int)(cTimingRTW:Int)(cTimingRFC:Int)(cTimingCKE:Int)(cTimingXP:Int)(cTimingXS:Int)(cMappingOrder:Int)(cMappingHash:Bool)(cSpares:Int)(cInterval:Int)(cTrack:Int)(cLimitsAge:Int)(cLimitsHits:Int)(pPage:Int)(pCap:Int)(pLimit:Int)(pLow:Int)(pHigh:Int)(pWeightsO:Option Addr)(pWeightsN pWeightsC:Nat)(pWeightsg0:Nat→Int)(pRuleDown:Int)(pRuleSleep:Int)(w:World)(hrpWeights:Row.sat w ⟨false,pWeightsO,0,1,pWeightsN,0,[fun i=>.int (pWeightsg0 i)]⟩)(hpre:rngC cGeometryRows∧capC pWeightsN):Calls Tryz.prog 15 #[.agg #[.int .i64 cGeometryGroups,.int .i64 cGeometryBanks,.int .i64 cGeometryRows,.int .i64 cGeometryCols,.int .i64 cTimingRCD,.int .i64 cTimingRP,.int .i64 cTimingRAS,.int .i64 cTimingRRDS,.int .i64 cTimingRRDL,.int .i64 cTimingFAW,.int .i64 cTimingCCDS,.int .i64 cTimingCCDL,.int .i64 cTimingRTP,.int .i64 cTimingWR,.int .i64 cTimingWTRS,.int .i64 cTimingWTRL,.int .i64 cTimingRTW,.int .i64 cTimingRFC,.int .i64 cTimingCKE,.int .i64 cTimingXP,.int .i64 cTimingXS,.int .i64 cMappingOrder,.bool cMappingHash,.int .i64 cSpares,.int .i64 cInterval,.int .i64 cTrack,.int .i64 cLimitsAge,.int .i64 cLimitsHits],.agg #[.int .i64 pPage,.int .i64 pCap,.int .i64 pLimit,.int .i64 pLow,.int .i64 pHigh,.slice pWeightsO pWeightsN pWeightsC,.int .i64 pRuleDown,.int .i64 pRuleSleep]] w fun e w'=>e=.returned (.bool (fitsP (cfgB cGeometryGroups cGeometryBanks cGeometryRows cGeometryCols cTimingRCD cTimingRP cTimingRAS cTimingRRDS cTimingRRDL cTimingFAW cTimingCCDS cTimingCCDL cTimingRTP cTimingWR cTimingWTRS cTimingWTRL cTimingRTW cTimingRFC cTimingCKE cTimingXP cTimingXS cMappingOrder cSpares cInterval cTrack cLimitsAge cLimitsHits cMappingHash) (polB pPage pCap pLimit pLow pHigh pWeightsN pWeightsg0 pRuleDown pRuleSleep) cTrack cInterval cTimingRAS cTimingRP cLimitsHits pLimit))∧Below w.heap.size w w':=by
 refine fnB (tb:=[(90,sConf),(91,sPolOk),(92,sGuard)]) ⟨sConf_S,sPolOk_ok_polS,sGuard_S,trivial⟩ Tryz.func15 (@Eq.mpr _ _ (fitS_T cGeometryGroups cGeometryBanks cGeometryRows cGeometryCols cTimingRCD cTimingRP cTimingRAS cTimingRRDS cTimingRRDL cTimingFAW cTimingCCDS cTimingCCDL cTimingRTP cTimingWR cTimingWTRS cTimingWTRL cTimingRTW cTimingRFC cTimingCKE cTimingXP cTimingXS cMappingOrder cMappingHash cSpares cInterval cTrack cLimitsAge cLimitsHits pPage pCap pLimit pLow pHigh pWeightsO pWeightsN pWeightsC pWeightsg0 pRuleDown pRuleSleep) ?_) (HS.rows (fun _=>False) [⟨false,pWeightsO,0,1,pWeightsN,0,[fun i=>.int (pWeightsg0 i)]⟩] (by simp;exact hrpWeights)) (fun v ch' w' hk hs=>⟨by rw [hk],hs.below⟩)
 dsimp -zeta -proj -iota -eta -failIfUnchanged (etaStruct:=.none) only
 clear hrpWeights
 cases hc:cfgB cGeometryGroups cGeometryBanks cGeometryRows cGeometryCols cTimingRCD cTimingRP cTimingRAS cTimingRRDS cTimingRRDL cTimingFAW cTimingCCDS cTimingCCDL cTimingRTP cTimingWR cTimingWTRS cTimingWTRL cTimingRTW cTimingRFC cTimingCKE cTimingXP cTimingXS cMappingOrder cSpares cInterval cTrack cLimitsAge cLimitsHits cMappingHash
 ·have hok:fitsP (cfgB cGeometryGroups cGeometryBanks cGeometryRows cGeometryCols cTimingRCD cTimingRP cTimingRAS cTimingRRDS cTimingRRDL cTimingFAW cTimingCCDS cTimingCCDL cTimingRTP cTimingWR cTimingWTRS cTimingWTRL cTimingRTW cTimingRFC cTimingCKE cTimingXP cTimingXS cMappingOrder cSpares cInterval cTrack cLimitsAge cLimitsHits cMappingHash) (polB pPage pCap pLimit pLow pHigh pWeightsN pWeightsg0 pRuleDown pRuleSleep) cTrack cInterval cTimingRAS cTimingRP cLimitsHits pLimit=false:=by simp [fitsP,hc]
  repeat' (first
   | with_reducible exact rfl
   | exact True.intro
   | with_reducible assumption
   | refine And.intro ?_ ?_
   | apply Exists.intro
   | (intro h;exfalso;simp [hc] at h;done)
   | (intro h;exfalso;simp [hc] at h;omega)
   | intro _
   | omega
   | (simp;omega))
  all_goals (simp_all;done)
 ·cases hp:polB pPage pCap pLimit pLow pHigh pWeightsN pWeightsg0 pRuleDown pRuleSleep
  ·have hok:fitsP (cfgB cGeometryGroups cGeometryBanks cGeometryRows cGeometryCols cTimingRCD cTimingRP cTimingRAS cTimingRRDS cTimingRRDL cTimingFAW cTimingCCDS cTimingCCDL cTimingRTP cTimingWR cTimingWTRS cTimingWTRL cTimingRTW cTimingRFC cTimingCKE cTimingXP cTimingXS cMappingOrder cSpares cInterval cTrack cLimitsAge cLimitsHits cMappingHash) (polB pPage pCap pLimit pLow pHigh pWeightsN pWeightsg0 pRuleDown pRuleSleep) cTrack cInterval cTimingRAS cTimingRP cLimitsHits pLimit=false:=by simp [fitsP,hp]
   repeat' (first
    | with_reducible exact rfl
    | exact True.intro
    | with_reducible assumption
    | refine And.intro ?_ ?_
    | apply Exists.intro
    | (intro h;exfalso;simp [hc,hp] at h;done)
    | (intro h;exfalso;simp [hc,hp] at h;omega)
    | intro _
    | omega
    | (simp;omega))
   all_goals (simp_all;done)
  ·have hcf:=cfg_facts hc
   have hpf:=pol_facts hp
   have hg:guardB pLimit=2*pLimit+2:=by simp [guardB,hpf.2]
   have hpl:=hpf.1
   have hmul:0≤(cTrack+1)*pLimit∧(cTrack+1)*pLimit≤17*1000:=⟨Int.mul_nonneg (by omega) (by omega),Int.mul_le_mul (by omega) (by omega) (by omega) (by omega)⟩
   have hd0:0≤5*cInterval / (cTimingRAS+cTimingRP):=Int.ediv_nonneg (by omega) (by omega)
   have hd1:5*cInterval / (cTimingRAS+cTimingRP)≤5*cInterval:=Int.ediv_le_self _ (by omega)
   repeat' (first
    | with_reducible exact rfl
    | exact True.intro
    | with_reducible assumption
    | refine And.intro ?_ ?_
    | apply Exists.intro
    | (intro h;exfalso;simp [hc,hp] at h;done)
    | (intro h;exfalso;simp [hc,hp] at h;omega)
    | intro _
    | omega
    | (simp;omega))
   all_goals first
    | (simp_all [fitsP];done)
    | (simp only [fitsP,hc,hp,hg,Bool.true_and];congr 1;rw [Bool.eq_iff_iff];simp;omega)
    | (simp_all [fitsP];omega)
    | trace_state
end Go.Proofs.YtbhfabaofhhkeaaGreat

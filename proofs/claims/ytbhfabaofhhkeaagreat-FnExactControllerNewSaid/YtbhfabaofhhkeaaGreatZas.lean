/-
  FnExactControllerNew: a part of the walk (merged and squeezed by program: SxConf).
-/
import Derived.Test.YtbhfabaofhhkeaaGreatZaq
import Derived.Test.YtbhfabaofhhkeaaGreatZar
namespace Go.Proofs.YtbhfabaofhhkeaaGreat
set_option linter.unusedVariables false
set_option linter.unusedSimpArgs false
open Go.RowKit
set_option maxRecDepth 100000
set_option maxHeartbeats 8000000
abbrev rngC (x:Int):Prop:=-9223372036854775808≤x∧x≤9223372036854775807
def sSpNew:Sm:=fun args ch kk =>
 match args with
 | [.a (.agg [c0,c1,c2,c3]),.a (.c c4)] =>
  match ints [c0,c1,c2,c3,c4] with
  | some [gGroups,gBanks,gRows,gCols,sp]=>(rngC gRows)∧∀ (ro0:Option Addr) (rc0:Nat),kk (.tup [.agg [.int (ifZ (spOk gGroups gBanks gRows gCols sp) sp),.sl (ch.length) ro0 (ifN (spOk gGroups gBanks gRows gCols sp) (spK gGroups gBanks gRows gCols sp)) rc0],.c (.bool (spOk gGroups gBanks gRows gCols sp))]) (ch ++ [.row ⟨true,ro0,3,1,ifN (spOk gGroups gBanks gRows gCols sp) (spK gGroups gBanks gRows gCols sp),rc0,[fun i=>.int (spF (spM gRows sp) i)]⟩]) []
  | _=>False
 | _=>False
theorem sSpNew_ok {f:FuncId}(hc:∀ args w,(callFunc f args).run Tryz.prog w=.ok (.enter f args) w)(h:∀ (gGroups:Int) (gBanks:Int) (gRows:Int) (gCols:Int) (sp:Int) (w:World),rngC gRows→Calls Tryz.prog f #[.agg #[.int .i64 gGroups,.int .i64 gBanks,.int .i64 gRows,.int .i64 gCols],.int .i64 sp] w fun e w'=>∃ (ro0:Option Addr) (rc0:Nat),e=.returned (.tuple #[.agg #[.int .i64 (ifZ (spOk gGroups gBanks gRows gCols sp) sp),.slice ro0 (ifN (spOk gGroups gBanks gRows gCols sp) (spK gGroups gBanks gRows gCols sp)) rc0],.bool (spOk gGroups gBanks gRows gCols sp)])∧HS ⟨w,fun _=>False⟩ [.row ⟨true,ro0,3,1,ifN (spOk gGroups gBanks gRows gCols sp) (spK gGroups gBanks gRows gCols sp),rc0,[fun i=>.int (spF (spM gRows sp) i)]⟩] w'):SmOK Tryz.prog f sSpNew:=by
 refine smN hc fun args ch kk w X h0 hs=>?_
 unfold sSpNew at h0
 split at h0
 ·rename_i c0 c1 c2 c3 c4
  split at h0
  ·rename_i gGroups gBanks gRows gCols sp hi
   obtain ⟨hpre,h0⟩:=h0
   obtain ⟨ec0,hi⟩:=ints_cons hi
   obtain ⟨ec1,hi⟩:=ints_cons hi
   obtain ⟨ec2,hi⟩:=ints_cons hi
   obtain ⟨ec3,hi⟩:=ints_cons hi
   obtain ⟨ec4,hi⟩:=ints_cons hi
   refine Calls.mono (?_:Calls Tryz.prog f _ w (fun e w'=>∃ (ro0:Option Addr) (rc0:Nat),e=.returned (.tuple #[.agg #[.int .i64 (ifZ (spOk gGroups gBanks gRows gCols sp) sp),.slice ro0 (ifN (spOk gGroups gBanks gRows gCols sp) (spK gGroups gBanks gRows gCols sp)) rc0],.bool (spOk gGroups gBanks gRows gCols sp)])∧HS ⟨w,fun _=>False⟩ [.row ⟨true,ro0,3,1,ifN (spOk gGroups gBanks gRows gCols sp) (spK gGroups gBanks gRows gCols sp),rc0,[fun i=>.int (spF (spM gRows sp) i)]⟩] w')) (fun e w' ⟨ro0,rc0,he,hs'⟩=>⟨_,_,?_,hs',rfl,h0 ro0 rc0⟩)
   ·simp only [List.map_cons,List.map_nil,den_a,den_c,SA.den,den_sl,ec0,ec1,ec2,ec3,ec4]
    exact h gGroups gBanks gRows gCols sp w hpre
   ·rw [he]
    rfl
  ·exact h0.elim
 ·exact h0.elim
theorem sSpNew_I:SmOK Tryz.prog 37 sSpNew:=sSpNew_ok Tryz.call37 (fun gGroups gBanks gRows gCols sp w hp=>spareI_any gGroups gBanks gRows gCols sp w hp)
theorem sSpNew_S:SmOK Tryz.prog 21 sSpNew:=sSpNew_ok Tryz.call21 (fun gGroups gBanks gRows gCols sp w hp=>spareS_any gGroups gBanks gRows gCols sp w hp)
def cfgB (cGeometryGroups cGeometryBanks cGeometryRows cGeometryCols cTimingRCD cTimingRP cTimingRAS cTimingRRDS cTimingRRDL cTimingFAW cTimingCCDS cTimingCCDL cTimingRTP cTimingWR cTimingWTRS cTimingWTRL cTimingRTW cTimingRFC cTimingCKE cTimingXP cTimingXS cMappingOrder cSpares cInterval cTrack cLimitsAge cLimitsHits:Int)(cMappingHash:Bool):Bool:=spOk cGeometryGroups cGeometryBanks cGeometryRows cGeometryCols cSpares&&timB cTimingRCD cTimingRP cTimingRAS cTimingRRDS cTimingRRDL cTimingFAW cTimingCCDS cTimingCCDL cTimingRTP cTimingWR cTimingWTRS cTimingWTRL cTimingRTW cTimingRFC cTimingCKE cTimingXP cTimingXS&&btw cMappingOrder 0 2&&btw cInterval (needI cTimingRCD cTimingRP cTimingRAS cTimingRRDS cTimingRRDL cTimingFAW cTimingCCDS cTimingCCDL cTimingRTP cTimingWR cTimingWTRS cTimingWTRL cTimingRTW cTimingRFC cTimingCKE cTimingXP cTimingXS) 10000&&btw cTrack 1 16&&btw cLimitsAge (6*cInterval) 100000&&btw cLimitsHits 0 100000
theorem mapI_T (mOrder:Int)(mHash:Bool):(exFn Tryz.prog {tb:=[(106,sBtw)]} 400 Tryz.f133 ([.a (.agg [.int mOrder,.bool mHash])]) ([]) (fun v _=>v.den=.bool (btw mOrder 0 2)))=(
 ∀ b:Nat,b=b∧(Wb (btw mOrder (0:Int) (2:Int)))=(Wb (btw mOrder (0:Int) (2:Int)))):=by kernel_rfl
theorem mapI_any (mOrder:Int)(mHash:Bool)(w:World):Calls Tryz.prog 133 #[.agg #[.int .i64 mOrder,.bool mHash]] w fun e w'=>e=.returned (.bool (btw mOrder 0 2))∧Below w.heap.size w w':=by
 refine fnB (tb:=[(106,sBtw)]) ⟨sBtwI_ok,trivial⟩ Tryz.func133 (@Eq.mpr _ _ (mapI_T mOrder mHash) ?_) (HS.start w (fun _=>False)) (fun v ch' w' hk hs=>⟨by rw [hk],hs.below⟩)
 repeat' (first | with_reducible exact rfl | exact True.intro | refine And.intro ?_ ?_ | intro _)
 all_goals (try (simp_all;done))
theorem mapS_T (mOrder:Int)(mHash:Bool):(exFn Tryz.prog {tb:=[(97,sBtw)]} 400 Tryz.f128 ([.a (.agg [.int mOrder,.bool mHash])]) ([]) (fun v _=>v.den=.bool (btw mOrder 0 2)))=(
 ∀ b:Nat,b=b∧(Wb (btw mOrder (0:Int) (2:Int)))=(Wb (btw mOrder (0:Int) (2:Int)))):=by kernel_rfl
theorem mapS_any (mOrder:Int)(mHash:Bool)(w:World):Calls Tryz.prog 128 #[.agg #[.int .i64 mOrder,.bool mHash]] w fun e w'=>e=.returned (.bool (btw mOrder 0 2))∧Below w.heap.size w w':=by
 refine fnB (tb:=[(97,sBtw)]) ⟨sBtwS_ok,trivial⟩ Tryz.func128 (@Eq.mpr _ _ (mapS_T mOrder mHash) ?_) (HS.start w (fun _=>False)) (fun v ch' w' hk hs=>⟨by rw [hk],hs.below⟩)
 repeat' (first | with_reducible exact rfl | exact True.intro | refine And.intro ?_ ?_ | intro _)
 all_goals (try (simp_all;done))
def sMap:Sm:=fun args ch k =>
 match args with
 | [.a (.agg [c0,c1])] =>
  match ints [c0],bools [c1] with
  | some [mOrder],some [mHash]=>k (.a (.c (.bool (btw mOrder 0 2)))) ch []
  | _,_=>False
 | _=>False
theorem sMap_ok {f:FuncId}(hc:∀ args w,(callFunc f args).run Tryz.prog w=.ok (.enter f args) w)(h:∀ (mOrder:Int) (mHash:Bool) (w:World),Calls Tryz.prog f #[.agg #[.int .i64 mOrder,.bool mHash]] w fun e w'=>e=.returned (.bool (btw mOrder 0 2))∧Below w.heap.size w w'):SmOK Tryz.prog f sMap:=by
 refine smB hc fun args ch k w X h0 hs=>?_
 unfold sMap at h0
 split at h0
 ·split at h0
  ·rename_i mOrder mHash hi hb
   obtain ⟨e0,hi1⟩:=ints_cons hi
   obtain ⟨e1,hb1⟩:=bools_cons hb
   refine ⟨_,h0,?_⟩
   simp only [List.map_cons,List.map_nil,den_a,den_c,SA.den,e0,e1]
   exact h mOrder mHash w
  ·exact h0.elim
 ·exact h0.elim
theorem sMap_I:SmOK Tryz.prog 133 sMap:=sMap_ok Tryz.call133 mapI_any
theorem sMap_S:SmOK Tryz.prog 128 sMap:=sMap_ok Tryz.call128 mapS_any
theorem need_nonneg {tRCD tRP tRAS tRRDS tRRDL tFAW tCCDS tCCDL tRTP tWR tWTRS tWTRL tRTW tRFC tCKE tXP tXS:Int}:0≤needI tRCD tRP tRAS tRRDS tRRDL tFAW tCCDS tCCDL tRTP tWR tWTRS tWTRL tRTW tRFC tCKE tXP tXS:=by
 unfold needI
 split
 ·rename_i h
  have hb:=tim_bounds tRCD tRP tRAS tRRDS tRRDL tFAW tCCDS tCCDL tRTP tWR tWTRS tWTRL tRTW tRFC tCKE tXP tXS h
  omega
 ·omega
theorem confI_T (cGeometryGroups cGeometryBanks cGeometryRows cGeometryCols cTimingRCD cTimingRP cTimingRAS cTimingRRDS cTimingRRDL cTimingFAW cTimingCCDS cTimingCCDL cTimingRTP cTimingWR cTimingWTRS cTimingWTRL cTimingRTW cTimingRFC cTimingCKE cTimingXP cTimingXS cMappingOrder:Int)(cMappingHash:Bool)(cSpares cInterval cTrack cLimitsAge cLimitsHits:Int):(exFn Tryz.prog {tb:=[(37,sSpNew),(102,sGeo),(132,sTimingOk),(133,sMap),(106,sBtw),(134,sNeed)]} 400 Tryz.f99 ([.a (.agg [.int cGeometryGroups,.int cGeometryBanks,.int cGeometryRows,.int cGeometryCols,.int cTimingRCD,.int cTimingRP,.int cTimingRAS,.int cTimingRRDS,.int cTimingRRDL,.int cTimingFAW,.int cTimingCCDS,.int cTimingCCDL,.int cTimingRTP,.int cTimingWR,.int cTimingWTRS,.int cTimingWTRL,.int cTimingRTW,.int cTimingRFC,.int cTimingCKE,.int cTimingXP,.int cTimingXS,.int cMappingOrder,.bool cMappingHash,.int cSpares,.int cInterval,.int cTrack,.int cLimitsAge,.int cLimitsHits])]) ([]) (fun v _=>v.den=.bool (cfgB cGeometryGroups cGeometryBanks cGeometryRows cGeometryCols cTimingRCD cTimingRP cTimingRAS cTimingRRDS cTimingRRDL cTimingFAW cTimingCCDS cTimingCCDL cTimingRTP cTimingWR cTimingWTRS cTimingWTRL cTimingRTW cTimingRFC cTimingCKE cTimingXP cTimingXS cMappingOrder cSpares cInterval cTrack cLimitsAge cLimitsHits cMappingHash)))=(
 (fun b:Value=>(fun c:Bool=>(fun d:Bool=>(fun g:Bool=>(fun h:Bool=>(fun j:Bool=>(fun k:Bool=>(fun l:Bool=>(fun m:Value=>∀ n:Nat,n=n∧n=n∧rngC cGeometryRows∧∀(o:Option Addr) (p q:Nat),q=q∧n=n∧True∧(h=true→n=n∧True∧(k=true→n=n∧True∧(d=true→(j=true→n=n∧n=n∧True∧True∧(l=true→n=n∧True∧(c=true→n=n∧n=n∧rng ((6:Int)*cInterval)∧True∧(g=true→n=n∧True∧(Wb (btw cLimitsHits (0:Int) (100000:Int)))=m)∧(g=false→b=m))∧(c=false→b=m))∧(l=false→b=m))∧(j=false→b=m))∧(d=false→b=m))∧(k=false→b=m))∧(h=false→b=m)) (Wb (cfgB cGeometryGroups cGeometryBanks cGeometryRows cGeometryCols cTimingRCD cTimingRP cTimingRAS cTimingRRDS cTimingRRDL cTimingFAW cTimingCCDS cTimingCCDL cTimingRTP cTimingWR cTimingWTRS cTimingWTRL cTimingRTW cTimingRFC cTimingCKE cTimingXP cTimingXS cMappingOrder cSpares cInterval cTrack cLimitsAge cLimitsHits cMappingHash))) (btw cInterval (needI cTimingRCD cTimingRP cTimingRAS cTimingRRDS cTimingRRDL cTimingFAW cTimingCCDS cTimingCCDL cTimingRTP cTimingWR cTimingWTRS cTimingWTRL cTimingRTW cTimingRFC cTimingCKE cTimingXP cTimingXS) (10000:Int))) (timB cTimingRCD cTimingRP cTimingRAS cTimingRRDS cTimingRRDL cTimingFAW cTimingCCDS cTimingCCDL cTimingRTP cTimingWR cTimingWTRS cTimingWTRL cTimingRTW cTimingRFC cTimingCKE cTimingXP cTimingXS)) (spOk cGeometryGroups cGeometryBanks cGeometryRows cGeometryCols cSpares)) (geoB cGeometryGroups cGeometryBanks cGeometryRows cGeometryCols)) (btw cLimitsAge ((6:Int)*cInterval) (100000:Int))) (btw cMappingOrder (0:Int) (2:Int))) (btw cTrack (1:Int) (16:Int))) (Wb false)):=by kernel_rfl
theorem confI_any (cGeometryGroups cGeometryBanks cGeometryRows cGeometryCols cTimingRCD cTimingRP cTimingRAS cTimingRRDS cTimingRRDL cTimingFAW cTimingCCDS cTimingCCDL cTimingRTP cTimingWR cTimingWTRS cTimingWTRL cTimingRTW cTimingRFC cTimingCKE cTimingXP cTimingXS cMappingOrder:Int)(cMappingHash:Bool)(cSpares cInterval cTrack cLimitsAge cLimitsHits:Int)(hR:rngC cGeometryRows)(w:World):Calls Tryz.prog 99 #[.agg #[.int .i64 cGeometryGroups,.int .i64 cGeometryBanks,.int .i64 cGeometryRows,.int .i64 cGeometryCols,.int .i64 cTimingRCD,.int .i64 cTimingRP,.int .i64 cTimingRAS,.int .i64 cTimingRRDS,.int .i64 cTimingRRDL,.int .i64 cTimingFAW,.int .i64 cTimingCCDS,.int .i64 cTimingCCDL,.int .i64 cTimingRTP,.int .i64 cTimingWR,.int .i64 cTimingWTRS,.int .i64 cTimingWTRL,.int .i64 cTimingRTW,.int .i64 cTimingRFC,.int .i64 cTimingCKE,.int .i64 cTimingXP,.int .i64 cTimingXS,.int .i64 cMappingOrder,.bool cMappingHash,.int .i64 cSpares,.int .i64 cInterval,.int .i64 cTrack,.int .i64 cLimitsAge,.int .i64 cLimitsHits]] w fun e w'=>e=.returned (.bool (cfgB cGeometryGroups cGeometryBanks cGeometryRows cGeometryCols cTimingRCD cTimingRP cTimingRAS cTimingRRDS cTimingRRDL cTimingFAW cTimingCCDS cTimingCCDL cTimingRTP cTimingWR cTimingWTRS cTimingWTRL cTimingRTW cTimingRFC cTimingCKE cTimingXP cTimingXS cMappingOrder cSpares cInterval cTrack cLimitsAge cLimitsHits cMappingHash))∧Below w.heap.size w w':=by
 refine fnB (tb:=[(37,sSpNew),(102,sGeo),(132,sTimingOk),(133,sMap),(106,sBtw),(134,sNeed)]) ⟨sSpNew_I,sGeo_I,(sTimingOk_ok Tryz.call132 timingI_any),sMap_I,sBtwI_ok,(sNeed_ok Tryz.call134 needI_any),trivial⟩ Tryz.func99 (@Eq.mpr _ _ (confI_T cGeometryGroups cGeometryBanks cGeometryRows cGeometryCols cTimingRCD cTimingRP cTimingRAS cTimingRRDS cTimingRRDL cTimingFAW cTimingCCDS cTimingCCDL cTimingRTP cTimingWR cTimingWTRS cTimingWTRL cTimingRTW cTimingRFC cTimingCKE cTimingXP cTimingXS cMappingOrder cMappingHash cSpares cInterval cTrack cLimitsAge cLimitsHits) ?_) (HS.start w (fun _=>False)) (fun v ch' w' hk hs=>⟨by rw [hk],hs.below⟩)
 dsimp -zeta -proj -iota -eta -failIfUnchanged (etaStruct:=.none) only
 cases hs:spOk cGeometryGroups cGeometryBanks cGeometryRows cGeometryCols cSpares
 ·have hok:cfgB cGeometryGroups cGeometryBanks cGeometryRows cGeometryCols cTimingRCD cTimingRP cTimingRAS cTimingRRDS cTimingRRDL cTimingFAW cTimingCCDS cTimingCCDL cTimingRTP cTimingWR cTimingWTRS cTimingWTRL cTimingRTW cTimingRFC cTimingCKE cTimingXP cTimingXS cMappingOrder cSpares cInterval cTrack cLimitsAge cLimitsHits cMappingHash=false:=by simp [cfgB,hs]
  repeat' (first
   | with_reducible exact rfl
   | exact True.intro
   | with_reducible assumption
   | refine And.intro ?_ ?_
   | apply Exists.intro
   | (intro h;exfalso;simp [hs] at h;done)
   | (intro h;exfalso;simp [hs] at h;omega)
   | intro _
   | omega
   | (simp;omega))
  all_goals (simp_all;done)
 ·have hgeo:geoB cGeometryGroups cGeometryBanks cGeometryRows cGeometryCols=true:=by simp only [spOk,Bool.and_eq_true] at hs;exact hs.1.1
  cases ht:timB cTimingRCD cTimingRP cTimingRAS cTimingRRDS cTimingRRDL cTimingFAW cTimingCCDS cTimingCCDL cTimingRTP cTimingWR cTimingWTRS cTimingWTRL cTimingRTW cTimingRFC cTimingCKE cTimingXP cTimingXS
  ·have hok:cfgB cGeometryGroups cGeometryBanks cGeometryRows cGeometryCols cTimingRCD cTimingRP cTimingRAS cTimingRRDS cTimingRRDL cTimingFAW cTimingCCDS cTimingCCDL cTimingRTP cTimingWR cTimingWTRS cTimingWTRL cTimingRTW cTimingRFC cTimingCKE cTimingXP cTimingXS cMappingOrder cSpares cInterval cTrack cLimitsAge cLimitsHits cMappingHash=false:=by simp [cfgB,ht]
   repeat' (first
    | with_reducible exact rfl
    | exact True.intro
    | with_reducible assumption
    | refine And.intro ?_ ?_
    | apply Exists.intro
    | (intro h;exfalso;simp [hs,hgeo,ht] at h;done)
    | (intro h;exfalso;simp [hs,hgeo,ht] at h;omega)
    | intro _
    | omega
    | (simp;omega))
   all_goals (simp_all;done)
  ·have hnn:0≤needI cTimingRCD cTimingRP cTimingRAS cTimingRRDS cTimingRRDL cTimingFAW cTimingCCDS cTimingCCDL cTimingRTP cTimingWR cTimingWTRS cTimingWTRL cTimingRTW cTimingRFC cTimingCKE cTimingXP cTimingXS:=need_nonneg
   cases hi:btw cInterval (needI cTimingRCD cTimingRP cTimingRAS cTimingRRDS cTimingRRDL cTimingFAW cTimingCCDS cTimingCCDL cTimingRTP cTimingWR cTimingWTRS cTimingWTRL cTimingRTW cTimingRFC cTimingCKE cTimingXP cTimingXS) 10000
   ·have hok:cfgB cGeometryGroups cGeometryBanks cGeometryRows cGeometryCols cTimingRCD cTimingRP cTimingRAS cTimingRRDS cTimingRRDL cTimingFAW cTimingCCDS cTimingCCDL cTimingRTP cTimingWR cTimingWTRS cTimingWTRL cTimingRTW cTimingRFC cTimingCKE cTimingXP cTimingXS cMappingOrder cSpares cInterval cTrack cLimitsAge cLimitsHits cMappingHash=false:=by simp [cfgB,hi]
    repeat' (first
     | with_reducible exact rfl
     | exact True.intro
     | with_reducible assumption
     | refine And.intro ?_ ?_
     | apply Exists.intro
     | (intro h;exfalso;simp [hs,hgeo,ht,hi] at h;done)
     | (intro h;exfalso;simp [hs,hgeo,ht,hi] at h;omega)
     | intro _
     | omega
     | (simp;omega))
    all_goals (simp_all;done)
   ·have hif:=btw_facts' hi
    repeat' (first
     | with_reducible exact rfl
     | exact True.intro
     | with_reducible assumption
     | refine And.intro ?_ ?_
     | apply Exists.intro
     | (intro h;exfalso;simp [hs,hgeo,ht,hi] at h;done)
     | (intro h;exfalso;simp [hs,hgeo,ht,hi] at h;omega)
     | intro _
     | omega
     | (simp;omega))
    all_goals first
     | (simp_all [cfgB];done)
     | (simp_all [cfgB,hgeo,hs,ht,hi];done)
theorem confS_T (cGeometryGroups cGeometryBanks cGeometryRows cGeometryCols cTimingRCD cTimingRP cTimingRAS cTimingRRDS cTimingRRDL cTimingFAW cTimingCCDS cTimingCCDL cTimingRTP cTimingWR cTimingWTRS cTimingWTRL cTimingRTW cTimingRFC cTimingCKE cTimingXP cTimingXS cMappingOrder:Int)(cMappingHash:Bool)(cSpares cInterval cTrack cLimitsAge cLimitsHits:Int):(exFn Tryz.prog {tb:=[(21,sSpNew),(93,sGeo),(127,sTimingOk),(128,sMap),(97,sBtw),(129,sNeed)]} 400 Tryz.f90 ([.a (.agg [.int cGeometryGroups,.int cGeometryBanks,.int cGeometryRows,.int cGeometryCols,.int cTimingRCD,.int cTimingRP,.int cTimingRAS,.int cTimingRRDS,.int cTimingRRDL,.int cTimingFAW,.int cTimingCCDS,.int cTimingCCDL,.int cTimingRTP,.int cTimingWR,.int cTimingWTRS,.int cTimingWTRL,.int cTimingRTW,.int cTimingRFC,.int cTimingCKE,.int cTimingXP,.int cTimingXS,.int cMappingOrder,.bool cMappingHash,.int cSpares,.int cInterval,.int cTrack,.int cLimitsAge,.int cLimitsHits])]) ([]) (fun v _=>v.den=.bool (cfgB cGeometryGroups cGeometryBanks cGeometryRows cGeometryCols cTimingRCD cTimingRP cTimingRAS cTimingRRDS cTimingRRDL cTimingFAW cTimingCCDS cTimingCCDL cTimingRTP cTimingWR cTimingWTRS cTimingWTRL cTimingRTW cTimingRFC cTimingCKE cTimingXP cTimingXS cMappingOrder cSpares cInterval cTrack cLimitsAge cLimitsHits cMappingHash)))=(
 (fun b:Value=>(fun c:Bool=>(fun d:Bool=>(fun g:Bool=>(fun h:Bool=>(fun j:Bool=>(fun k:Bool=>(fun l:Value=>∀ m:Nat,m=m∧m=m∧rngC cGeometryRows∧∀(n:Option Addr) (o p:Nat),p=p∧(h=false→m=m∧True∧(j=false→m=m∧True∧(d=false→m=m∧m=m∧True∧True∧(k=true→b=l)∧(k=false→m=m∧(c=true→m=m∧m=m∧rng ((6:Int)*cInterval)∧(g=true→m=m∧(Wb (btw cLimitsHits (0:Int) (100000:Int)))=l)∧(g=false→b=l))∧(c=false→b=l)))∧(d=true→b=l))∧(j=true→b=l))∧(h=true→b=l)) (Wb (cfgB cGeometryGroups cGeometryBanks cGeometryRows cGeometryCols cTimingRCD cTimingRP cTimingRAS cTimingRRDS cTimingRRDL cTimingFAW cTimingCCDS cTimingCCDL cTimingRTP cTimingWR cTimingWTRS cTimingWTRL cTimingRTW cTimingRFC cTimingCKE cTimingXP cTimingXS cMappingOrder cSpares cInterval cTrack cLimitsAge cLimitsHits cMappingHash))) (! (btw cInterval (needI cTimingRCD cTimingRP cTimingRAS cTimingRRDS cTimingRRDL cTimingFAW cTimingCCDS cTimingCCDL cTimingRTP cTimingWR cTimingWTRS cTimingWTRL cTimingRTW cTimingRFC cTimingCKE cTimingXP cTimingXS) (10000:Int)))) (! (timB cTimingRCD cTimingRP cTimingRAS cTimingRRDS cTimingRRDL cTimingFAW cTimingCCDS cTimingCCDL cTimingRTP cTimingWR cTimingWTRS cTimingWTRL cTimingRTW cTimingRFC cTimingCKE cTimingXP cTimingXS))) (! (spOk cGeometryGroups cGeometryBanks cGeometryRows cGeometryCols cSpares))) (btw cLimitsAge ((6:Int)*cInterval) (100000:Int))) (! (btw cMappingOrder (0:Int) (2:Int)))) (btw cTrack (1:Int) (16:Int))) (Wb false)):=by kernel_rfl
theorem confS_any (cGeometryGroups cGeometryBanks cGeometryRows cGeometryCols cTimingRCD cTimingRP cTimingRAS cTimingRRDS cTimingRRDL cTimingFAW cTimingCCDS cTimingCCDL cTimingRTP cTimingWR cTimingWTRS cTimingWTRL cTimingRTW cTimingRFC cTimingCKE cTimingXP cTimingXS cMappingOrder:Int)(cMappingHash:Bool)(cSpares cInterval cTrack cLimitsAge cLimitsHits:Int)(hR:rngC cGeometryRows)(w:World):Calls Tryz.prog 90 #[.agg #[.int .i64 cGeometryGroups,.int .i64 cGeometryBanks,.int .i64 cGeometryRows,.int .i64 cGeometryCols,.int .i64 cTimingRCD,.int .i64 cTimingRP,.int .i64 cTimingRAS,.int .i64 cTimingRRDS,.int .i64 cTimingRRDL,.int .i64 cTimingFAW,.int .i64 cTimingCCDS,.int .i64 cTimingCCDL,.int .i64 cTimingRTP,.int .i64 cTimingWR,.int .i64 cTimingWTRS,.int .i64 cTimingWTRL,.int .i64 cTimingRTW,.int .i64 cTimingRFC,.int .i64 cTimingCKE,.int .i64 cTimingXP,.int .i64 cTimingXS,.int .i64 cMappingOrder,.bool cMappingHash,.int .i64 cSpares,.int .i64 cInterval,.int .i64 cTrack,.int .i64 cLimitsAge,.int .i64 cLimitsHits]] w fun e w'=>e=.returned (.bool (cfgB cGeometryGroups cGeometryBanks cGeometryRows cGeometryCols cTimingRCD cTimingRP cTimingRAS cTimingRRDS cTimingRRDL cTimingFAW cTimingCCDS cTimingCCDL cTimingRTP cTimingWR cTimingWTRS cTimingWTRL cTimingRTW cTimingRFC cTimingCKE cTimingXP cTimingXS cMappingOrder cSpares cInterval cTrack cLimitsAge cLimitsHits cMappingHash))∧Below w.heap.size w w':=by
 refine fnB (tb:=[(21,sSpNew),(93,sGeo),(127,sTimingOk),(128,sMap),(97,sBtw),(129,sNeed)]) ⟨sSpNew_S,sGeo_S,(sTimingOk_ok Tryz.call127 timingS_any),sMap_S,sBtwS_ok,(sNeed_ok Tryz.call129 needS_any),trivial⟩ Tryz.func90 (@Eq.mpr _ _ (confS_T cGeometryGroups cGeometryBanks cGeometryRows cGeometryCols cTimingRCD cTimingRP cTimingRAS cTimingRRDS cTimingRRDL cTimingFAW cTimingCCDS cTimingCCDL cTimingRTP cTimingWR cTimingWTRS cTimingWTRL cTimingRTW cTimingRFC cTimingCKE cTimingXP cTimingXS cMappingOrder cMappingHash cSpares cInterval cTrack cLimitsAge cLimitsHits) ?_) (HS.start w (fun _=>False)) (fun v ch' w' hk hs=>⟨by rw [hk],hs.below⟩)
 dsimp -zeta -proj -iota -eta -failIfUnchanged (etaStruct:=.none) only
 cases hs:spOk cGeometryGroups cGeometryBanks cGeometryRows cGeometryCols cSpares
 ·have hok:cfgB cGeometryGroups cGeometryBanks cGeometryRows cGeometryCols cTimingRCD cTimingRP cTimingRAS cTimingRRDS cTimingRRDL cTimingFAW cTimingCCDS cTimingCCDL cTimingRTP cTimingWR cTimingWTRS cTimingWTRL cTimingRTW cTimingRFC cTimingCKE cTimingXP cTimingXS cMappingOrder cSpares cInterval cTrack cLimitsAge cLimitsHits cMappingHash=false:=by simp [cfgB,hs]
  repeat' (first
   | with_reducible exact rfl
   | exact True.intro
   | with_reducible assumption
   | refine And.intro ?_ ?_
   | apply Exists.intro
   | (intro h;exfalso;simp [hs] at h;done)
   | (intro h;exfalso;simp [hs] at h;omega)
   | intro _
   | omega
   | (simp;omega))
  all_goals (simp_all;done)
 ·have hgeo:geoB cGeometryGroups cGeometryBanks cGeometryRows cGeometryCols=true:=by simp only [spOk,Bool.and_eq_true] at hs;exact hs.1.1
  cases ht:timB cTimingRCD cTimingRP cTimingRAS cTimingRRDS cTimingRRDL cTimingFAW cTimingCCDS cTimingCCDL cTimingRTP cTimingWR cTimingWTRS cTimingWTRL cTimingRTW cTimingRFC cTimingCKE cTimingXP cTimingXS
  ·have hok:cfgB cGeometryGroups cGeometryBanks cGeometryRows cGeometryCols cTimingRCD cTimingRP cTimingRAS cTimingRRDS cTimingRRDL cTimingFAW cTimingCCDS cTimingCCDL cTimingRTP cTimingWR cTimingWTRS cTimingWTRL cTimingRTW cTimingRFC cTimingCKE cTimingXP cTimingXS cMappingOrder cSpares cInterval cTrack cLimitsAge cLimitsHits cMappingHash=false:=by simp [cfgB,ht]
   repeat' (first
    | with_reducible exact rfl
    | exact True.intro
    | with_reducible assumption
    | refine And.intro ?_ ?_
    | apply Exists.intro
    | (intro h;exfalso;simp [hs,hgeo,ht] at h;done)
    | (intro h;exfalso;simp [hs,hgeo,ht] at h;omega)
    | intro _
    | omega
    | (simp;omega))
   all_goals (simp_all;done)
  ·have hnn:0≤needI cTimingRCD cTimingRP cTimingRAS cTimingRRDS cTimingRRDL cTimingFAW cTimingCCDS cTimingCCDL cTimingRTP cTimingWR cTimingWTRS cTimingWTRL cTimingRTW cTimingRFC cTimingCKE cTimingXP cTimingXS:=need_nonneg
   cases hi:btw cInterval (needI cTimingRCD cTimingRP cTimingRAS cTimingRRDS cTimingRRDL cTimingFAW cTimingCCDS cTimingCCDL cTimingRTP cTimingWR cTimingWTRS cTimingWTRL cTimingRTW cTimingRFC cTimingCKE cTimingXP cTimingXS) 10000
   ·have hok:cfgB cGeometryGroups cGeometryBanks cGeometryRows cGeometryCols cTimingRCD cTimingRP cTimingRAS cTimingRRDS cTimingRRDL cTimingFAW cTimingCCDS cTimingCCDL cTimingRTP cTimingWR cTimingWTRS cTimingWTRL cTimingRTW cTimingRFC cTimingCKE cTimingXP cTimingXS cMappingOrder cSpares cInterval cTrack cLimitsAge cLimitsHits cMappingHash=false:=by simp [cfgB,hi]
    repeat' (first
     | with_reducible exact rfl
     | exact True.intro
     | with_reducible assumption
     | refine And.intro ?_ ?_
     | apply Exists.intro
     | (intro h;exfalso;simp [hs,hgeo,ht,hi] at h;done)
     | (intro h;exfalso;simp [hs,hgeo,ht,hi] at h;omega)
     | intro _
     | omega
     | (simp;omega))
    all_goals (simp_all;done)
   ·have hif:=btw_facts' hi
    repeat' (first
     | with_reducible exact rfl
     | exact True.intro
     | with_reducible assumption
     | refine And.intro ?_ ?_
     | apply Exists.intro
     | (intro h;exfalso;simp [hs,hgeo,ht,hi] at h;done)
     | (intro h;exfalso;simp [hs,hgeo,ht,hi] at h;omega)
     | intro _
     | omega
     | (simp;omega))
    all_goals first
     | (simp_all [cfgB];done)
     | (simp_all [cfgB,hgeo,hs,ht,hi];done)
def sConf:Sm:=fun args ch k =>
 match args with
 | [.a (.agg [c0,c1,c2,c3,c4,c5,c6,c7,c8,c9,c10,c11,c12,c13,c14,c15,c16,c17,c18,c19,c20,c21,c22,c23,c24,c25,c26,c27])] =>
  match ints [c0,c1,c2,c3,c4,c5,c6,c7,c8,c9,c10,c11,c12,c13,c14,c15,c16,c17,c18,c19,c20,c21,c23,c24,c25,c26,c27],bools [c22] with
  | some [cGeometryGroups,cGeometryBanks,cGeometryRows,cGeometryCols,cTimingRCD,cTimingRP,cTimingRAS,cTimingRRDS,cTimingRRDL,cTimingFAW,cTimingCCDS,cTimingCCDL,cTimingRTP,cTimingWR,cTimingWTRS,cTimingWTRL,cTimingRTW,cTimingRFC,cTimingCKE,cTimingXP,cTimingXS,cMappingOrder,cSpares,cInterval,cTrack,cLimitsAge,cLimitsHits],some [cMappingHash]=>rngC cGeometryRows∧k (.a (.c (.bool (cfgB cGeometryGroups cGeometryBanks cGeometryRows cGeometryCols cTimingRCD cTimingRP cTimingRAS cTimingRRDS cTimingRRDL cTimingFAW cTimingCCDS cTimingCCDL cTimingRTP cTimingWR cTimingWTRS cTimingWTRL cTimingRTW cTimingRFC cTimingCKE cTimingXP cTimingXS cMappingOrder cSpares cInterval cTrack cLimitsAge cLimitsHits cMappingHash)))) ch []
  | _,_=>False
 | _=>False
theorem sConf_ok {f:FuncId}(hc:∀ args w,(callFunc f args).run Tryz.prog w=.ok (.enter f args) w)(h:∀ (cGeometryGroups cGeometryBanks cGeometryRows cGeometryCols cTimingRCD cTimingRP cTimingRAS cTimingRRDS cTimingRRDL cTimingFAW cTimingCCDS cTimingCCDL cTimingRTP cTimingWR cTimingWTRS cTimingWTRL cTimingRTW cTimingRFC cTimingCKE cTimingXP cTimingXS cMappingOrder:Int) (cMappingHash:Bool) (cSpares cInterval cTrack cLimitsAge cLimitsHits:Int) (w:World),rngC cGeometryRows→Calls Tryz.prog f #[.agg #[.int .i64 cGeometryGroups,.int .i64 cGeometryBanks,.int .i64 cGeometryRows,.int .i64 cGeometryCols,.int .i64 cTimingRCD,.int .i64 cTimingRP,.int .i64 cTimingRAS,.int .i64 cTimingRRDS,.int .i64 cTimingRRDL,.int .i64 cTimingFAW,.int .i64 cTimingCCDS,.int .i64 cTimingCCDL,.int .i64 cTimingRTP,.int .i64 cTimingWR,.int .i64 cTimingWTRS,.int .i64 cTimingWTRL,.int .i64 cTimingRTW,.int .i64 cTimingRFC,.int .i64 cTimingCKE,.int .i64 cTimingXP,.int .i64 cTimingXS,.int .i64 cMappingOrder,.bool cMappingHash,.int .i64 cSpares,.int .i64 cInterval,.int .i64 cTrack,.int .i64 cLimitsAge,.int .i64 cLimitsHits]] w fun e w'=>e=.returned (.bool (cfgB cGeometryGroups cGeometryBanks cGeometryRows cGeometryCols cTimingRCD cTimingRP cTimingRAS cTimingRRDS cTimingRRDL cTimingFAW cTimingCCDS cTimingCCDL cTimingRTP cTimingWR cTimingWTRS cTimingWTRL cTimingRTW cTimingRFC cTimingCKE cTimingXP cTimingXS cMappingOrder cSpares cInterval cTrack cLimitsAge cLimitsHits cMappingHash))∧Below w.heap.size w w'):SmOK Tryz.prog f sConf:=by
 refine smB hc fun args ch k w X h0 hs=>?_
 unfold sConf at h0
 split at h0
 ·split at h0
  ·rename_i cGeometryGroups cGeometryBanks cGeometryRows cGeometryCols cTimingRCD cTimingRP cTimingRAS cTimingRRDS cTimingRRDL cTimingFAW cTimingCCDS cTimingCCDL cTimingRTP cTimingWR cTimingWTRS cTimingWTRL cTimingRTW cTimingRFC cTimingCKE cTimingXP cTimingXS cMappingOrder cSpares cInterval cTrack cLimitsAge cLimitsHits cMappingHash hi hb
   obtain ⟨e0,hi1⟩:=ints_cons hi
   obtain ⟨e1,hi2⟩:=ints_cons hi1
   obtain ⟨e2,hi3⟩:=ints_cons hi2
   obtain ⟨e3,hi4⟩:=ints_cons hi3
   obtain ⟨e4,hi5⟩:=ints_cons hi4
   obtain ⟨e5,hi6⟩:=ints_cons hi5
   obtain ⟨e6,hi7⟩:=ints_cons hi6
   obtain ⟨e7,hi8⟩:=ints_cons hi7
   obtain ⟨e8,hi9⟩:=ints_cons hi8
   obtain ⟨e9,hi10⟩:=ints_cons hi9
   obtain ⟨e10,hi11⟩:=ints_cons hi10
   obtain ⟨e11,hi12⟩:=ints_cons hi11
   obtain ⟨e12,hi13⟩:=ints_cons hi12
   obtain ⟨e13,hi14⟩:=ints_cons hi13
   obtain ⟨e14,hi15⟩:=ints_cons hi14
   obtain ⟨e15,hi16⟩:=ints_cons hi15
   obtain ⟨e16,hi17⟩:=ints_cons hi16
   obtain ⟨e17,hi18⟩:=ints_cons hi17
   obtain ⟨e18,hi19⟩:=ints_cons hi18
   obtain ⟨e19,hi20⟩:=ints_cons hi19
   obtain ⟨e20,hi21⟩:=ints_cons hi20
   obtain ⟨e21,hi22⟩:=ints_cons hi21
   obtain ⟨e23,hi23⟩:=ints_cons hi22
   obtain ⟨e24,hi24⟩:=ints_cons hi23
   obtain ⟨e25,hi25⟩:=ints_cons hi24
   obtain ⟨e26,hi26⟩:=ints_cons hi25
   obtain ⟨e27,hi27⟩:=ints_cons hi26
   obtain ⟨e22,hb1⟩:=bools_cons hb
   obtain ⟨hpre,h0⟩:=h0
   refine ⟨_,h0,?_⟩
   simp only [List.map_cons,List.map_nil,den_a,den_c,SA.den,e0,e1,e2,e3,e4,e5,e6,e7,e8,e9,e10,e11,e12,e13,e14,e15,e16,e17,e18,e19,e20,e21,e22,e23,e24,e25,e26,e27]
   exact h cGeometryGroups cGeometryBanks cGeometryRows cGeometryCols cTimingRCD cTimingRP cTimingRAS cTimingRRDS cTimingRRDL cTimingFAW cTimingCCDS cTimingCCDL cTimingRTP cTimingWR cTimingWTRS cTimingWTRL cTimingRTW cTimingRFC cTimingCKE cTimingXP cTimingXS cMappingOrder cMappingHash cSpares cInterval cTrack cLimitsAge cLimitsHits w hpre
  ·exact h0.elim
 ·exact h0.elim
theorem sConf_I:SmOK Tryz.prog 99 sConf:=sConf_ok Tryz.call99 (fun cGeometryGroups cGeometryBanks cGeometryRows cGeometryCols cTimingRCD cTimingRP cTimingRAS cTimingRRDS cTimingRRDL cTimingFAW cTimingCCDS cTimingCCDL cTimingRTP cTimingWR cTimingWTRS cTimingWTRL cTimingRTW cTimingRFC cTimingCKE cTimingXP cTimingXS cMappingOrder cMappingHash cSpares cInterval cTrack cLimitsAge cLimitsHits w hp=>confI_any cGeometryGroups cGeometryBanks cGeometryRows cGeometryCols cTimingRCD cTimingRP cTimingRAS cTimingRRDS cTimingRRDL cTimingFAW cTimingCCDS cTimingCCDL cTimingRTP cTimingWR cTimingWTRS cTimingWTRL cTimingRTW cTimingRFC cTimingCKE cTimingXP cTimingXS cMappingOrder cMappingHash cSpares cInterval cTrack cLimitsAge cLimitsHits hp w)
theorem sConf_S:SmOK Tryz.prog 90 sConf:=sConf_ok Tryz.call90 (fun cGeometryGroups cGeometryBanks cGeometryRows cGeometryCols cTimingRCD cTimingRP cTimingRAS cTimingRRDS cTimingRRDL cTimingFAW cTimingCCDS cTimingCCDL cTimingRTP cTimingWR cTimingWTRS cTimingWTRL cTimingRTW cTimingRFC cTimingCKE cTimingXP cTimingXS cMappingOrder cMappingHash cSpares cInterval cTrack cLimitsAge cLimitsHits w hp=>confS_any cGeometryGroups cGeometryBanks cGeometryRows cGeometryCols cTimingRCD cTimingRP cTimingRAS cTimingRRDS cTimingRRDL cTimingFAW cTimingCCDS cTimingCCDL cTimingRTP cTimingWR cTimingWTRS cTimingWTRL cTimingRTW cTimingRFC cTimingCKE cTimingXP cTimingXS cMappingOrder cMappingHash cSpares cInterval cTrack cLimitsAge cLimitsHits hp w)
theorem toGeometry_T (gGroups gBanks gRows gCols:Int):(exFn Tryz.prog {tb:=[]} 400 Tryz.f26 ([.a (.agg [.int gGroups,.int gBanks,.int gRows,.int gCols])]) ([]) (fun v _=>v.den=.agg #[.int .i64 (gGroups),.int .i64 (gBanks),.int .i64 (gRows),.int .i64 (gCols)]))=(
 ∀ b c d:Nat,b=b∧d=d∧b=b∧d=d∧b=b∧d=d∧b=b∧d=d∧d=d∧c=c∧c=c∧(Wa [Wi gGroups,Wi gBanks,Wi gRows,Wi gCols])=(Wa [Wi gGroups,Wi gBanks,Wi gRows,Wi gCols])):=by kernel_rfl
theorem toGeometry_any (gGroups gBanks gRows gCols:Int)(w:World):Calls Tryz.prog 26 #[.agg #[.int .i64 gGroups,.int .i64 gBanks,.int .i64 gRows,.int .i64 gCols]] w fun e w'=>e=.returned (.agg #[.int .i64 (gGroups),.int .i64 (gBanks),.int .i64 (gRows),.int .i64 (gCols)])∧Below w.heap.size w w':=by
 refine fnB (tb:=[]) trivial Tryz.func26 (@Eq.mpr _ _ (toGeometry_T gGroups gBanks gRows gCols) ?_) (HS.start w (fun _=>False)) (fun v ch' w' hk hs=>⟨by rw [hk],hs.below⟩)
 intros
 simp
def sToGeometry:Sm:=fun args ch k =>
 match args with
 | [.a (.agg [c0,c1,c2,c3])] =>
  match ints [c0,c1,c2,c3],bools [] with
  | some [gGroups,gBanks,gRows,gCols],some []=>k (.a (.agg [.int (gGroups),.int (gBanks),.int (gRows),.int (gCols)])) ch []
  | _,_=>False
 | _=>False
theorem sToGeometry_ok {f:FuncId}(hc:∀ args w,(callFunc f args).run Tryz.prog w=.ok (.enter f args) w)(h:∀ (gGroups gBanks gRows gCols:Int) (w:World),Calls Tryz.prog f #[.agg #[.int .i64 gGroups,.int .i64 gBanks,.int .i64 gRows,.int .i64 gCols]] w fun e w'=>e=.returned (.agg #[.int .i64 (gGroups),.int .i64 (gBanks),.int .i64 (gRows),.int .i64 (gCols)])∧Below w.heap.size w w'):SmOK Tryz.prog f sToGeometry:=by
 refine smB hc fun args ch k w X h0 hs=>?_
 unfold sToGeometry at h0
 split at h0
 ·split at h0
  ·rename_i gGroups gBanks gRows gCols hi hb
   obtain ⟨e0,hi1⟩:=ints_cons hi
   obtain ⟨e1,hi2⟩:=ints_cons hi1
   obtain ⟨e2,hi3⟩:=ints_cons hi2
   obtain ⟨e3,hi4⟩:=ints_cons hi3
   refine ⟨_,h0,?_⟩
   simp only [List.map_cons,List.map_nil,den_a,den_c,SA.den,e0,e1,e2,e3]
   exact h gGroups gBanks gRows gCols w
  ·exact h0.elim
 ·exact h0.elim
theorem toMapping_T (mOrder:Int)(mHash:Bool):(exFn Tryz.prog {tb:=[]} 400 Tryz.f28 ([.a (.agg [.int mOrder,.bool mHash])]) ([]) (fun v _=>v.den=.agg #[.int .i64 (mOrder),.bool (mHash)]))=(
 ∀ b c d:Nat,b=b∧d=d∧b=b∧d=d∧d=d∧c=c∧c=c∧(Wa [Wi mOrder,Wb mHash])=(Wa [Wi mOrder,Wb mHash])):=by kernel_rfl
theorem toMapping_any (mOrder:Int)(mHash:Bool)(w:World):Calls Tryz.prog 28 #[.agg #[.int .i64 mOrder,.bool mHash]] w fun e w'=>e=.returned (.agg #[.int .i64 (mOrder),.bool (mHash)])∧Below w.heap.size w w':=by
 refine fnB (tb:=[]) trivial Tryz.func28 (@Eq.mpr _ _ (toMapping_T mOrder mHash) ?_) (HS.start w (fun _=>False)) (fun v ch' w' hk hs=>⟨by rw [hk],hs.below⟩)
 intros
 simp
def sToMapping:Sm:=fun args ch k =>
 match args with
 | [.a (.agg [c0,c1])] =>
  match ints [c0],bools [c1] with
  | some [mOrder],some [mHash]=>k (.a (.agg [.int (mOrder),.bool (mHash)])) ch []
  | _,_=>False
 | _=>False
theorem sToMapping_ok {f:FuncId}(hc:∀ args w,(callFunc f args).run Tryz.prog w=.ok (.enter f args) w)(h:∀ (mOrder:Int) (mHash:Bool) (w:World),Calls Tryz.prog f #[.agg #[.int .i64 mOrder,.bool mHash]] w fun e w'=>e=.returned (.agg #[.int .i64 (mOrder),.bool (mHash)])∧Below w.heap.size w w'):SmOK Tryz.prog f sToMapping:=by
 refine smB hc fun args ch k w X h0 hs=>?_
 unfold sToMapping at h0
 split at h0
 ·split at h0
  ·rename_i mOrder mHash hi hb
   obtain ⟨e0,hi1⟩:=ints_cons hi
   obtain ⟨e1,hb1⟩:=bools_cons hb
   refine ⟨_,h0,?_⟩
   simp only [List.map_cons,List.map_nil,den_a,den_c,SA.den,e0,e1]
   exact h mOrder mHash w
  ·exact h0.elim
 ·exact h0.elim
theorem toLimits_T (lAge lHits:Int):(exFn Tryz.prog {tb:=[]} 400 Tryz.f29 ([.a (.agg [.int lAge,.int lHits])]) ([]) (fun v _=>v.den=.agg #[.int .i64 (lAge),.int .i64 (lHits)]))=(
 ∀ b c d:Nat,b=b∧d=d∧b=b∧d=d∧d=d∧c=c∧c=c∧(Wa [Wi lAge,Wi lHits])=(Wa [Wi lAge,Wi lHits])):=by kernel_rfl
theorem toLimits_any (lAge lHits:Int)(w:World):Calls Tryz.prog 29 #[.agg #[.int .i64 lAge,.int .i64 lHits]] w fun e w'=>e=.returned (.agg #[.int .i64 (lAge),.int .i64 (lHits)])∧Below w.heap.size w w':=by
 refine fnB (tb:=[]) trivial Tryz.func29 (@Eq.mpr _ _ (toLimits_T lAge lHits) ?_) (HS.start w (fun _=>False)) (fun v ch' w' hk hs=>⟨by rw [hk],hs.below⟩)
 intros
 simp
def sToLimits:Sm:=fun args ch k =>
 match args with
 | [.a (.agg [c0,c1])] =>
  match ints [c0,c1],bools [] with
  | some [lAge,lHits],some []=>k (.a (.agg [.int (lAge),.int (lHits)])) ch []
  | _,_=>False
 | _=>False
theorem sToLimits_ok {f:FuncId}(hc:∀ args w,(callFunc f args).run Tryz.prog w=.ok (.enter f args) w)(h:∀ (lAge lHits:Int) (w:World),Calls Tryz.prog f #[.agg #[.int .i64 lAge,.int .i64 lHits]] w fun e w'=>e=.returned (.agg #[.int .i64 (lAge),.int .i64 (lHits)])∧Below w.heap.size w w'):SmOK Tryz.prog f sToLimits:=by
 refine smB hc fun args ch k w X h0 hs=>?_
 unfold sToLimits at h0
 split at h0
 ·split at h0
  ·rename_i lAge lHits hi hb
   obtain ⟨e0,hi1⟩:=ints_cons hi
   obtain ⟨e1,hi2⟩:=ints_cons hi1
   refine ⟨_,h0,?_⟩
   simp only [List.map_cons,List.map_nil,den_a,den_c,SA.den,e0,e1]
   exact h lAge lHits w
  ·exact h0.elim
 ·exact h0.elim
theorem toConfig_T (cGeometryGroups cGeometryBanks cGeometryRows cGeometryCols cTimingRCD cTimingRP cTimingRAS cTimingRRDS cTimingRRDL cTimingFAW cTimingCCDS cTimingCCDL cTimingRTP cTimingWR cTimingWTRS cTimingWTRL cTimingRTW cTimingRFC cTimingCKE cTimingXP cTimingXS cMappingOrder:Int)(cMappingHash:Bool)(cSpares cInterval cTrack cLimitsAge cLimitsHits:Int):(exFn Tryz.prog {tb:=[(26,sToGeometry),(27,sToTiming),(28,sToMapping),(29,sToLimits)]} 400 Tryz.f6 ([.a (.agg [.int cGeometryGroups,.int cGeometryBanks,.int cGeometryRows,.int cGeometryCols,.int cTimingRCD,.int cTimingRP,.int cTimingRAS,.int cTimingRRDS,.int cTimingRRDL,.int cTimingFAW,.int cTimingCCDS,.int cTimingCCDL,.int cTimingRTP,.int cTimingWR,.int cTimingWTRS,.int cTimingWTRL,.int cTimingRTW,.int cTimingRFC,.int cTimingCKE,.int cTimingXP,.int cTimingXS,.int cMappingOrder,.bool cMappingHash,.int cSpares,.int cInterval,.int cTrack,.int cLimitsAge,.int cLimitsHits])]) ([]) (fun v _=>v.den=.agg #[.int .i64 (cGeometryGroups),.int .i64 (cGeometryBanks),.int .i64 (cGeometryRows),.int .i64 (cGeometryCols),.int .i64 (cTimingRCD),.int .i64 (cTimingRP),.int .i64 (cTimingRAS),.int .i64 (cTimingRRDS),.int .i64 (cTimingRRDL),.int .i64 (cTimingFAW),.int .i64 (cTimingCCDS),.int .i64 (cTimingCCDL),.int .i64 (cTimingRTP),.int .i64 (cTimingWR),.int .i64 (cTimingWTRS),.int .i64 (cTimingWTRL),.int .i64 (cTimingRTW),.int .i64 (cTimingRFC),.int .i64 (cTimingCKE),.int .i64 (cTimingXP),.int .i64 (cTimingXS),.int .i64 (cMappingOrder),.bool (cMappingHash),.int .i64 (cSpares),.int .i64 (cInterval),.int .i64 (cTrack),.int .i64 (cLimitsAge),.int .i64 (cLimitsHits)]))=(
 ∀ b c d:Nat,b=b∧d=d∧b=b∧d=d∧b=b∧d=d∧b=b∧d=d∧b=b∧d=d∧b=b∧d=d∧b=b∧d=d∧d=d∧c=c∧c=c∧(Wa [Wi cGeometryGroups,Wi cGeometryBanks,Wi cGeometryRows,Wi cGeometryCols,Wi cTimingRCD,Wi cTimingRP,Wi cTimingRAS,Wi cTimingRRDS,Wi cTimingRRDL,Wi cTimingFAW,Wi cTimingCCDS,Wi cTimingCCDL,Wi cTimingRTP,Wi cTimingWR,Wi cTimingWTRS,Wi cTimingWTRL,Wi cTimingRTW,Wi cTimingRFC,Wi cTimingCKE,Wi cTimingXP,Wi cTimingXS,Wi cMappingOrder,Wb cMappingHash,Wi cSpares,Wi cInterval,Wi cTrack,Wi cLimitsAge,Wi cLimitsHits])=(Wa [Wi cGeometryGroups,Wi cGeometryBanks,Wi cGeometryRows,Wi cGeometryCols,Wi cTimingRCD,Wi cTimingRP,Wi cTimingRAS,Wi cTimingRRDS,Wi cTimingRRDL,Wi cTimingFAW,Wi cTimingCCDS,Wi cTimingCCDL,Wi cTimingRTP,Wi cTimingWR,Wi cTimingWTRS,Wi cTimingWTRL,Wi cTimingRTW,Wi cTimingRFC,Wi cTimingCKE,Wi cTimingXP,Wi cTimingXS,Wi cMappingOrder,Wb cMappingHash,Wi cSpares,Wi cInterval,Wi cTrack,Wi cLimitsAge,Wi cLimitsHits])):=by kernel_rfl
theorem toConfig_any (cGeometryGroups cGeometryBanks cGeometryRows cGeometryCols cTimingRCD cTimingRP cTimingRAS cTimingRRDS cTimingRRDL cTimingFAW cTimingCCDS cTimingCCDL cTimingRTP cTimingWR cTimingWTRS cTimingWTRL cTimingRTW cTimingRFC cTimingCKE cTimingXP cTimingXS cMappingOrder:Int)(cMappingHash:Bool)(cSpares cInterval cTrack cLimitsAge cLimitsHits:Int)(w:World):Calls Tryz.prog 6 #[.agg #[.int .i64 cGeometryGroups,.int .i64 cGeometryBanks,.int .i64 cGeometryRows,.int .i64 cGeometryCols,.int .i64 cTimingRCD,.int .i64 cTimingRP,.int .i64 cTimingRAS,.int .i64 cTimingRRDS,.int .i64 cTimingRRDL,.int .i64 cTimingFAW,.int .i64 cTimingCCDS,.int .i64 cTimingCCDL,.int .i64 cTimingRTP,.int .i64 cTimingWR,.int .i64 cTimingWTRS,.int .i64 cTimingWTRL,.int .i64 cTimingRTW,.int .i64 cTimingRFC,.int .i64 cTimingCKE,.int .i64 cTimingXP,.int .i64 cTimingXS,.int .i64 cMappingOrder,.bool cMappingHash,.int .i64 cSpares,.int .i64 cInterval,.int .i64 cTrack,.int .i64 cLimitsAge,.int .i64 cLimitsHits]] w fun e w'=>e=.returned (.agg #[.int .i64 (cGeometryGroups),.int .i64 (cGeometryBanks),.int .i64 (cGeometryRows),.int .i64 (cGeometryCols),.int .i64 (cTimingRCD),.int .i64 (cTimingRP),.int .i64 (cTimingRAS),.int .i64 (cTimingRRDS),.int .i64 (cTimingRRDL),.int .i64 (cTimingFAW),.int .i64 (cTimingCCDS),.int .i64 (cTimingCCDL),.int .i64 (cTimingRTP),.int .i64 (cTimingWR),.int .i64 (cTimingWTRS),.int .i64 (cTimingWTRL),.int .i64 (cTimingRTW),.int .i64 (cTimingRFC),.int .i64 (cTimingCKE),.int .i64 (cTimingXP),.int .i64 (cTimingXS),.int .i64 (cMappingOrder),.bool (cMappingHash),.int .i64 (cSpares),.int .i64 (cInterval),.int .i64 (cTrack),.int .i64 (cLimitsAge),.int .i64 (cLimitsHits)])∧Below w.heap.size w w':=by
 refine fnB (tb:=[(26,sToGeometry),(27,sToTiming),(28,sToMapping),(29,sToLimits)]) ⟨(sToGeometry_ok Tryz.call26 toGeometry_any),(sToTiming_ok Tryz.call27 toTiming_any),(sToMapping_ok Tryz.call28 toMapping_any),(sToLimits_ok Tryz.call29 toLimits_any),trivial⟩ Tryz.func6 (@Eq.mpr _ _ (toConfig_T cGeometryGroups cGeometryBanks cGeometryRows cGeometryCols cTimingRCD cTimingRP cTimingRAS cTimingRRDS cTimingRRDL cTimingFAW cTimingCCDS cTimingCCDL cTimingRTP cTimingWR cTimingWTRS cTimingWTRL cTimingRTW cTimingRFC cTimingCKE cTimingXP cTimingXS cMappingOrder cMappingHash cSpares cInterval cTrack cLimitsAge cLimitsHits) ?_) (HS.start w (fun _=>False)) (fun v ch' w' hk hs=>⟨by rw [hk],hs.below⟩)
 intros
 simp
def sToConfig:Sm:=fun args ch k =>
 match args with
 | [.a (.agg [c0,c1,c2,c3,c4,c5,c6,c7,c8,c9,c10,c11,c12,c13,c14,c15,c16,c17,c18,c19,c20,c21,c22,c23,c24,c25,c26,c27])] =>
  match ints [c0,c1,c2,c3,c4,c5,c6,c7,c8,c9,c10,c11,c12,c13,c14,c15,c16,c17,c18,c19,c20,c21,c23,c24,c25,c26,c27],bools [c22] with
  | some [cGeometryGroups,cGeometryBanks,cGeometryRows,cGeometryCols,cTimingRCD,cTimingRP,cTimingRAS,cTimingRRDS,cTimingRRDL,cTimingFAW,cTimingCCDS,cTimingCCDL,cTimingRTP,cTimingWR,cTimingWTRS,cTimingWTRL,cTimingRTW,cTimingRFC,cTimingCKE,cTimingXP,cTimingXS,cMappingOrder,cSpares,cInterval,cTrack,cLimitsAge,cLimitsHits],some [cMappingHash]=>k (.a (.agg [.int (cGeometryGroups),.int (cGeometryBanks),.int (cGeometryRows),.int (cGeometryCols),.int (cTimingRCD),.int (cTimingRP),.int (cTimingRAS),.int (cTimingRRDS),.int (cTimingRRDL),.int (cTimingFAW),.int (cTimingCCDS),.int (cTimingCCDL),.int (cTimingRTP),.int (cTimingWR),.int (cTimingWTRS),.int (cTimingWTRL),.int (cTimingRTW),.int (cTimingRFC),.int (cTimingCKE),.int (cTimingXP),.int (cTimingXS),.int (cMappingOrder),.bool (cMappingHash),.int (cSpares),.int (cInterval),.int (cTrack),.int (cLimitsAge),.int (cLimitsHits)])) ch []
  | _,_=>False
 | _=>False
theorem sToConfig_ok {f:FuncId}(hc:∀ args w,(callFunc f args).run Tryz.prog w=.ok (.enter f args) w)(h:∀ (cGeometryGroups cGeometryBanks cGeometryRows cGeometryCols cTimingRCD cTimingRP cTimingRAS cTimingRRDS cTimingRRDL cTimingFAW cTimingCCDS cTimingCCDL cTimingRTP cTimingWR cTimingWTRS cTimingWTRL cTimingRTW cTimingRFC cTimingCKE cTimingXP cTimingXS cMappingOrder:Int) (cMappingHash:Bool) (cSpares cInterval cTrack cLimitsAge cLimitsHits:Int) (w:World),Calls Tryz.prog f #[.agg #[.int .i64 cGeometryGroups,.int .i64 cGeometryBanks,.int .i64 cGeometryRows,.int .i64 cGeometryCols,.int .i64 cTimingRCD,.int .i64 cTimingRP,.int .i64 cTimingRAS,.int .i64 cTimingRRDS,.int .i64 cTimingRRDL,.int .i64 cTimingFAW,.int .i64 cTimingCCDS,.int .i64 cTimingCCDL,.int .i64 cTimingRTP,.int .i64 cTimingWR,.int .i64 cTimingWTRS,.int .i64 cTimingWTRL,.int .i64 cTimingRTW,.int .i64 cTimingRFC,.int .i64 cTimingCKE,.int .i64 cTimingXP,.int .i64 cTimingXS,.int .i64 cMappingOrder,.bool cMappingHash,.int .i64 cSpares,.int .i64 cInterval,.int .i64 cTrack,.int .i64 cLimitsAge,.int .i64 cLimitsHits]] w fun e w'=>e=.returned (.agg #[.int .i64 (cGeometryGroups),.int .i64 (cGeometryBanks),.int .i64 (cGeometryRows),.int .i64 (cGeometryCols),.int .i64 (cTimingRCD),.int .i64 (cTimingRP),.int .i64 (cTimingRAS),.int .i64 (cTimingRRDS),.int .i64 (cTimingRRDL),.int .i64 (cTimingFAW),.int .i64 (cTimingCCDS),.int .i64 (cTimingCCDL),.int .i64 (cTimingRTP),.int .i64 (cTimingWR),.int .i64 (cTimingWTRS),.int .i64 (cTimingWTRL),.int .i64 (cTimingRTW),.int .i64 (cTimingRFC),.int .i64 (cTimingCKE),.int .i64 (cTimingXP),.int .i64 (cTimingXS),.int .i64 (cMappingOrder),.bool (cMappingHash),.int .i64 (cSpares),.int .i64 (cInterval),.int .i64 (cTrack),.int .i64 (cLimitsAge),.int .i64 (cLimitsHits)])∧Below w.heap.size w w'):SmOK Tryz.prog f sToConfig:=by
 refine smB hc fun args ch k w X h0 hs=>?_
 unfold sToConfig at h0
 split at h0
 ·split at h0
  ·rename_i cGeometryGroups cGeometryBanks cGeometryRows cGeometryCols cTimingRCD cTimingRP cTimingRAS cTimingRRDS cTimingRRDL cTimingFAW cTimingCCDS cTimingCCDL cTimingRTP cTimingWR cTimingWTRS cTimingWTRL cTimingRTW cTimingRFC cTimingCKE cTimingXP cTimingXS cMappingOrder cSpares cInterval cTrack cLimitsAge cLimitsHits cMappingHash hi hb
   obtain ⟨e0,hi1⟩:=ints_cons hi
   obtain ⟨e1,hi2⟩:=ints_cons hi1
   obtain ⟨e2,hi3⟩:=ints_cons hi2
   obtain ⟨e3,hi4⟩:=ints_cons hi3
   obtain ⟨e4,hi5⟩:=ints_cons hi4
   obtain ⟨e5,hi6⟩:=ints_cons hi5
   obtain ⟨e6,hi7⟩:=ints_cons hi6
   obtain ⟨e7,hi8⟩:=ints_cons hi7
   obtain ⟨e8,hi9⟩:=ints_cons hi8
   obtain ⟨e9,hi10⟩:=ints_cons hi9
   obtain ⟨e10,hi11⟩:=ints_cons hi10
   obtain ⟨e11,hi12⟩:=ints_cons hi11
   obtain ⟨e12,hi13⟩:=ints_cons hi12
   obtain ⟨e13,hi14⟩:=ints_cons hi13
   obtain ⟨e14,hi15⟩:=ints_cons hi14
   obtain ⟨e15,hi16⟩:=ints_cons hi15
   obtain ⟨e16,hi17⟩:=ints_cons hi16
   obtain ⟨e17,hi18⟩:=ints_cons hi17
   obtain ⟨e18,hi19⟩:=ints_cons hi18
   obtain ⟨e19,hi20⟩:=ints_cons hi19
   obtain ⟨e20,hi21⟩:=ints_cons hi20
   obtain ⟨e21,hi22⟩:=ints_cons hi21
   obtain ⟨e23,hi23⟩:=ints_cons hi22
   obtain ⟨e24,hi24⟩:=ints_cons hi23
   obtain ⟨e25,hi25⟩:=ints_cons hi24
   obtain ⟨e26,hi26⟩:=ints_cons hi25
   obtain ⟨e27,hi27⟩:=ints_cons hi26
   obtain ⟨e22,hb1⟩:=bools_cons hb
   refine ⟨_,h0,?_⟩
   simp only [List.map_cons,List.map_nil,den_a,den_c,SA.den,e0,e1,e2,e3,e4,e5,e6,e7,e8,e9,e10,e11,e12,e13,e14,e15,e16,e17,e18,e19,e20,e21,e22,e23,e24,e25,e26,e27]
   exact h cGeometryGroups cGeometryBanks cGeometryRows cGeometryCols cTimingRCD cTimingRP cTimingRAS cTimingRRDS cTimingRRDL cTimingFAW cTimingCCDS cTimingCCDL cTimingRTP cTimingWR cTimingWTRS cTimingWTRL cTimingRTW cTimingRFC cTimingCKE cTimingXP cTimingXS cMappingOrder cMappingHash cSpares cInterval cTrack cLimitsAge cLimitsHits w
  ·exact h0.elim
 ·exact h0.elim
end Go.Proofs.YtbhfabaofhhkeaaGreat

/-
  FnExactControllerNew: a part of the walk (merged and squeezed by program: SxNp).
-/
import Derived.Test.YtbhfabaofhhkeaaGreatZaz
namespace Go.Proofs.YtbhfabaofhhkeaaGreat
set_option linter.unusedVariables false
set_option linter.unusedSimpArgs false
open Go.RowKit
set_option maxRecDepth 100000
set_option maxHeartbeats 8000000
def iToPowerRule:Sm:=inlM Tryz.prog {tb:=[]} 300 Tryz.f31
theorem iToPowerRule_ok:SmOK Tryz.prog 31 iToPowerRule:=inlM_ok mixed (E:={tb:=[]}) trivial Tryz.func31 Tryz.call31 (fun _ _ _=>loopsOK_nil _ _ _)
def iEqPowerRule:Sm:=inlM Tryz.prog {tb:=[]} 300 Tryz.f61
theorem iEqPowerRule_ok:SmOK Tryz.prog 61 iEqPowerRule:=inlM_ok mixed (E:={tb:=[]}) trivial Tryz.func61 Tryz.call61 (fun _ _ _=>loopsOK_nil _ _ _)
structure PolicyD where
 Page:Int
 Cap:Int
 Limit:Int
 Low:Int
 High:Int
 WeightsN:Nat
 (Weightsg0:Nat→Int)
 RuleDown:Int
 RuleSleep:Int
def isPolicy (v:Value)(x:PolicyD)(rs:List Row):Prop :=
 ∃ (WeightsO:Option Addr) (WeightsC WeightsT WeightsK:Nat) (WeightsB:Bool),v=.agg #[.int .i64 x.Page,.int .i64 x.Cap,.int .i64 x.Limit,.int .i64 x.Low,.int .i64 x.High,.slice WeightsO x.WeightsN WeightsC,.int .i64 x.RuleDown,.int .i64 x.RuleSleep]∧rs=[⟨WeightsB,WeightsO,WeightsT,1,x.WeightsN,WeightsK,[fun i=>.int (x.Weightsg0 i)]⟩]
abbrev capPolicy (x:PolicyD):Prop:=x.WeightsN≤2097152
abbrev cap1Policy (x:PolicyD):Prop:=x.WeightsN≤1048576
abbrev szPPolicy (z k:Int)(WeightsN:Nat):Prop:=z=-1∨(0≤z∧z≤k∧WeightsN≤1048576)
abbrev lensPolicy (x:PolicyD):Prop:=x.WeightsN≤9223372036854775807
theorem wholePolicy {v:Value}{x:PolicyD}{rs:List Row}(h:isPolicy v x rs):wholeC true v 8:=by
 obtain ⟨_,_,_,_,_,rfl,rfl⟩:=h
 exact ⟨_,rfl,rfl,List.all_eq_true.1 rfl⟩
def markPolicyD (k:Int)(x:PolicyD):PolicyD:=⟨x.Page,x.Cap,x.Limit,x.Low,x.High,x.WeightsN,fun i=>mk (k) 1 0 i,x.RuleDown,x.RuleSleep⟩
def endPolicy (k:Int)(x:PolicyD):Int:=mk (k) 1 0 x.WeightsN
theorem toPolicy_T (Page:Int)(Cap:Int)(Limit:Int)(Low:Int)(High:Int)(WeightsO:Option Addr)(WeightsN WeightsC:Nat)(Weightsg0:Nat→Int)(RuleDown:Int)(RuleSleep:Int):(exFn Tryz.prog {tb:=[(30,sToIntS),(31,iToPowerRule)]} 400 Tryz.f7 ([.a (.agg [.int Page,.int Cap,.int Limit,.int Low,.int High,.sl 0 WeightsO WeightsN WeightsC,.int RuleDown,.int RuleSleep])]) ([.row ⟨false,WeightsO,0,1,WeightsN,0,[fun i=>.int (Weightsg0 i)]⟩]) (fun v ch=>∃ (ro0:Option Addr) (rc0:Nat),OutR v ch (.agg #[.int .i64 (Page),.int .i64 (Cap),.int .i64 (Limit),.int .i64 (Low),.int .i64 (High),.slice ro0 (WeightsN) rc0,.int .i64 (RuleDown),.int .i64 (RuleSleep)]) [.row ⟨true,ro0,3,1,WeightsN,rc0,[fun i=>.int (Weightsg0 i)]⟩]))=(
 ∀ b c d:Nat,b=b∧d=d∧b=b∧d=d∧b=b∧d=d∧b=b∧d=d∧b=b∧d=d∧b=b∧∃ g:Nat→Int,(WeightsO=WeightsO∧WeightsN=WeightsN∧[fun h=>Ci (Weightsg0 h)]=[fun h=>Ci (g h)]∧capC WeightsN)∧∀ h:Nat,d=d∧b=b∧∀ j k l:Nat,j=j∧l=l∧j=j∧l=l∧l=l∧k=k∧k=k∧d=d∧d=d∧c=c∧c=c∧∃(m:Option Addr) (n:Nat),(Wa [Wi Page,Wi Cap,Wi Limit,Wi Low,Wi High,Ws (Ad h 0) WeightsN WeightsN,Wi RuleDown,Wi RuleSleep])=(Wa [Wi Page,Wi Cap,Wi Limit,Wi Low,Wi High,Ws m WeightsN n,Wi RuleDown,Wi RuleSleep])∧((true=true∧(Ad h 0)=m∧3=3∧1=1∧WeightsN=WeightsN∧WeightsN=n∧(∀ o:Nat,o<WeightsN→(Wi (g o))=(Wi (Weightsg0 o)))∧True)∧True)∧true=true):=by kernel_rfl
theorem toPolicy_any (Page:Int)(Cap:Int)(Limit:Int)(Low:Int)(High:Int)(WeightsO:Option Addr)(WeightsN WeightsC:Nat)(Weightsg0:Nat→Int)(RuleDown:Int)(RuleSleep:Int)(w:World)(hrWeights:Row.sat w ⟨false,WeightsO,0,1,WeightsN,0,[fun i=>.int (Weightsg0 i)]⟩)(hpre:capC WeightsN):Calls Tryz.prog 7 #[.agg #[.int .i64 Page,.int .i64 Cap,.int .i64 Limit,.int .i64 Low,.int .i64 High,.slice WeightsO WeightsN WeightsC,.int .i64 RuleDown,.int .i64 RuleSleep]] w fun e w'=>∃ (ro0:Option Addr) (rc0:Nat),e=.returned (.agg #[.int .i64 (Page),.int .i64 (Cap),.int .i64 (Limit),.int .i64 (Low),.int .i64 (High),.slice ro0 (WeightsN) rc0,.int .i64 (RuleDown),.int .i64 (RuleSleep)])∧HS ⟨w,fun _=>False⟩ [.row ⟨true,ro0,3,1,WeightsN,rc0,[fun i=>.int (Weightsg0 i)]⟩] w':=by
 refine fnB (tb:=[(30,sToIntS),(31,iToPowerRule)]) ⟨sToIntS_ok,iToPowerRule_ok,trivial⟩ Tryz.func7 (@Eq.mpr _ _ (toPolicy_T Page Cap Limit Low High WeightsO WeightsN WeightsC Weightsg0 RuleDown RuleSleep) ?_) (HS.rows (fun _=>False) [⟨false,WeightsO,0,1,WeightsN,0,[fun i=>.int (Weightsg0 i)]⟩] (by simp;exact hrWeights)) (fun v ch' w' ⟨ro0,rc0,hk⟩ hs=>⟨ro0,rc0,by rw [hk.1],hk.hs hs⟩)
 clear hrWeights
 repeat' (first
  | exact rfl
  | exact True.intro
  | refine And.intro ?_ ?_
  | apply Exists.intro
  | assumption
  | omega
  | intro _)
def sToPolicyO:Sm:=fun args ch k =>
 match args with
 | [.a (.c (.obj i0 v0))] =>
  match ch[i0]? with
  | some (.obj _ r0)=>∃ (x:PolicyD),(isPolicy v0 x r0∧capPolicy x)∧∀ (v':Value) (rs':List Row),isPolicy v' (x) rs'→k (.a (.c (.obj ch.length v'))) (ch ++ [.obj true rs']) []
  | _=>False
 | _=>False
theorem sToPolicyO_ok_laws_toPolicy:SmOK Tryz.prog 7 sToPolicyO:=by
 refine smN Tryz.call7 fun args ch k w X h0 hs=>?_
 unfold sToPolicyO at h0
 split at h0
 ·rename_i i0 v0
  split at h0
  ·rename_i o0 r0 hi0
   obtain ⟨x,⟨⟨_,_,_,_,_,rfl,rfl⟩,hpre⟩,h0⟩:=h0
   have hw0:=hs.seeObj hi0
   simp only [List.map_cons,List.map_nil,den_a,den_c,SA.den,den_obj]
   refine Calls.mono (toPolicy_any x.Page x.Cap x.Limit x.Low x.High _ x.WeightsN _ x.Weightsg0 x.RuleDown x.RuleSleep w (Row.seenAs (hw0 _ (mem0)).2 rfl rfl) hpre) fun e w' ⟨ro0,rc0,he,hs'⟩=>⟨_,[.obj true _],?_,hs'.pack (rs:=[_]) (by simp),rfl,h0 _ _ ⟨ro0,rc0,_,_,_,rfl,rfl⟩⟩
   rw [he]
   rfl
  ·exact h0.elim
 ·exact h0.elim
theorem eqPolicy_T (Page:Int)(Cap:Int)(Limit:Int)(Low:Int)(High:Int)(WeightsN:Nat)(Weightsg0:Nat→Int)(RuleDown:Int)(RuleSleep:Int)(aWeightsO:Option Addr)(aWeightsC:Nat)(bWeightsO:Option Addr)(bWeightsC:Nat):(exFn Tryz.prog {tb:=[(51,sEqIntS),(61,iEqPowerRule)]} 400 Tryz.f10 ([.a (.agg [.int Page,.int Cap,.int Limit,.int Low,.int High,.sl 0 aWeightsO WeightsN aWeightsC,.int RuleDown,.int RuleSleep]),.a (.agg [.int Page,.int Cap,.int Limit,.int Low,.int High,.sl 1 bWeightsO WeightsN bWeightsC,.int RuleDown,.int RuleSleep])]) ([.row ⟨false,aWeightsO,0,1,WeightsN,0,[fun i=>.int (Weightsg0 i)]⟩,.row ⟨false,bWeightsO,0,1,WeightsN,0,[fun i=>.int (Weightsg0 i)]⟩]) (fun v _=>v.den=.bool true))=(
 ∀ b c:Nat,b=b∧c=c∧((Page != Page)=true→(Wb false)=(Wb true))∧((Page != Page)=false→b=b∧c=c∧((Cap != Cap)=true→(Wb false)=(Wb true))∧((Cap != Cap)=false→b=b∧c=c∧((Limit != Limit)=true→(Wb false)=(Wb true))∧((Limit != Limit)=false→b=b∧c=c∧((Low != Low)=true→(Wb false)=(Wb true))∧((Low != Low)=false→b=b∧c=c∧((High != High)=true→(Wb false)=(Wb true))∧((High != High)=false→b=b∧c=c∧∃ d g:Nat→Int,(aWeightsO=aWeightsO∧WeightsN=WeightsN∧[fun h=>Ci (Weightsg0 h)]=[fun h=>Ci (d h)]∧bWeightsO=bWeightsO∧WeightsN=WeightsN∧[fun h=>Ci (Weightsg0 h)]=[fun h=>Ci (g h)]∧WeightsN=WeightsN∧capC WeightsN)∧(∀ h:Nat,h<WeightsN→(d h)=(g h))∧b=b∧c=c∧∀ h j:Nat,h=h∧j=j∧((RuleDown != RuleDown)=true→(Wb false)=(Wb true))∧((RuleDown != RuleDown)=false→h=h∧j=j∧((RuleSleep != RuleSleep)=true→(Wb false)=(Wb true))∧((RuleSleep != RuleSleep)=false→(Wb true)=(Wb true))))))))):=by kernel_rfl
theorem eqPolicy_any (Page:Int)(Cap:Int)(Limit:Int)(Low:Int)(High:Int)(WeightsN:Nat)(Weightsg0:Nat→Int)(RuleDown:Int)(RuleSleep:Int)(aWeightsO:Option Addr)(aWeightsC:Nat)(bWeightsO:Option Addr)(bWeightsC:Nat)(w:World)(hra0:Row.sat w ⟨false,aWeightsO,0,1,WeightsN,0,[fun i=>.int (Weightsg0 i)]⟩)(hrb0:Row.sat w ⟨false,bWeightsO,0,1,WeightsN,0,[fun i=>.int (Weightsg0 i)]⟩)(hcap:WeightsN≤2097152):Calls Tryz.prog 10 #[.agg #[.int .i64 Page,.int .i64 Cap,.int .i64 Limit,.int .i64 Low,.int .i64 High,.slice aWeightsO WeightsN aWeightsC,.int .i64 RuleDown,.int .i64 RuleSleep],.agg #[.int .i64 Page,.int .i64 Cap,.int .i64 Limit,.int .i64 Low,.int .i64 High,.slice bWeightsO WeightsN bWeightsC,.int .i64 RuleDown,.int .i64 RuleSleep]] w fun e w'=>e=.returned (.bool true)∧Below w.heap.size w w':=by
 refine fnB (tb:=[(51,sEqIntS),(61,iEqPowerRule)]) ⟨sEqIntS_ok,iEqPowerRule_ok,trivial⟩ Tryz.func10 (@Eq.mpr _ _ (eqPolicy_T Page Cap Limit Low High WeightsN Weightsg0 RuleDown RuleSleep aWeightsO aWeightsC bWeightsO bWeightsC) ?_) (HS.rows (fun _=>False) [⟨false,aWeightsO,0,1,WeightsN,0,[fun i=>.int (Weightsg0 i)]⟩,⟨false,bWeightsO,0,1,WeightsN,0,[fun i=>.int (Weightsg0 i)]⟩] (by simp;exact ⟨hra0,hrb0⟩)) (fun v ch' w' hk hs=>⟨by rw [hk],hs.below⟩)
 clear hra0 hrb0
 repeat' (first
  | exact rfl
  | exact True.intro
  | assumption
  | refine And.intro ?_ ?_
  | apply Exists.intro
  | omega
  | (intro h;exfalso;simp at h;done)
  | (intro h;exfalso;simp at h;omega)
  | intro _)
def sEqPolicyO:Sm:=fun args ch k =>
 match args with
 | [.a (.c (.obj i v)),.a (.c (.obj j u))] =>
  match ch[i]?,ch[j]? with
  | some (.obj _ rs),some (.obj _ us)=>∃ x:PolicyD,(isPolicy v x rs∧isPolicy u x us∧capPolicy x)∧k (.a (.c (.lit true))) ch []
  | _,_=>False
 | _=>False
theorem sEqPolicyO_ok:SmOK Tryz.prog 10 sEqPolicyO:=by
 refine smB Tryz.call10 fun args ch k w X h0 hs=>?_
 unfold sEqPolicyO at h0
 split at h0
 ·rename_i i v j u
  split at h0
  ·rename_i o rs o' us hi hj
   obtain ⟨x,⟨⟨_,_,_,_,_,rfl,rfl⟩,⟨_,_,_,_,_,rfl,rfl⟩,hc⟩,h0⟩:=h0
   have h1:=hs.seeObj hi
   have h2:=hs.seeObj hj
   refine ⟨_,h0,?_⟩
   exact eqPolicy_any x.Page x.Cap x.Limit x.Low x.High x.WeightsN x.Weightsg0 x.RuleDown x.RuleSleep _ _ _ _ w (Row.seenAs (h1 _ (mem0)).2 rfl rfl) (Row.seenAs (h2 _ (mem0)).2 rfl rfl) hc
  ·exact h0.elim
 ·exact h0.elim
theorem markPolicy_T (Page:Int)(Cap:Int)(Limit:Int)(Low:Int)(High:Int)(WeightsN:Nat)(Weightsg0:Nat→Int)(RuleDown:Int)(RuleSleep:Int)(WeightsO:Option Addr)(WeightsC:Nat)(WeightsT WeightsK:Nat)(k0:Int):(exFn Tryz.prog {tb:=[(62,sMarkIntS)]} 400 Tryz.f11 ([.a (.agg [.int Page,.int Cap,.int Limit,.int Low,.int High,.sl 0 WeightsO WeightsN WeightsC,.int RuleDown,.int RuleSleep]),.a (.c (.int k0))]) ([.row ⟨true,WeightsO,WeightsT,1,WeightsN,WeightsK,[fun i=>.int (Weightsg0 i)]⟩]) (fun v ch=>v.den=.int .i64 (mk (k0) 1 0 WeightsN)∧selC ch [0]=[.row ⟨true,WeightsO,WeightsT,1,WeightsN,WeightsK,[fun i=>.int (mk (k0) 1 0 i)]⟩]))=(
 ∀ b:Nat,b=b∧∃ d:Nat→Int,(WeightsO=WeightsO∧WeightsN=WeightsN∧[fun g=>Ci (Weightsg0 g)]=[fun g=>Ci (d g)]∧markC WeightsN k0)∧(Wi (mk k0 1 0 WeightsN))=(Wi (mk k0 1 0 WeightsN))∧[Hr true WeightsO WeightsT 1 WeightsN WeightsK [fun g=>Ci (mk k0 1 0 g)]]=[Hr true WeightsO WeightsT 1 WeightsN WeightsK [fun g=>Ci (mk k0 1 0 g)]]):=by kernel_rfl
theorem markPolicy_any (Page:Int)(Cap:Int)(Limit:Int)(Low:Int)(High:Int)(WeightsN:Nat)(Weightsg0:Nat→Int)(RuleDown:Int)(RuleSleep:Int)(WeightsO:Option Addr)(WeightsC:Nat)(WeightsT WeightsK:Nat)(k0:Int)(w:World)(M:Nat→Prop)(hs:HS ⟨w,M⟩ [.row ⟨true,WeightsO,WeightsT,1,WeightsN,WeightsK,[fun i=>.int (Weightsg0 i)]⟩] w)(hcap:WeightsN≤2097152)(h0:0≤k0∧k0≤549755813888):Calls Tryz.prog 11 #[.agg #[.int .i64 Page,.int .i64 Cap,.int .i64 Limit,.int .i64 Low,.int .i64 High,.slice WeightsO WeightsN WeightsC,.int .i64 RuleDown,.int .i64 RuleSleep],.int .i64 k0] w fun e w'=>e=.returned (.int .i64 (mk (k0) 1 0 WeightsN))∧HS ⟨w,M⟩ [.row ⟨true,WeightsO,WeightsT,1,WeightsN,WeightsK,[fun i=>.int (mk (k0) 1 0 i)]⟩] w':=by
 refine fnB (tb:=[(62,sMarkIntS)]) ⟨sMarkIntS_ok,trivial⟩ Tryz.func11 (@Eq.mpr _ _ (markPolicy_T Page Cap Limit Low High WeightsN Weightsg0 RuleDown RuleSleep WeightsO WeightsC WeightsT WeightsK k0) ?_) hs (fun v ch' w' ⟨hv,hc⟩ hs=>⟨by rw [hv],by rw [← hc];exact hs.sel _ (by simp)⟩)
 clear hs
 have hb0:0≤mk (k0) 1 0 WeightsN∧mk (k0) 1 0 WeightsN≤k0+16777216:=mk_more (by omega) (by omega) (by omega)
 repeat' (first
  | exact rfl
  | exact True.intro
  | assumption
  | refine And.intro ?_ ?_
  | apply Exists.intro
  | omega
  | (intro h;exfalso;simp at h;done)
  | (intro h;exfalso;simp at h;omega)
  | intro _)
def sMarkPolicyO:Sm:=fun args ch k =>
 match args with
 | [.a (.c (.obj i v)),.a (.c kc)] =>
  match ch[i]?,asI kc with
  | some (.obj true rs),some k0=>∃ x:PolicyD,(isPolicy v x rs∧capPolicy x∧mrkC k0)∧(endC k0 (endPolicy k0 x) 16777216→∀ rs':List Row,isPolicy v (markPolicyD k0 x) rs'→k (.a (.c (.int (endPolicy k0 x)))) (ch.set i (.obj true rs')) [i])
  | _,_=>False
 | _=>False
theorem sMarkPolicyO_ok:SmOK Tryz.prog 11 sMarkPolicyO:=by
 refine smTurnO Tryz.call11 fun args ch k w X h0 hs=>?_
 unfold sMarkPolicyO at h0
 split at h0
 ·rename_i i v kc
  split at h0
  ·rename_i rs k0 hi hk
   obtain ⟨x,⟨⟨WeightsO,WeightsC,WeightsT,WeightsK,WeightsB,rfl,rfl⟩,hc,hk0⟩,h0⟩:=h0
   have h1:=hs.seeObj hi
   have eWeights:WeightsB=true:=(h1 _ (mem0)).1
   subst eWeights
   have hb0:0≤mk (k0) 1 0 x.WeightsN∧mk (k0) 1 0 x.WeightsN≤k0+16777216:=mk_more (by omega) (by omega) (by omega)
   refine ⟨_,i,_,_,hi,h0 ⟨by unfold endPolicy;omega,by unfold endPolicy;omega⟩ [⟨true,WeightsO,WeightsT,1,x.WeightsN,WeightsK,[fun i=>.int ((markPolicyD k0 x).Weightsg0 i)]⟩] ⟨_,_,_,_,_,rfl,rfl⟩,by simp,(at_cons rfl rfl rfl (fun _ h=>h)),?_⟩
   simp only [List.map_cons,List.map_nil,den_a,den_c,asI_den hk]
   exact markPolicy_any x.Page x.Cap x.Limit x.Low x.High x.WeightsN x.Weightsg0 x.RuleDown x.RuleSleep WeightsO WeightsC WeightsT WeightsK k0 w _ (hs.open hi) hc hk0
  ·exact h0.elim
 ·exact h0.elim
theorem szPolicy_T (Page:Int)(Cap:Int)(Limit:Int)(Low:Int)(High:Int)(RuleDown:Int)(RuleSleep:Int)(WeightsO:Option Addr)(WeightsN WeightsC:Nat)(k0:Int):(exFn Tryz.prog {tb:=[(14,sSzIntS)]} 400 Tryz.f4 ([.a (.agg [.int Page,.int Cap,.int Limit,.int Low,.int High,.sl 0 WeightsO WeightsN WeightsC,.int RuleDown,.int RuleSleep]),.a (.c (.int k0))]) ([]) (fun v _=>∃ z:Int,v.den=.int .i64 z∧szPPolicy z k0 WeightsN))=(
 ∀ b:Nat,b=b∧szC WeightsN k0∧(k0<((WeightsN:Nat):Int)→∃ d:Int,(Wi (-1))=(Wi d)∧szPPolicy d k0 WeightsN)∧(((WeightsN:Nat):Int)≤k0→((decide ((k0-((WeightsN:Nat):Int))<(0:Int)))=true→∃ d:Int,(Wi (-1))=(Wi d)∧szPPolicy d k0 WeightsN)∧((decide ((k0-((WeightsN:Nat):Int))<(0:Int)))=false→∃ d:Int,(Wi (k0-((WeightsN:Nat):Int)))=(Wi d)∧szPPolicy d k0 WeightsN))):=by kernel_rfl
theorem szPolicy_any (Page:Int)(Cap:Int)(Limit:Int)(Low:Int)(High:Int)(RuleDown:Int)(RuleSleep:Int)(WeightsO:Option Addr)(WeightsN WeightsC:Nat)(k0:Int)(w:World)(hn:WeightsN≤9223372036854775807)(h0:0≤k0∧k0≤1048576):Calls Tryz.prog 4 #[.agg #[.int .i64 Page,.int .i64 Cap,.int .i64 Limit,.int .i64 Low,.int .i64 High,.slice WeightsO WeightsN WeightsC,.int .i64 RuleDown,.int .i64 RuleSleep],.int .i64 k0] w fun e w'=>∃ z:Int,(z=-1∨(0≤z∧z≤k0∧WeightsN≤1048576))∧e=.returned (.int .i64 z)∧Below w.heap.size w w':=by
 refine fnB (tb:=[(14,sSzIntS)]) ⟨sSzIntS_ok,trivial⟩ Tryz.func4 (@Eq.mpr _ _ (szPolicy_T Page Cap Limit Low High RuleDown RuleSleep WeightsO WeightsN WeightsC k0) ?_) (HS.start w (fun _=>False)) (fun v ch' w' ⟨z,hv,hz⟩ hs=>⟨z,hz,by rw [hv],hs.below⟩)
 repeat' (first
  | (refine ⟨_,rfl,?_⟩;first | exact .inl rfl | (refine .inr ?_;omega))
  | exact True.intro
  | assumption
  | refine And.intro ?_ ?_
  | omega
  | (intro h;exfalso;simp at h;done)
  | (intro h;exfalso;simp at h;omega)
  | intro _)
def sSzPolicyO:Sm:=fun args ch k =>
 match args with
 | [.a (.c (.obj i v)),.a (.c kc)] =>
  match ch[i]?,asI kc with
  | some (.obj _ rs),some k0=>∃ x:PolicyD,(isPolicy v x rs∧lensPolicy x∧szK k0)∧(k (.a (.c (.il (-1)))) ch []∧∀ z:Int,szO z k0→cap1Policy x→k (.a (.c (.int z))) ch [])
  | _,_=>False
 | _=>False
theorem sSzPolicyO_ok:SmOK Tryz.prog 4 sSzPolicyO:=by
 refine smV Tryz.call4 fun args ch k w X h0 hs=>?_
 unfold sSzPolicyO at h0
 split at h0
 ·rename_i i v kc
  split at h0
  ·rename_i o rs k0 hi hk
   obtain ⟨x,⟨⟨_,_,_,_,_,rfl,rfl⟩,hc,hk0⟩,h1,h2⟩:=h0
   simp only [List.map_cons,List.map_nil,den_a,den_c,asI_den hk]
   refine Calls.mono (szPolicy_any x.Page x.Cap x.Limit x.Low x.High x.RuleDown x.RuleSleep _ x.WeightsN _ k0 w hc hk0) fun e w' ⟨z,hz,he,hb⟩=>?_
   rcases hz with rfl | ⟨hz0,hz1,hz2⟩
   ·exact ⟨.a (.c (.il (-1))),he,hb,h1⟩
   ·exact ⟨.a (.c (.int z)),he,hb,h2 z ⟨hz0,hz1⟩ hz2⟩
  ·exact h0.elim
 ·exact h0.elim
def polF (x:PolicyD):Nat→Int:=fun s=>pickL [x.Page,x.Cap,x.Limit,x.Low,x.High,x.RuleDown,x.RuleSleep] 0 s
def newP (c:Nat→Int)(hb:Bool)(pd:PolicyD)(x:CtD)(ok:Bool):Prop:=newOf c (polF pd) hb pd.WeightsN pd.Weightsg0 (bankN (c 0) (c 1) (c 2) (c 3)).toNat (9*((bankN (c 0) (c 1) (c 2) (c 3)).toNat+1)) (lineN (c 0) (c 1) (c 2) (c 3)).toNat (bankN (c 0) (c 1) (c 2) (c 3)*c 2).toNat (spK (c 0) (c 1) (c 2) (c 3) (c 22)) (c 24).toNat x ok
theorem fit_facts {c p:Nat→Int}{hb:Bool}{wn:Nat}{wg:Nat→Int}(h:fitC c p hb wn wg=true):fitF c p wn wg (bankN (c 0) (c 1) (c 2) (c 3)).toNat (9*((bankN (c 0) (c 1) (c 2) (c 3)).toNat+1)) (lineN (c 0) (c 1) (c 2) (c 3)).toNat (bankN (c 0) (c 1) (c 2) (c 3)*c 2).toNat (spK (c 0) (c 1) (c 2) (c 3) (c 22)) (c 24).toNat:=by
 simp only [fitC,fitsP,Bool.and_eq_true] at h
 obtain ⟨⟨⟨hc,hp⟩,_⟩,_⟩:=h
 have hp0:=hp
 simp only [cfgB,Bool.and_eq_true] at hc
 obtain ⟨⟨⟨⟨⟨⟨hs,ht⟩,_⟩,hi⟩,htr⟩,_⟩,_⟩:=hc
 have hs0:=hs
 simp only [spOk,Bool.and_eq_true] at hs
 have hg:=hs.1.1
 have hf:=geo_facts hg
 have hb:=geo_bank hg
 have hbn:bankN (c 0) (c 1) (c 2) (c 3)=c 0*c 1:=by simp [bankN,hg]
 have htb:=tim_bounds (c 4) (c 5) (c 6) (c 7) (c 8) (c 9) (c 10) (c 11) (c 12) (c 13) (c 14) (c 15) (c 16) (c 17) (c 18) (c 19) (c 20) ht
 have hin:=btw_facts' hi
 have hneed:needI (c 4) (c 5) (c 6) (c 7) (c 8) (c 9) (c 10) (c 11) (c 12) (c 13) (c 14) (c 15) (c 16) (c 17) (c 18) (c 19) (c 20)=2*(c 18+c 19+c 6+c 13+c 12+c 5+c 17+c 4+8*c 8+16):=by simp [needI,ht]
 have htk:=btw_facts' htr
 have hl:lineN (c 0) (c 1) (c 2) (c 3)=c 0*c 1*c 2*c 3:=by simp [lineN,hg]
 have hl0:0≤c 0*c 1*c 2*c 3:=Int.mul_nonneg (Int.mul_nonneg (by omega) (by omega)) (by omega)
 refine ⟨⟨hg,?_,?_,?_⟩,rfl,⟨hg,?_,rfl⟩,hp,⟨hs0,rfl⟩,⟨?_,hin.2⟩,?_,?_,?_,?_⟩
 ·rw [hbn];omega
 ·rw [hbn];omega
 ·rw [hbn];omega
 ·rw [hl];omega
 ·omega
 ·simp only [polB,Bool.and_eq_true] at hp0
  exact hp0.1.2
 ·omega
 ·omega
 ·omega
theorem newP_ex (c:Nat→Int)(hb:Bool)(pd:PolicyD):∃ (x:CtD) (ok:Bool),newP c hb pd x ok:=by
 cases h:fitC c (polF pd) hb pd.WeightsN pd.Weightsg0 with
 | true=>exact ⟨_,true,.inl ⟨h,fit_facts h,rfl,rfl⟩⟩
 | false=>exact ⟨zeroCt,false,.inr ⟨h,rfl,rfl⟩⟩
theorem totN_const {m n:Nat}:totN (fun _=>m) n=n*(m+1):=by
 induction n with
 | zero=>simp [totN]
 | succ n ih=>simp only [totN,ih,Nat.add_mul];omega
theorem capN_zero:capN zeroCt:=⟨⟨⟨Nat.zero_le _,Nat.zero_le _,Nat.zero_le _,Nat.zero_le _,Nat.zero_le _,Nat.zero_le _,Nat.zero_le _,Nat.zero_le _,Nat.zero_le _,Nat.zero_le _,Nat.zero_le _,Nat.zero_le _,Nat.zero_le _,Nat.zero_le _,Nat.zero_le _,Nat.zero_le _⟩,Nat.zero_le _,Nat.zero_le _,fun i hi=>absurd hi (Nat.not_lt_zero i)⟩,Nat.zero_le _⟩
theorem capN_new {c p:Nat→Int}{hb:Bool}{wn:Nat}{wg:Nat→Int}{N L ln m sm k:Nat}(h:fitF c p wn wg N L ln m sm k):capN (newCt c p hb wn wg N L ln m sm k):=by
 obtain ⟨⟨hg,h1,h2⟩,h3,⟨_,h4,h5⟩,h6,⟨h7,h8⟩,_,_,_,h9⟩:=h
 have hL:L=9*(N+1):=h3
 have hR:=(geo_facts hg).2.2.1
 have hK:=(geo_facts hg).2.2.2
 have hb0:1≤bankN (c 0) (c 1) (c 2) (c 3)∧bankN (c 0) (c 1) (c 2) (c 3)≤8:=by omega
 have hb:2≤bankN (c 0) (c 1) (c 2) (c 3)*c 2∧bankN (c 0) (c 1) (c 2) (c 3)*c 2≤128:=by
  have q1:1*2≤bankN (c 0) (c 1) (c 2) (c 3)*c 2:=Int.mul_le_mul hb0.1 hR.1 (by omega) (by omega)
  have q2:bankN (c 0) (c 1) (c 2) (c 3)*c 2≤8*16:=Int.mul_le_mul hb0.2 hR.2 (by omega) (by omega)
  omega
 have hln:ln≤1024:=by
  have e:lineN (c 0) (c 1) (c 2) (c 3)=bankN (c 0) (c 1) (c 2) (c 3)*c 2*c 3:=line_row hg
  have q:bankN (c 0) (c 1) (c 2) (c 3)*c 2*c 3≤128*8:=Int.mul_le_mul hb.2 hK.2 (by omega) (by omega)
  omega
 have hm:m≤128:=by omega
 have hsm:sm≤128:=by rw [h8];exact (sp_facts h7).2.2
 have hwn:wn≤4:=by
  simp only [polB,Bool.and_eq_true,beq_iff_eq] at h6
  omega
 have hk:k≤16:=h9.2
 refine ⟨⟨⟨?_,?_,?_,?_,?_,?_,?_,?_,?_,?_,?_,?_,?_,?_,?_,?_⟩,?_,?_,fun i hi=>⟨?_,?_⟩⟩,?_⟩
 all_goals first
  | (show wn≤_;omega)
  | (show N≤_;omega)
  | (show L≤_;omega)
  | (show m≤_;omega)
  | (show sm≤_;omega)
  | (show k≤_;omega)
  | (show 0≤_;omega)
  | (show totN (fun _=>11) ln≤_;rw [totN_const];omega)
  | (show totN (fun _=>k+k) N≤_;rw [totN_const];have:N*(k+k+1)≤8*33:=Nat.mul_le_mul h2.2 (by omega);omega)
theorem newP_cap {c:Nat→Int}{hb:Bool}{pd:PolicyD}{x:CtD}{ok:Bool}(h:newP c hb pd x ok):capN x:=by
 rcases h with ⟨_,h,rfl,_⟩ | ⟨_,rfl,_⟩
 ·exact capN_new h
 ·exact capN_zero
def sToPolX (x0:PolicyD):Sm:=fun args ch k =>
 match args with
 | [.a (.c (.obj i v))] =>
  match ch[i]? with
  | some (.obj _ rs)=>(isPolicy v x0 rs∧capPolicy x0)∧∀ (v':Value) (rs':List Row),isPolicy v' x0 rs'→k (.a (.c (.obj ch.length v'))) (ch ++ [.obj true rs']) []
  | _=>False
 | _=>False
theorem sToPolX_ok (x0:PolicyD):SmOK Tryz.prog 7 (sToPolX x0):=by
 refine smSub sToPolicyO_ok_laws_toPolicy fun args ch k h0=>?_
 unfold sToPolX at h0
 unfold sToPolicyO
 split at h0
 ·split at h0
  ·rename_i hi
   try simp only [hi]
   exact ⟨x0,h0⟩
  ·exact h0.elim
 ·exact h0.elim
def sCtNewX (c:Nat→Int)(hb:Bool)(pd:PolicyD)(x:CtD)(ok:Bool):Sm:=fun args ch kk =>
 match args with
 | [.a (.agg xs),.a (.c (.obj j v))] =>
  match ch[j]? with
  | some (.obj _ rs)=>(xs.map SC.den=cfgL c hb∧isPolicy v pd rs∧newP c hb pd x ok∧rngC (c 2)∧capPolicy pd)∧∀ (v':Value) (rs':List Row),isNewC v' x rs'→kk (.tup [.c (.obj ch.length v'),.c (.bool ok)]) (ch ++ [.obj true rs']) []
  | _=>False
 | _=>False
theorem sCtNewX_I (c:Nat→Int)(hb:Bool)(pd:PolicyD)(x:CtD)(ok:Bool):SmOK Tryz.prog 8 (sCtNewX c hb pd x ok):=by
 refine smN Tryz.call8 fun args ch kk w X h0 hs=>?_
 unfold sCtNewX at h0
 split at h0
 ·rename_i xs j v
  split at h0
  ·rename_i own rs hj
   obtain ⟨⟨e1,⟨O,C,T,K,B,rfl,rfl⟩,hx,hR,hcap⟩,h1⟩:=h0
   have hrow:=seenAs' (hs.seeObj hj _ mem0).2 rfl rfl
   simp only [List.map_cons,List.map_nil,den_a,den_c,SA.den,den_obj,e1]
   exact Calls.mono (ctnI_any c (polF pd) hb O pd.WeightsN C pd.Weightsg0 _ _ _ _ _ _ x ok w hrow hx hR hcap) fun e w' ⟨o,q,so,sc,uo,uc,vo,vc,he,⟨hn1,hn2⟩,hs'⟩=>⟨.tup [.c (.obj ch.length (ctV x o q)),.c (.bool ok)],[.obj true (flatC (ctO 0 x o q so sc uo uc vo vc))],by rw [he];rfl,hs'.packAll ctO_own,rfl,h1 _ _ ⟨o,q,so,sc,uo,uc,vo,vc,rfl,rfl,hn1,hn2⟩⟩
  ·exact h0.elim
 ·exact h0.elim
theorem sCtNewX_S (c:Nat→Int)(hb:Bool)(pd:PolicyD)(x:CtD)(ok:Bool):SmOK Tryz.prog 5 (sCtNewX c hb pd x ok):=by
 refine smN Tryz.call5 fun args ch kk w X h0 hs=>?_
 unfold sCtNewX at h0
 split at h0
 ·rename_i xs j v
  split at h0
  ·rename_i own rs hj
   obtain ⟨⟨e1,⟨O,C,T,K,B,rfl,rfl⟩,hx,hR,hcap⟩,h1⟩:=h0
   have hrow:=seenAs' (hs.seeObj hj _ mem0).2 rfl rfl
   simp only [List.map_cons,List.map_nil,den_a,den_c,SA.den,den_obj,e1]
   exact Calls.mono (ctnS_any c (polF pd) hb O pd.WeightsN C pd.Weightsg0 _ _ _ _ _ _ x ok w hrow hx hR hcap) fun e w' ⟨o,q,so,sc,uo,uc,vo,vc,he,⟨hn1,hn2⟩,hs'⟩=>⟨.tup [.c (.obj ch.length (ctV x o q)),.c (.bool ok)],[.obj true (flatC (ctO 0 x o q so sc uo uc vo vc))],by rw [he];rfl,hs'.packAll ctO_own,rfl,h1 _ _ ⟨o,q,so,sc,uo,uc,vo,vc,rfl,rfl,hn1,hn2⟩⟩
  ·exact h0.elim
 ·exact h0.elim
abbrev markX (k:Int)(x:CtD):CtD:=markCt k x
abbrev posZ (z:Int):Prop:=0≤z
theorem endCt_pos {k:Int}{x:CtD}(hcap:capN x)(hk:k1C k):0≤endCt k x:=by
 have h:∀ {a:Int} {s n:Nat},0≤a→0≤mk a s 0 n:=fun h=>by simp only [mk];omega
 have h2:∀ {a:Int} {sn:Nat→Nat} {n:Nat},0≤a→0≤kAt a sn n:=fun h=>by simp only [kAt];omega
 have h3:∀ {a:Int} {x:TK} {n:Nat},0≤a→0≤tAt a x n:=fun h=>h2 h
 unfold endCt
 repeat' (first | exact hk.1 | refine h ?_ | refine h3 ?_ | refine h2 ?_)
theorem markCt_at {k:Int}{x:CtD}{o:Nat→Option Addr}{q:Nat→Nat}{so:Nat→Option Addr}{sc:Nat→Nat}{uo:Nat→Option Addr}{uc:Nat→Nat}{vo:Nat→Option Addr}{vc:Nat→Nat}:∀ c∈ctO 0 (markCt k x) o q so sc uo uc vo vc,∃ d∈ctO 0 x o q so sc uo uc vo vc,∀ b,c.at b→d.at b:=by
 intro c hc
 simp only [ctO,List.mem_cons,List.not_mem_nil,or_false] at hc
 rcases hc with rfl | rfl | rfl | rfl | rfl | rfl | rfl | rfl | rfl | rfl | rfl | rfl | rfl | rfl | rfl | rfl | rfl | rfl | rfl | rfl | rfl
 ·exact ⟨_,mem0,fun b hb=>⟨.inl rfl,hb.2⟩⟩
 ·exact ⟨_,(memS mem0),fun b hb=>⟨.inl rfl,hb.2⟩⟩
 ·exact ⟨_,(memS (memS mem0)),fun b hb=>⟨.inl rfl,hb.2⟩⟩
 ·exact ⟨_,(memS (memS (memS mem0))),fun b hb=>⟨.inl rfl,hb.2⟩⟩
 ·exact ⟨_,(memS (memS (memS (memS mem0)))),fun b hb=>⟨.inl rfl,hb.2⟩⟩
 ·exact ⟨_,(memS (memS (memS (memS (memS mem0))))),fun b hb=>⟨.inl rfl,hb.2⟩⟩
 ·exact ⟨_,(memS (memS (memS (memS (memS (memS mem0)))))),fun b hb=>⟨.inl rfl,hb.2⟩⟩
 ·exact ⟨_,(memS (memS (memS (memS (memS (memS (memS mem0))))))),fun b hb=>⟨.inl rfl,hb.2⟩⟩
 ·exact ⟨_,(memS (memS (memS (memS (memS (memS (memS (memS mem0)))))))),fun b hb=>⟨.inl rfl,hb.2⟩⟩
 ·exact ⟨_,(memS (memS (memS (memS (memS (memS (memS (memS (memS mem0))))))))),fun b hb=>⟨.inl rfl,hb.2⟩⟩
 ·exact ⟨_,(memS (memS (memS (memS (memS (memS (memS (memS (memS (memS mem0)))))))))),fun b hb=>⟨.inl rfl,hb.2⟩⟩
 ·exact ⟨_,(memS (memS (memS (memS (memS (memS (memS (memS (memS (memS (memS mem0))))))))))),fun b hb=>⟨.inl rfl,hb.2⟩⟩
 ·exact ⟨_,(memS (memS (memS (memS (memS (memS (memS (memS (memS (memS (memS (memS mem0)))))))))))),fun b hb=>⟨.inl rfl,hb.2⟩⟩
 ·exact ⟨_,(memS (memS (memS (memS (memS (memS (memS (memS (memS (memS (memS (memS (memS mem0))))))))))))),fun b hb=>⟨.inl rfl,hb.2⟩⟩
 ·exact ⟨_,(memS (memS (memS (memS (memS (memS (memS (memS (memS (memS (memS (memS (memS (memS mem0)))))))))))))),fun b hb=>⟨.inl rfl,hb.2⟩⟩
 ·exact ⟨_,(memS (memS (memS (memS (memS (memS (memS (memS (memS (memS (memS (memS (memS (memS (memS mem0))))))))))))))),fun b hb=>⟨.inl rfl,hb.2⟩⟩
 ·exact ⟨_,(memS (memS (memS (memS (memS (memS (memS (memS (memS (memS (memS (memS (memS (memS (memS (memS mem0)))))))))))))))),fun b hb=>⟨.inl rfl,hb.2⟩⟩
 ·exact ⟨_,(memS (memS (memS (memS (memS (memS (memS (memS (memS (memS (memS (memS (memS (memS (memS (memS (memS mem0))))))))))))))))),fun b hb=>⟨.inl rfl,hb.2⟩⟩
 ·exact ⟨_,(memS (memS (memS (memS (memS (memS (memS (memS (memS (memS (memS (memS (memS (memS (memS (memS (memS (memS mem0)))))))))))))))))),sym_at rfl fun _ _=>rfl⟩
 ·exact ⟨_,(memS (memS (memS (memS (memS (memS (memS (memS (memS (memS (memS (memS (memS (memS (memS (memS (memS (memS (memS mem0))))))))))))))))))),sym_at rfl fun _ _=>rfl⟩
 ·exact ⟨_,(memS (memS (memS (memS (memS (memS (memS (memS (memS (memS (memS (memS (memS (memS (memS (memS (memS (memS (memS (memS mem0)))))))))))))))))))),sym_at rfl fun _ _=>rfl⟩
def sMarkCtN:Sm:=fun args ch k =>
 match args with
 | [.a (.c (.obj i v)),.a (.c kc)] =>
  match ch[i]?,asI kc with
  | some (.obj true rs),some k0=>∃ x:CtD,(isNewC v x rs∧capN x∧k1C k0)∧(posZ (endCt k0 x)→∀ rs':List Row,isNewC v (markX k0 x) rs'→k (.a (.c (.int (endCt k0 x)))) (ch.set i (.obj true rs')) [i])
  | _,_=>False
 | _=>False
theorem sMarkCtN_ok:SmOK Tryz.prog 12 sMarkCtN:=by
 refine ⟨Tryz.call12,fun X args ch kk w h0 hs=>?_⟩
 unfold sMarkCtN at h0
 split at h0
 ·rename_i i v kc
  split at h0
  ·rename_i rs k0 hi hk
   obtain ⟨x,⟨⟨o,q,so,sc,uo,uc,vo,vc,rfl,rfl,hn1,hn2⟩,hc,hk0⟩,h0⟩:=h0
   simp only [List.map_cons,List.map_nil,den_a,den_c,SA.den,den_obj,asI_den hk]
   refine Calls.mono (markCt_any x o q so sc uo uc vo vc k0 w _ (hs.openAll hi ctO_own) hn1 hn2 hc hk0) fun e w' ⟨he,hs'⟩=>⟨.a (.c (.int (endCt k0 x))),_,[i],he,hs.swap1 hi rfl (hs'.packAll ctO_own) fun b ⟨r,hr,hb⟩=>?_,Agree.set _ _ _,h0 (endCt_pos hc hk0) _ ⟨o,q,so,sc,uo,uc,vo,vc,rfl,rfl,hn1,hn2⟩⟩
   obtain ⟨c,hcm,_,hcb⟩:=flat_at hr hb ctO_own
   obtain ⟨d,hd,hdb⟩:=markCt_at c hcm
   exact flat_of ctO_own hd (hdb b hcb)
  ·exact h0.elim
 ·exact h0.elim
def sHeldCtN:Sm:=fun args ch k =>
 match args with
 | [.a (.c (.obj i v)),.a (.c kc)] =>
  match ch[i]?,asI kc with
  | some (.obj _ rs),some k0=>∃ x:CtD,(isNewC v (markX k0 x) rs∧capN x∧k1C k0)∧k (.a (.c (.int (endCt k0 x)))) ch []
  | _,_=>False
 | _=>False
theorem sHeldCtN_ok:SmOK Tryz.prog 13 sHeldCtN:=by
 refine smB Tryz.call13 fun args ch k w X h0 hs=>?_
 unfold sHeldCtN at h0
 split at h0
 ·rename_i i v kc
  split at h0
  ·rename_i own rs k0 hi hk
   obtain ⟨x,⟨⟨o,q,so,sc,uo,uc,vo,vc,rfl,rfl,hn1,hn2⟩,hc,hk0⟩,h1⟩:=h0
   refine ⟨_,h1,?_⟩
   simp only [List.map_cons,List.map_nil,den_a,den_c,SA.den,den_obj,asI_den hk]
   exact heldCt_any x o q so sc uo uc vo vc k0 w (ct_seenO (fun r hr=>(hs.seeObj hi r hr).2) 0) hn1 hn2 hc hk0
  ·exact h0.elim
 ·exact h0.elim
end Go.Proofs.YtbhfabaofhhkeaaGreat

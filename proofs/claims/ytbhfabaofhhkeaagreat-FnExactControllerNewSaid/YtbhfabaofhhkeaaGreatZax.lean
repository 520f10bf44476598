/-
  FnExactControllerNew: a part of the walk (merged and squeezed by program: SxCtE SxOCt).
-/
import Derived.Test.YtbhfabaofhhkeaaGreatZaw
namespace Go.Proofs.YtbhfabaofhhkeaaGreat
set_option linter.unusedVariables false
set_option linter.unusedSimpArgs false
open Go.RowKit
set_option maxRecDepth 100000
set_option maxHeartbeats 8000000
def sEqGeometryI:Sm:=inlM Tryz.prog {tb:=[]} 300 Tryz.f109
theorem sEqGeometryI_ok:SmOK Tryz.prog 109 sEqGeometryI:=inlM_ok mixed (E:={tb:=[]}) trivial Tryz.func109 Tryz.call109 (fun _ _ _=>loopsOK_nil _ _ _)
def sEqTimingI:Sm:=inlM Tryz.prog {tb:=[]} 300 Tryz.f110
theorem sEqTimingI_ok:SmOK Tryz.prog 110 sEqTimingI:=inlM_ok mixed (E:={tb:=[]}) trivial Tryz.func110 Tryz.call110 (fun _ _ _=>loopsOK_nil _ _ _)
def sEqMappingI:Sm:=inlM Tryz.prog {tb:=[]} 300 Tryz.f111
theorem sEqMappingI_ok:SmOK Tryz.prog 111 sEqMappingI:=inlM_ok mixed (E:={tb:=[]}) trivial Tryz.func111 Tryz.call111 (fun _ _ _=>loopsOK_nil _ _ _)
def sEqLimitsI:Sm:=inlM Tryz.prog {tb:=[]} 300 Tryz.f112
theorem sEqLimitsI_ok:SmOK Tryz.prog 112 sEqLimitsI:=inlM_ok mixed (E:={tb:=[]}) trivial Tryz.func112 Tryz.call112 (fun _ _ _=>loopsOK_nil _ _ _)
def sEqConfigI:Sm:=inlM Tryz.prog {tb:=[(109,sEqGeometryI),(110,sEqTimingI),(111,sEqMappingI),(112,sEqLimitsI)]} 300 Tryz.f43
theorem sEqConfigI_ok:SmOK Tryz.prog 43 sEqConfigI:=inlM_ok mixed (E:={tb:=[(109,sEqGeometryI),(110,sEqTimingI),(111,sEqMappingI),(112,sEqLimitsI)]}) ⟨sEqGeometryI_ok,sEqTimingI_ok,sEqMappingI_ok,sEqLimitsI_ok,trivial⟩ Tryz.func43 Tryz.call43 (fun _ _ _=>loopsOK_nil _ _ _)
def sEqPowerRuleI:Sm:=inlM Tryz.prog {tb:=[]} 300 Tryz.f61
theorem sEqPowerRuleI_ok:SmOK Tryz.prog 61 sEqPowerRuleI:=inlM_ok mixed (E:={tb:=[]}) trivial Tryz.func61 Tryz.call61 (fun _ _ _=>loopsOK_nil _ _ _)
def sEqPolicyI:Sm:=inlM Tryz.prog {tb:=[(51,sEqIntR),(61,sEqPowerRuleI)]} 300 Tryz.f10
theorem sEqPolicyI_ok:SmOK Tryz.prog 10 sEqPolicyI:=inlM_ok mixed (E:={tb:=[(51,sEqIntR),(61,sEqPowerRuleI)]}) ⟨sEqIntR_ok,sEqPowerRuleI_ok,trivial⟩ Tryz.func10 Tryz.call10 (fun _ _ _=>loopsOK_nil _ _ _)
def sEqPolicyBoxI:Sm:=inlM Tryz.prog {tb:=[(10,sEqPolicyI)]} 300 Tryz.f44
theorem sEqPolicyBoxI_ok:SmOK Tryz.prog 44 sEqPolicyBoxI:=inlM_ok mixed (E:={tb:=[(10,sEqPolicyI)]}) ⟨sEqPolicyI_ok,trivial⟩ Tryz.func44 Tryz.call44 (fun _ _ _=>loopsOK_nil _ _ _)
def sEqRankI:Sm:=inlM Tryz.prog {tb:=[(113,sEgS [false,true])]} 300 Tryz.f45
theorem sEqRankI_ok:SmOK Tryz.prog 45 sEqRankI:=inlM_ok mixed (E:={tb:=[(113,sEgS [false,true])]}) ⟨sEqBankS_ok,trivial⟩ Tryz.func45 Tryz.call45 (fun _ _ _=>loopsOK_nil _ _ _)
def sEqReadyI:Sm:=inlM Tryz.prog {tb:=[(51,sEqIntR)]} 300 Tryz.f46
theorem sEqReadyI_ok:SmOK Tryz.prog 46 sEqReadyI:=inlM_ok mixed (E:={tb:=[(51,sEqIntR)]}) ⟨sEqIntR_ok,trivial⟩ Tryz.func46 Tryz.call46 (fun _ _ _=>loopsOK_nil _ _ _)
def sEqArrayI:Sm:=inlM Tryz.prog {tb:=[(114,sEqCs),(51,sEqIntR)]} 300 Tryz.f47
theorem sEqArrayI_ok:SmOK Tryz.prog 47 sEqArrayI:=inlM_ok mixed (E:={tb:=[(114,sEqCs),(51,sEqIntR)]}) ⟨sEqCs_ok,sEqIntR_ok,trivial⟩ Tryz.func47 Tryz.call47 (fun _ _ _=>loopsOK_nil _ _ _)
def sEqSpareI:Sm:=inlM Tryz.prog {tb:=[(51,sEqIntR)]} 300 Tryz.f48
theorem sEqSpareI_ok:SmOK Tryz.prog 48 sEqSpareI:=inlM_ok mixed (E:={tb:=[(51,sEqIntR)]}) ⟨sEqIntR_ok,trivial⟩ Tryz.func48 Tryz.call48 (fun _ _ _=>loopsOK_nil _ _ _)
def sEqRefreshI:Sm:=inlM Tryz.prog {tb:=[(51,sEqIntR)]} 300 Tryz.f49
theorem sEqRefreshI_ok:SmOK Tryz.prog 49 sEqRefreshI:=inlM_ok mixed (E:={tb:=[(51,sEqIntR)]}) ⟨sEqIntR_ok,trivial⟩ Tryz.func49 Tryz.call49 (fun _ _ _=>loopsOK_nil _ _ _)
def sEqDrainI:Sm:=inlM Tryz.prog {tb:=[]} 300 Tryz.f55
theorem sEqDrainI_ok:SmOK Tryz.prog 55 sEqDrainI:=inlM_ok mixed (E:={tb:=[]}) trivial Tryz.func55 Tryz.call55 (fun _ _ _=>loopsOK_nil _ _ _)
def sEqPowerI:Sm:=inlM Tryz.prog {tb:=[]} 300 Tryz.f56
theorem sEqPowerI_ok:SmOK Tryz.prog 56 sEqPowerI:=inlM_ok mixed (E:={tb:=[]}) trivial Tryz.func56 Tryz.call56 (fun _ _ _=>loopsOK_nil _ _ _)
def sEqScrubberI:Sm:=inlM Tryz.prog {tb:=[]} 300 Tryz.f57
theorem sEqScrubberI_ok:SmOK Tryz.prog 57 sEqScrubberI:=inlM_ok mixed (E:={tb:=[]}) trivial Tryz.func57 Tryz.call57 (fun _ _ _=>loopsOK_nil _ _ _)
theorem eqCt_T (x:CtD)(o:Nat→Option Addr)(q:Nat→Nat)(so:Nat→Option Addr)(sc:Nat→Nat)(uo:Nat→Option Addr)(uc:Nat→Nat)(vo:Nat→Option Addr)(vc:Nat→Nat)(p:Nat→Option Addr)(r:Nat→Nat)(sp:Nat→Option Addr)(sq:Nat→Nat)(up:Nat→Option Addr)(uq:Nat→Nat)(vp:Nat→Option Addr)(vq:Nat→Nat):(exFn Tryz.prog {tb:=[(43,sEqConfigI),(44,sEqPolicyBoxI),(45,sEqRankI),(46,sEqReadyI),(47,sEqArrayI),(48,sEqSpareI),(49,sEqRefreshI),(50,sEqTs),(51,sEqIntR),(52,sEgS [true,true,true]),(53,sEgS [true,true,true,false,true,true]),(54,sEgS [true,true]),(55,sEqDrainI),(56,sEqPowerI),(57,sEqScrubberI),(58,sEgS [true,true,true]),(59,sEgS [true,true,true,true,true]),(60,sEgS [true,true,true,true])]} 400 Tryz.f9 ([.a (.agg (ctS 0 x o q)),.a (.agg (ctS 21 x p r))]) (ctR 0 x o q so sc uo uc vo vc ++ ctR 21 x p r sp sq up uq vp vq) (fun v _=>v.den=.bool true))=(
 (fun b:Value=>(fun c:Value=>(fun d:CD=>(fun g:CD=>(fun h:List (Nat→SC)=>(fun j:List (Nat→SC)=>(fun k:List (Nat→SC)=>(fun l:List (Nat→SC)=>(fun m:List (Nat→SC)=>(fun n:List (Nat→SC)=>(fun s:List (Nat→SC)=>∀ t u:Nat,t=t∧u=u∧∀ w y:Nat,w=w∧y=y∧∀ z B:Nat,z=z∧B=B∧(((x.1 0) != (x.1 0))=true→c=b)∧(((x.1 0) != (x.1 0))=false→z=z∧B=B∧(((x.1 1) != (x.1 1))=true→c=b)∧(((x.1 1) != (x.1 1))=false→z=z∧B=B∧(((x.1 2) != (x.1 2))=true→c=b)∧(((x.1 2) != (x.1 2))=false→z=z∧B=B∧(((x.1 3) != (x.1 3))=true→c=b)∧(((x.1 3) != (x.1 3))=false→w=w∧y=y∧∀ C D:Nat,C=C∧D=D∧(((x.1 4) != (x.1 4))=true→c=b)∧(((x.1 4) != (x.1 4))=false→C=C∧D=D∧(((x.1 5) != (x.1 5))=true→c=b)∧(((x.1 5) != (x.1 5))=false→C=C∧D=D∧(((x.1 6) != (x.1 6))=true→c=b)∧(((x.1 6) != (x.1 6))=false→C=C∧D=D∧(((x.1 7) != (x.1 7))=true→c=b)∧(((x.1 7) != (x.1 7))=false→C=C∧D=D∧(((x.1 8) != (x.1 8))=true→c=b)∧(((x.1 8) != (x.1 8))=false→C=C∧D=D∧(((x.1 9) != (x.1 9))=true→c=b)∧(((x.1 9) != (x.1 9))=false→C=C∧D=D∧(((x.1 10) != (x.1 10))=true→c=b)∧(((x.1 10) != (x.1 10))=false→C=C∧D=D∧(((x.1 11) != (x.1 11))=true→c=b)∧(((x.1 11) != (x.1 11))=false→C=C∧D=D∧(((x.1 12) != (x.1 12))=true→c=b)∧(((x.1 12) != (x.1 12))=false→C=C∧D=D∧(((x.1 13) != (x.1 13))=true→c=b)∧(((x.1 13) != (x.1 13))=false→C=C∧D=D∧(((x.1 14) != (x.1 14))=true→c=b)∧(((x.1 14) != (x.1 14))=false→C=C∧D=D∧(((x.1 15) != (x.1 15))=true→c=b)∧(((x.1 15) != (x.1 15))=false→C=C∧D=D∧(((x.1 16) != (x.1 16))=true→c=b)∧(((x.1 16) != (x.1 16))=false→C=C∧D=D∧(((x.1 17) != (x.1 17))=true→c=b)∧(((x.1 17) != (x.1 17))=false→C=C∧D=D∧(((x.1 18) != (x.1 18))=true→c=b)∧(((x.1 18) != (x.1 18))=false→C=C∧D=D∧(((x.1 19) != (x.1 19))=true→c=b)∧(((x.1 19) != (x.1 19))=false→C=C∧D=D∧(((x.1 20) != (x.1 20))=true→c=b)∧(((x.1 20) != (x.1 20))=false→w=w∧y=y∧∀ E F:Nat,E=E∧F=F∧(((x.1 21) != (x.1 21))=true→c=b)∧(((x.1 21) != (x.1 21))=false→E=E∧F=F∧(((x.2 0) != (x.2 0))=true→c=b)∧(((x.2 0) != (x.2 0))=false→w=w∧y=y∧(((x.1 22) != (x.1 22))=true→c=b)∧(((x.1 22) != (x.1 22))=false→w=w∧y=y∧(((x.1 23) != (x.1 23))=true→c=b)∧(((x.1 23) != (x.1 23))=false→w=w∧y=y∧(((x.1 24) != (x.1 24))=true→c=b)∧(((x.1 24) != (x.1 24))=false→w=w∧y=y∧∀ G H:Nat,G=G∧H=H∧(((x.1 25) != (x.1 25))=true→c=b)∧(((x.1 25) != (x.1 25))=false→G=G∧H=H∧(((x.1 26) != (x.1 26))=true→c=b)∧(((x.1 26) != (x.1 26))=false→t=t∧u=u∧∀ I J:Nat,I=I∧J=J∧∀ K L:Nat,K=K∧L=L∧(((x.1 27) != (x.1 27))=true→c=b)∧(((x.1 27) != (x.1 27))=false→K=K∧L=L∧(((x.1 28) != (x.1 28))=true→c=b)∧(((x.1 28) != (x.1 28))=false→K=K∧L=L∧(((x.1 29) != (x.1 29))=true→c=b)∧(((x.1 29) != (x.1 29))=false→K=K∧L=L∧(((x.1 30) != (x.1 30))=true→c=b)∧(((x.1 30) != (x.1 30))=false→K=K∧L=L∧(((x.1 31) != (x.1 31))=true→c=b)∧(((x.1 31) != (x.1 31))=false→K=K∧L=L∧∃ M:Nat→Int,((o 0)=(o 0)∧(x.3 0)=(x.3 0)∧[fun N=>Ci (x.4 0 0 N)]=[fun N=>Ci (M N)])∧∃ N:Nat→Int,((p 0)=(p 0)∧(x.3 0)=(x.3 0)∧[fun O=>Ci (x.4 0 0 O)]=[fun O=>Ci (N O)])∧((x.3 0)=(x.3 0)∧capC (x.3 0)∧∀ O:Nat,O<(x.3 0)→(M O)=(N O))∧K=K∧L=L∧∀ O P:Nat,O=O∧P=P∧(((x.1 32) != (x.1 32))=true→c=b)∧(((x.1 32) != (x.1 32))=false→O=O∧P=P∧(((x.1 33) != (x.1 33))=true→c=b)∧(((x.1 33) != (x.1 33))=false→I=I∧J=J∧∀ Q R:Nat,Q=Q∧R=R∧(((x.1 34) != (x.1 34))=true→c=b)∧(((x.1 34) != (x.1 34))=false→Q=Q∧R=R∧(((x.1 35) != (x.1 35))=true→c=b)∧(((x.1 35) != (x.1 35))=false→Q=Q∧R=R∧(((x.1 36) != (x.1 36))=true→c=b)∧(((x.1 36) != (x.1 36))=false→Q=Q∧R=R∧(((x.1 37) != (x.1 37))=true→c=b)∧(((x.1 37) != (x.1 37))=false→Q=Q∧R=R∧(((x.1 38) != (x.1 38))=true→c=b)∧(((x.1 38) != (x.1 38))=false→Q=Q∧R=R∧∃ S:Nat→Int,((o 1)=(o 1)∧(x.3 1)=(x.3 1)∧[fun T=>Ci (x.4 1 0 T)]=[fun T=>Ci (S T)])∧∃ T:Nat→Int,((p 1)=(p 1)∧(x.3 1)=(x.3 1)∧[fun U=>Ci (x.4 1 0 U)]=[fun U=>Ci (T U)])∧((x.3 1)=(x.3 1)∧capC (x.3 1)∧∀ U:Nat,U<(x.3 1)→(S U)=(T U))∧Q=Q∧R=R∧∀ U V:Nat,U=U∧V=V∧(((x.1 39) != (x.1 39))=true→c=b)∧(((x.1 39) != (x.1 39))=false→U=U∧V=V∧(((x.1 40) != (x.1 40))=true→c=b)∧(((x.1 40) != (x.1 40))=false→I=I∧J=J∧(((x.2 1) != (x.2 1))=true→c=b)∧(((x.2 1) != (x.2 1))=false→t=t∧u=u∧(((x.1 41) != (x.1 41))=true→c=b)∧(((x.1 41) != (x.1 41))=false→t=t∧u=u∧∀ W X:Nat,W=W∧X=X∧∃(Y:Nat→Nat→Int) (Z:Nat→Nat→Bool),(fun aa:List (Nat→SC)=>((o 2)=(o 2)∧(x.3 2)=(x.3 2)∧h=aa∧(p 2)=(p 2)∧(x.3 2)=(x.3 2)∧h=aa∧(x.3 2)=(x.3 2)∧capC (x.3 2))∧W=W∧X=X∧(((x.1 42) != (x.1 42))=true→c=b)∧(((x.1 42) != (x.1 42))=false→t=t∧u=u∧∀ ab ac:Nat,ab=ab∧ac=ac∧∃ ad:Nat→Int,((o 3)=(o 3)∧(x.3 3)=(x.3 3)∧[fun af=>Ci (x.4 3 0 af)]=[fun af=>Ci (ad af)])∧∃ af:Nat→Int,((p 3)=(p 3)∧(x.3 3)=(x.3 3)∧[fun ag=>Ci (x.4 3 0 ag)]=[fun ag=>Ci (af ag)])∧((x.3 3)=(x.3 3)∧capC (x.3 3)∧∀ ag:Nat,ag<(x.3 3)→(ad ag)=(af ag))∧ab=ab∧ac=ac∧∃ ag:Nat→Int,((o 4)=(o 4)∧(x.3 4)=(x.3 4)∧[fun ah=>Ci (x.4 4 0 ah)]=[fun ah=>Ci (ag ah)])∧∃ ah:Nat→Int,((p 4)=(p 4)∧(x.3 4)=(x.3 4)∧[fun aj=>Ci (x.4 4 0 aj)]=[fun aj=>Ci (ah aj)])∧((x.3 4)=(x.3 4)∧capC (x.3 4)∧∀ aj:Nat,aj<(x.3 4)→(ag aj)=(ah aj))∧t=t∧u=u∧∀ aj ak:Nat,aj=aj∧ak=ak∧∃(al:Nat) (am:CD) (an:Nat→Option Addr) (ao ap:Nat→Nat),((symRows false 0 x.6 so (fun aq=>0))=(symRows false al am an ap)∧[fun aq=>Cs 18 (so aq) (x.6.2 aq) (sc aq),fun aq=>Cb (x.6.4 aq)]=[fun aq=>Cs 18 (an aq) (am.2 aq) (ao aq),fun aq=>Cb (am.4 aq)]∧(o 5)=(o 5)∧x.6.1=x.6.1∧x.6.1=am.1)∧∃(aq:Nat) (ar:CD) (au:Nat→Option Addr) (av aw:Nat→Nat),((symRows false 0 x.6 sp (fun ax=>0))=(symRows false aq ar au aw)∧[fun ax=>Cs 39 (sp ax) (x.6.2 ax) (sq ax),fun ax=>Cb (x.6.4 ax)]=[fun ax=>Cs 39 (au ax) (ar.2 ax) (av ax),fun ax=>Cb (ar.4 ax)]∧(p 5)=(p 5)∧x.6.1=x.6.1∧x.6.1=ar.1)∧(ar=am∧capK am)∧aj=aj∧ak=ak∧∃ ax:Nat→Int,((o 6)=(o 6)∧(x.3 6)=(x.3 6)∧[fun ay=>Ci (x.4 6 0 ay)]=[fun ay=>Ci (ax ay)])∧∃ ay:Nat→Int,((p 6)=(p 6)∧(x.3 6)=(x.3 6)∧[fun az=>Ci (x.4 6 0 az)]=[fun az=>Ci (ay az)])∧((x.3 6)=(x.3 6)∧capC (x.3 6)∧∀ az:Nat,az<(x.3 6)→(ax az)=(ay az))∧aj=aj∧ak=ak∧∃ az:Nat→Int,((o 7)=(o 7)∧(x.3 7)=(x.3 7)∧[fun aA=>Ci (x.4 7 0 aA)]=[fun aA=>Ci (az aA)])∧∃ aA:Nat→Int,((p 7)=(p 7)∧(x.3 7)=(x.3 7)∧[fun aB=>Ci (x.4 7 0 aB)]=[fun aB=>Ci (aA aB)])∧((x.3 7)=(x.3 7)∧capC (x.3 7)∧∀ aB:Nat,aB<(x.3 7)→(az aB)=(aA aB))∧t=t∧u=u∧∀ aB aC:Nat,aB=aB∧aC=aC∧(((x.1 43) != (x.1 43))=true→c=b)∧(((x.1 43) != (x.1 43))=false→aB=aB∧aC=aC∧∃ aD:Nat→Int,((o 8)=(o 8)∧(x.3 8)=(x.3 8)∧[fun aE=>Ci (x.4 8 0 aE)]=[fun aE=>Ci (aD aE)])∧∃ aE:Nat→Int,((p 8)=(p 8)∧(x.3 8)=(x.3 8)∧[fun aF=>Ci (x.4 8 0 aF)]=[fun aF=>Ci (aE aF)])∧((x.3 8)=(x.3 8)∧capC (x.3 8)∧∀ aF:Nat,aF<(x.3 8)→(aD aF)=(aE aF))∧t=t∧u=u∧∀ aF aG:Nat,aF=aF∧aG=aG∧∃ aH:Nat→Int,((o 9)=(o 9)∧(x.3 9)=(x.3 9)∧[fun aI=>Ci (x.4 9 0 aI)]=[fun aI=>Ci (aH aI)])∧∃ aI:Nat→Int,((p 9)=(p 9)∧(x.3 9)=(x.3 9)∧[fun aJ=>Ci (x.4 9 0 aJ)]=[fun aJ=>Ci (aI aJ)])∧((x.3 9)=(x.3 9)∧capC (x.3 9)∧∀ aJ:Nat,aJ<(x.3 9)→(aH aJ)=(aI aJ))∧aF=aF∧aG=aG∧(((x.1 44) != (x.1 44))=true→c=b)∧(((x.1 44) != (x.1 44))=false→aF=aF∧aG=aG∧(((x.2 2) != (x.2 2))=true→c=b)∧(((x.2 2) != (x.2 2))=false→t=t∧u=u∧∃(aJ aK:Nat) (aL:TK) (aM:Nat→Option Addr) (aN aO:Nat→Nat) (aP:Nat→Option Addr) (aQ aR:Nat→Nat),((symRows false 0 g uo (fun aS=>0))=(symRows false aJ (CD.mk aL.1 aL.2 aL.3 (fun aS=>false)) aM aO)∧(symRows false 0 d vo (fun aS=>0))=(symRows false aK (CD.mk aL.1 aL.4 aL.5 (fun aS=>false)) aP aR)∧[fun aS=>Cs 19 (uo aS) (x.7.2 aS) (uc aS),fun aS=>Cs 20 (vo aS) (x.7.4 aS) (vc aS),fun aS=>Ci (x.7.6 aS)]=[fun aS=>Cs 19 (aM aS) (aL.2 aS) (aN aS),fun aS=>Cs 20 (aP aS) (aL.4 aS) (aQ aS),fun aS=>Ci (aL.6 aS)]∧(o 10)=(o 10)∧x.7.1=x.7.1∧x.7.1=aL.1)∧∃(aS aT:Nat) (aU:TK) (aV:Nat→Option Addr) (aW aX:Nat→Nat) (aY:Nat→Option Addr) (aZ a0:Nat→Nat),((symRows false 0 g up (fun a1=>0))=(symRows false aS (CD.mk aU.1 aU.2 aU.3 (fun a1=>false)) aV aX)∧(symRows false 0 d vp (fun a1=>0))=(symRows false aT (CD.mk aU.1 aU.4 aU.5 (fun a1=>false)) aY a0)∧[fun a1=>Cs 40 (up a1) (x.7.2 a1) (uq a1),fun a1=>Cs 41 (vp a1) (x.7.4 a1) (vq a1),fun a1=>Ci (x.7.6 a1)]=[fun a1=>Cs 40 (aV a1) (aU.2 a1) (aW a1),fun a1=>Cs 41 (aY a1) (aU.4 a1) (aZ a1),fun a1=>Ci (aU.6 a1)]∧(p 10)=(p 10)∧x.7.1=x.7.1∧x.7.1=aU.1)∧(aU=aL∧capT aL)∧t=t∧u=u∧∃ a1:Nat→Int,((o 11)=(o 11)∧(x.3 11)=(x.3 11)∧[fun a2=>Ci (x.4 11 0 a2)]=[fun a2=>Ci (a1 a2)])∧∃ a2:Nat→Int,((p 11)=(p 11)∧(x.3 11)=(x.3 11)∧[fun a3=>Ci (x.4 11 0 a3)]=[fun a3=>Ci (a2 a3)])∧((x.3 11)=(x.3 11)∧capC (x.3 11)∧∀ a3:Nat,a3<(x.3 11)→(a1 a3)=(a2 a3))∧t=t∧u=u∧∃(a3:Nat→Nat→Int) (a4:Nat→Nat→Bool),(fun a5:List (Nat→SC)=>((o 12)=(o 12)∧(x.3 12)=(x.3 12)∧l=a5∧(p 12)=(p 12)∧(x.3 12)=(x.3 12)∧l=a5∧(x.3 12)=(x.3 12)∧capC (x.3 12))∧t=t∧u=u∧∃(a6:Nat→Nat→Int) (a7:Nat→Nat→Bool),(fun a8:List (Nat→SC)=>((o 13)=(o 13)∧(x.3 13)=(x.3 13)∧s=a8∧(p 13)=(p 13)∧(x.3 13)=(x.3 13)∧s=a8∧(x.3 13)=(x.3 13)∧capC (x.3 13))∧t=t∧u=u∧∃(a9:Nat→Nat→Int) (ba:Nat→Nat→Bool),(fun bb:List (Nat→SC)=>((o 14)=(o 14)∧(x.3 14)=(x.3 14)∧j=bb∧(p 14)=(p 14)∧(x.3 14)=(x.3 14)∧j=bb∧(x.3 14)=(x.3 14)∧capC (x.3 14))∧t=t∧u=u∧∀ bc bd:Nat,bc=bc∧bd=bd∧(((x.2 3) != (x.2 3))=true→c=b)∧(((x.2 3) != (x.2 3))=false→bc=bc∧bd=bd∧(((x.1 45) != (x.1 45))=true→c=b)∧(((x.1 45) != (x.1 45))=false→bc=bc∧bd=bd∧(((x.1 46) != (x.1 46))=true→c=b)∧(((x.1 46) != (x.1 46))=false→t=t∧u=u∧∀ bf bg:Nat,bf=bf∧bg=bg∧(((x.1 47) != (x.1 47))=true→c=b)∧(((x.1 47) != (x.1 47))=false→bf=bf∧bg=bg∧(((x.1 48) != (x.1 48))=true→c=b)∧(((x.1 48) != (x.1 48))=false→bf=bf∧bg=bg∧(((x.1 49) != (x.1 49))=true→c=b)∧(((x.1 49) != (x.1 49))=false→t=t∧u=u∧∀ bh bj:Nat,bh=bh∧bj=bj∧(((x.1 50) != (x.1 50))=true→c=b)∧(((x.1 50) != (x.1 50))=false→bh=bh∧bj=bj∧(((x.1 51) != (x.1 51))=true→c=b)∧(((x.1 51) != (x.1 51))=false→bh=bh∧bj=bj∧(((x.1 52) != (x.1 52))=true→c=b)∧(((x.1 52) != (x.1 52))=false→t=t∧u=u∧∃(bk:Nat→Nat→Int) (bl:Nat→Nat→Bool),(fun bm:List (Nat→SC)=>((o 15)=(o 15)∧(x.3 15)=(x.3 15)∧k=bm∧(p 15)=(p 15)∧(x.3 15)=(x.3 15)∧k=bm∧(x.3 15)=(x.3 15)∧capC (x.3 15))∧t=t∧u=u∧∃(bn:Nat→Nat→Int) (bo:Nat→Nat→Bool),(fun bp:List (Nat→SC)=>((o 16)=(o 16)∧(x.3 16)=(x.3 16)∧n=bp∧(p 16)=(p 16)∧(x.3 16)=(x.3 16)∧n=bp∧(x.3 16)=(x.3 16)∧capC (x.3 16))∧t=t∧u=u∧∃(bq:Nat→Nat→Int) (br:Nat→Nat→Bool),(fun bs:List (Nat→SC)=>((o 17)=(o 17)∧(x.3 17)=(x.3 17)∧m=bs∧(p 17)=(p 17)∧(x.3 17)=(x.3 17)∧m=bs∧(x.3 17)=(x.3 17)∧capC (x.3 17))∧b=b) [fun bs=>Ci (bq 0 bs),fun bs=>Ci (bq 1 bs),fun bs=>Ci (bq 2 bs),fun bs=>Ci (bq 3 bs)]) [fun bp=>Ci (bn 0 bp),fun bp=>Ci (bn 1 bp),fun bp=>Ci (bn 2 bp),fun bp=>Ci (bn 3 bp),fun bp=>Ci (bn 4 bp)]) [fun bm=>Ci (bk 0 bm),fun bm=>Ci (bk 1 bm),fun bm=>Ci (bk 2 bm)])))))))))) [fun bb=>Ci (a9 0 bb),fun bb=>Ci (a9 1 bb)]) [fun a8=>Ci (a6 0 a8),fun a8=>Ci (a6 1 a8),fun a8=>Ci (a6 2 a8),fun a8=>Cb (a7 3 a8),fun a8=>Ci (a6 4 a8),fun a8=>Ci (a6 5 a8)]) [fun a5=>Ci (a3 0 a5),fun a5=>Ci (a3 1 a5),fun a5=>Ci (a3 2 a5)]))))) [fun aa=>Cb (Z 0 aa),fun aa=>Ci (Y 1 aa)]))))))))))))))))))))))))))))))))))))))))))))) [fun s=>Ci (x.4 13 0 s),fun s=>Ci (x.4 13 1 s),fun s=>Ci (x.4 13 2 s),fun s=>Cb (x.5 13 3 s),fun s=>Ci (x.4 13 4 s),fun s=>Ci (x.4 13 5 s)]) [fun n=>Ci (x.4 16 0 n),fun n=>Ci (x.4 16 1 n),fun n=>Ci (x.4 16 2 n),fun n=>Ci (x.4 16 3 n),fun n=>Ci (x.4 16 4 n)]) [fun m=>Ci (x.4 17 0 m),fun m=>Ci (x.4 17 1 m),fun m=>Ci (x.4 17 2 m),fun m=>Ci (x.4 17 3 m)]) [fun l=>Ci (x.4 12 0 l),fun l=>Ci (x.4 12 1 l),fun l=>Ci (x.4 12 2 l)]) [fun k=>Ci (x.4 15 0 k),fun k=>Ci (x.4 15 1 k),fun k=>Ci (x.4 15 2 k)]) [fun j=>Ci (x.4 14 0 j),fun j=>Ci (x.4 14 1 j)]) [fun h=>Cb (x.5 2 0 h),fun h=>Ci (x.4 2 1 h)]) (CD.mk x.7.1 x.7.2 x.7.3 (fun g=>false))) (CD.mk x.7.1 x.7.4 x.7.5 (fun d=>false))) (Wb false)) (Wb true)):=by kernel_rfl
theorem eqCt_any (x:CtD)(o:Nat→Option Addr)(q:Nat→Nat)(so:Nat→Option Addr)(sc:Nat→Nat)(uo:Nat→Option Addr)(uc:Nat→Nat)(vo:Nat→Option Addr)(vc:Nat→Nat)(p:Nat→Option Addr)(r:Nat→Nat)(sp:Nat→Option Addr)(sq:Nat→Nat)(up:Nat→Option Addr)(uq:Nat→Nat)(vp:Nat→Option Addr)(vq:Nat→Nat)(w:World)(hA:∀ c∈ctR 0 x o q so sc uo uc vo vc ++ ctR 21 x p r sp sq up uq vp vq,c.own=false∧c.sat w)(hcap:capCt x):Calls Tryz.prog 9 #[ctV x o q,ctV x p r] w fun e w'=>e=.returned (.bool true)∧Below w.heap.size w w':=by
 refine fnB (tb:=[(43,sEqConfigI),(44,sEqPolicyBoxI),(45,sEqRankI),(46,sEqReadyI),(47,sEqArrayI),(48,sEqSpareI),(49,sEqRefreshI),(50,sEqTs),(51,sEqIntR),(52,sEgS [true,true,true]),(53,sEgS [true,true,true,false,true,true]),(54,sEgS [true,true]),(55,sEqDrainI),(56,sEqPowerI),(57,sEqScrubberI),(58,sEgS [true,true,true]),(59,sEgS [true,true,true,true,true]),(60,sEgS [true,true,true,true])]) ⟨sEqConfigI_ok,sEqPolicyBoxI_ok,sEqRankI_ok,sEqReadyI_ok,sEqArrayI_ok,sEqSpareI_ok,sEqRefreshI_ok,sEqTs_ok,sEqIntR_ok,sEqAddrS_ok,sEqRequestS_ok,sEqShareS_ok,sEqDrainI_ok,sEqPowerI_ok,sEqScrubberI_ok,sEqErrorEntryS_ok,sEqEventS_ok,sEqReplyS_ok,trivial⟩ Tryz.func9 (@Eq.mpr _ _ (eqCt_T x o q so sc uo uc vo vc p r sp sq up uq vp vq) ?_) (HS.seenAll (fun _=>False) _ hA) (fun v ch' w' hv hs=>⟨by rw [hv],hs.below⟩)
 dsimp -zeta -proj -iota -eta -failIfUnchanged (etaStruct:=.none) only
 clear hA
 obtain ⟨hn,hc,ht⟩:=hcap
 have n0:capC (x.n 0):=hn.1
 have n1:capC (x.n 1):=hn.2.1
 have n2:capC (x.n 2):=hn.2.2.1
 have n3:capC (x.n 3):=hn.2.2.2.1
 have n4:capC (x.n 4):=hn.2.2.2.2.1
 have n6:capC (x.n 6):=hn.2.2.2.2.2.1
 have n7:capC (x.n 7):=hn.2.2.2.2.2.2.1
 have n8:capC (x.n 8):=hn.2.2.2.2.2.2.2.1
 have n9:capC (x.n 9):=hn.2.2.2.2.2.2.2.2.1
 have n11:capC (x.n 11):=hn.2.2.2.2.2.2.2.2.2.1
 have n12:capC (x.n 12):=hn.2.2.2.2.2.2.2.2.2.2.1
 have n13:capC (x.n 13):=hn.2.2.2.2.2.2.2.2.2.2.2.1
 have n14:capC (x.n 14):=hn.2.2.2.2.2.2.2.2.2.2.2.2.1
 have n15:capC (x.n 15):=hn.2.2.2.2.2.2.2.2.2.2.2.2.2.1
 have n16:capC (x.n 16):=hn.2.2.2.2.2.2.2.2.2.2.2.2.2.2.1
 have n17:capC (x.n 17):=hn.2.2.2.2.2.2.2.2.2.2.2.2.2.2.2
 clear hn
 repeat' (first
  | with_reducible exact rfl
  | exact True.intro
  | with_reducible assumption
  | exact hc
  | exact ht
  | refine And.intro ?_ ?_
  | apply Exists.intro
  | (intro h;exfalso;simp at h;done)
  | (intro i hi;with_reducible exact rfl)
  | intro _
  | exact rfl
  | exact false)
theorem symRows_obj {w:World}{x:CD}{so:Nat→Option Addr}{sc:Nat→Nat}(h:∀ r∈symRows false 0 x so sc,r.own=false∧r.sat w):(Ch.obj false (symRows false 0 x so sc)).sat w:=⟨fun r hr=>h r hr,fun e=>by cases e⟩
theorem ct_seenO {w:World}{x:CtD}{o:Nat→Option Addr}{q:Nat→Nat}{so:Nat→Option Addr}{sc:Nat→Nat}{uo:Nat→Option Addr}{uc:Nat→Nat}{vo:Nat→Option Addr}{vc:Nat→Nat}(h:∀ r∈flatC (ctO 0 x o q so sc uo uc vo vc),r.sat w)(k:Nat):∀ c∈ctR k x o q so sc uo uc vo vc,c.own=false∧c.sat w:=by
 intro c hc
 simp only [ctR,List.mem_cons,List.not_mem_nil,or_false] at hc
 rcases hc with rfl | rfl | rfl | rfl | rfl | rfl | rfl | rfl | rfl | rfl | rfl | rfl | rfl | rfl | rfl | rfl | rfl | rfl | rfl | rfl | rfl
 ·exact ⟨rfl,Row.reF (seenAs' (h _ mem0) rfl rfl) ⟨fun i hi=>rfl,trivial⟩⟩
 ·exact ⟨rfl,Row.reF (seenAs' (h _ (memS mem0)) rfl rfl) ⟨fun i hi=>rfl,trivial⟩⟩
 ·exact ⟨rfl,Row.reF (seenAs' (h _ (memS (memS mem0))) rfl rfl) ⟨fun i hi=>rfl,fun i hi=>rfl,trivial⟩⟩
 ·exact ⟨rfl,Row.reF (seenAs' (h _ (memS (memS (memS mem0)))) rfl rfl) ⟨fun i hi=>rfl,trivial⟩⟩
 ·exact ⟨rfl,Row.reF (seenAs' (h _ (memS (memS (memS (memS mem0))))) rfl rfl) ⟨fun i hi=>rfl,trivial⟩⟩
 ·exact ⟨rfl,Row.reF (seenAs' (h _ (memS (memS (memS (memS (memS mem0)))))) rfl rfl) ⟨fun i hi=>rfl,fun i hi=>rfl,trivial⟩⟩
 ·exact ⟨rfl,Row.reF (seenAs' (h _ (memS (memS (memS (memS (memS (memS mem0))))))) rfl rfl) ⟨fun i hi=>rfl,trivial⟩⟩
 ·exact ⟨rfl,Row.reF (seenAs' (h _ (memS (memS (memS (memS (memS (memS (memS mem0)))))))) rfl rfl) ⟨fun i hi=>rfl,trivial⟩⟩
 ·exact ⟨rfl,Row.reF (seenAs' (h _ (memS (memS (memS (memS (memS (memS (memS (memS mem0))))))))) rfl rfl) ⟨fun i hi=>rfl,trivial⟩⟩
 ·exact ⟨rfl,Row.reF (seenAs' (h _ (memS (memS (memS (memS (memS (memS (memS (memS (memS mem0)))))))))) rfl rfl) ⟨fun i hi=>rfl,trivial⟩⟩
 ·exact ⟨rfl,Row.reF (seenAs' (h _ (memS (memS (memS (memS (memS (memS (memS (memS (memS (memS mem0))))))))))) rfl rfl) ⟨fun i hi=>rfl,fun i hi=>rfl,fun i hi=>rfl,trivial⟩⟩
 ·exact ⟨rfl,Row.reF (seenAs' (h _ (memS (memS (memS (memS (memS (memS (memS (memS (memS (memS (memS mem0)))))))))))) rfl rfl) ⟨fun i hi=>rfl,trivial⟩⟩
 ·exact ⟨rfl,Row.reF (seenAs' (h _ (memS (memS (memS (memS (memS (memS (memS (memS (memS (memS (memS (memS mem0))))))))))))) rfl rfl) ⟨fun i hi=>rfl,fun i hi=>rfl,fun i hi=>rfl,trivial⟩⟩
 ·exact ⟨rfl,Row.reF (seenAs' (h _ (memS (memS (memS (memS (memS (memS (memS (memS (memS (memS (memS (memS (memS mem0)))))))))))))) rfl rfl) ⟨fun i hi=>rfl,fun i hi=>rfl,fun i hi=>rfl,fun i hi=>rfl,fun i hi=>rfl,fun i hi=>rfl,trivial⟩⟩
 ·exact ⟨rfl,Row.reF (seenAs' (h _ (memS (memS (memS (memS (memS (memS (memS (memS (memS (memS (memS (memS (memS (memS mem0))))))))))))))) rfl rfl) ⟨fun i hi=>rfl,fun i hi=>rfl,trivial⟩⟩
 ·exact ⟨rfl,Row.reF (seenAs' (h _ (memS (memS (memS (memS (memS (memS (memS (memS (memS (memS (memS (memS (memS (memS (memS mem0)))))))))))))))) rfl rfl) ⟨fun i hi=>rfl,fun i hi=>rfl,fun i hi=>rfl,trivial⟩⟩
 ·exact ⟨rfl,Row.reF (seenAs' (h _ (memS (memS (memS (memS (memS (memS (memS (memS (memS (memS (memS (memS (memS (memS (memS (memS mem0))))))))))))))))) rfl rfl) ⟨fun i hi=>rfl,fun i hi=>rfl,fun i hi=>rfl,fun i hi=>rfl,fun i hi=>rfl,trivial⟩⟩
 ·exact ⟨rfl,Row.reF (seenAs' (h _ (memS (memS (memS (memS (memS (memS (memS (memS (memS (memS (memS (memS (memS (memS (memS (memS (memS mem0)))))))))))))))))) rfl rfl) ⟨fun i hi=>rfl,fun i hi=>rfl,fun i hi=>rfl,fun i hi=>rfl,trivial⟩⟩
 ·exact ⟨rfl,symRows_obj (symRows_seen fun r hr=>h r (memS (memS (memS (memS (memS (memS (memS (memS (memS (memS (memS (memS (memS (memS (memS (memS (memS (memS (List.mem_append_left _ hr))))))))))))))))))))⟩
 ·exact ⟨rfl,symRows_obj (symRows_seen fun r hr=>h r (memS (memS (memS (memS (memS (memS (memS (memS (memS (memS (memS (memS (memS (memS (memS (memS (memS (memS (List.mem_append_right _ (List.mem_append_left _ hr)))))))))))))))))))))⟩
 ·exact ⟨rfl,symRows_obj (symRows_seen fun r hr=>h r (memS (memS (memS (memS (memS (memS (memS (memS (memS (memS (memS (memS (memS (memS (memS (memS (memS (memS (List.mem_append_right _ (List.mem_append_right _ (List.mem_append_left _ hr))))))))))))))))))))))⟩
theorem ct_seenR {w:World}{x:CtD}{o:Nat→Option Addr}{q:Nat→Nat}{so:Nat→Option Addr}{sc:Nat→Nat}{uo:Nat→Option Addr}{uc:Nat→Nat}{vo:Nat→Option Addr}{vc:Nat→Nat}(h:∀ r∈flatC (ctR 0 x o q so sc uo uc vo vc),r.sat w)(k:Nat):∀ c∈ctR k x o q so sc uo uc vo vc,c.own=false∧c.sat w:=by
 intro c hc
 simp only [ctR,List.mem_cons,List.not_mem_nil,or_false] at hc
 rcases hc with rfl | rfl | rfl | rfl | rfl | rfl | rfl | rfl | rfl | rfl | rfl | rfl | rfl | rfl | rfl | rfl | rfl | rfl | rfl | rfl | rfl
 ·exact ⟨rfl,Row.reF (seenAs' (h _ mem0) rfl rfl) ⟨fun i hi=>rfl,trivial⟩⟩
 ·exact ⟨rfl,Row.reF (seenAs' (h _ (memS mem0)) rfl rfl) ⟨fun i hi=>rfl,trivial⟩⟩
 ·exact ⟨rfl,Row.reF (seenAs' (h _ (memS (memS mem0))) rfl rfl) ⟨fun i hi=>rfl,fun i hi=>rfl,trivial⟩⟩
 ·exact ⟨rfl,Row.reF (seenAs' (h _ (memS (memS (memS mem0)))) rfl rfl) ⟨fun i hi=>rfl,trivial⟩⟩
 ·exact ⟨rfl,Row.reF (seenAs' (h _ (memS (memS (memS (memS mem0))))) rfl rfl) ⟨fun i hi=>rfl,trivial⟩⟩
 ·exact ⟨rfl,Row.reF (seenAs' (h _ (memS (memS (memS (memS (memS mem0)))))) rfl rfl) ⟨fun i hi=>rfl,fun i hi=>rfl,trivial⟩⟩
 ·exact ⟨rfl,Row.reF (seenAs' (h _ (memS (memS (memS (memS (memS (memS mem0))))))) rfl rfl) ⟨fun i hi=>rfl,trivial⟩⟩
 ·exact ⟨rfl,Row.reF (seenAs' (h _ (memS (memS (memS (memS (memS (memS (memS mem0)))))))) rfl rfl) ⟨fun i hi=>rfl,trivial⟩⟩
 ·exact ⟨rfl,Row.reF (seenAs' (h _ (memS (memS (memS (memS (memS (memS (memS (memS mem0))))))))) rfl rfl) ⟨fun i hi=>rfl,trivial⟩⟩
 ·exact ⟨rfl,Row.reF (seenAs' (h _ (memS (memS (memS (memS (memS (memS (memS (memS (memS mem0)))))))))) rfl rfl) ⟨fun i hi=>rfl,trivial⟩⟩
 ·exact ⟨rfl,Row.reF (seenAs' (h _ (memS (memS (memS (memS (memS (memS (memS (memS (memS (memS mem0))))))))))) rfl rfl) ⟨fun i hi=>rfl,fun i hi=>rfl,fun i hi=>rfl,trivial⟩⟩
 ·exact ⟨rfl,Row.reF (seenAs' (h _ (memS (memS (memS (memS (memS (memS (memS (memS (memS (memS (memS mem0)))))))))))) rfl rfl) ⟨fun i hi=>rfl,trivial⟩⟩
 ·exact ⟨rfl,Row.reF (seenAs' (h _ (memS (memS (memS (memS (memS (memS (memS (memS (memS (memS (memS (memS mem0))))))))))))) rfl rfl) ⟨fun i hi=>rfl,fun i hi=>rfl,fun i hi=>rfl,trivial⟩⟩
 ·exact ⟨rfl,Row.reF (seenAs' (h _ (memS (memS (memS (memS (memS (memS (memS (memS (memS (memS (memS (memS (memS mem0)))))))))))))) rfl rfl) ⟨fun i hi=>rfl,fun i hi=>rfl,fun i hi=>rfl,fun i hi=>rfl,fun i hi=>rfl,fun i hi=>rfl,trivial⟩⟩
 ·exact ⟨rfl,Row.reF (seenAs' (h _ (memS (memS (memS (memS (memS (memS (memS (memS (memS (memS (memS (memS (memS (memS mem0))))))))))))))) rfl rfl) ⟨fun i hi=>rfl,fun i hi=>rfl,trivial⟩⟩
 ·exact ⟨rfl,Row.reF (seenAs' (h _ (memS (memS (memS (memS (memS (memS (memS (memS (memS (memS (memS (memS (memS (memS (memS mem0)))))))))))))))) rfl rfl) ⟨fun i hi=>rfl,fun i hi=>rfl,fun i hi=>rfl,trivial⟩⟩
 ·exact ⟨rfl,Row.reF (seenAs' (h _ (memS (memS (memS (memS (memS (memS (memS (memS (memS (memS (memS (memS (memS (memS (memS (memS mem0))))))))))))))))) rfl rfl) ⟨fun i hi=>rfl,fun i hi=>rfl,fun i hi=>rfl,fun i hi=>rfl,fun i hi=>rfl,trivial⟩⟩
 ·exact ⟨rfl,Row.reF (seenAs' (h _ (memS (memS (memS (memS (memS (memS (memS (memS (memS (memS (memS (memS (memS (memS (memS (memS (memS mem0)))))))))))))))))) rfl rfl) ⟨fun i hi=>rfl,fun i hi=>rfl,fun i hi=>rfl,fun i hi=>rfl,trivial⟩⟩
 ·exact ⟨rfl,symRows_obj (symRows_seen fun r hr=>h r (memS (memS (memS (memS (memS (memS (memS (memS (memS (memS (memS (memS (memS (memS (memS (memS (memS (memS (List.mem_append_left _ hr))))))))))))))))))))⟩
 ·exact ⟨rfl,symRows_obj (symRows_seen fun r hr=>h r (memS (memS (memS (memS (memS (memS (memS (memS (memS (memS (memS (memS (memS (memS (memS (memS (memS (memS (List.mem_append_right _ (List.mem_append_left _ hr)))))))))))))))))))))⟩
 ·exact ⟨rfl,symRows_obj (symRows_seen fun r hr=>h r (memS (memS (memS (memS (memS (memS (memS (memS (memS (memS (memS (memS (memS (memS (memS (memS (memS (memS (List.mem_append_right _ (List.mem_append_right _ (List.mem_append_left _ hr))))))))))))))))))))))⟩
def isController (v:Value)(x:CtD)(rs:List Row):Prop:=∃ (o:Nat→Option Addr) (q:Nat→Nat) (so:Nat→Option Addr) (sc:Nat→Nat) (uo:Nat→Option Addr) (uc:Nat→Nat) (vo:Nat→Option Addr) (vc:Nat→Nat),v=ctV x o q∧(rs=flatC (ctR 0 x o q so sc uo uc vo vc)∨rs=flatC (ctO 0 x o q so sc uo uc vo vc))
theorem isCt_seen {v:Value}{x:CtD}{rs:List Row}{w:World}(h:isController v x rs)(hs:∀ r∈rs,r.sat w):∃ (o:Nat→Option Addr) (q:Nat→Nat) (so:Nat→Option Addr) (sc:Nat→Nat) (uo:Nat→Option Addr) (uc:Nat→Nat) (vo:Nat→Option Addr) (vc:Nat→Nat),v=ctV x o q∧∀ k,∀ c∈ctR k x o q so sc uo uc vo vc,c.own=false∧c.sat w:=by
 obtain ⟨o,q,so,sc,uo,uc,vo,vc,rfl,rfl | rfl⟩:=h
 ·exact ⟨o,q,so,sc,uo,uc,vo,vc,rfl,fun k=>ct_seenR hs k⟩
 ·exact ⟨o,q,so,sc,uo,uc,vo,vc,rfl,fun k=>ct_seenO hs k⟩
theorem ctO_own {k:Nat}{x:CtD}{o:Nat→Option Addr}{q:Nat→Nat}{so:Nat→Option Addr}{sc:Nat→Nat}{uo:Nat→Option Addr}{uc:Nat→Nat}{vo:Nat→Option Addr}{vc:Nat→Nat}:∀ c∈ctO k x o q so sc uo uc vo vc,ownRO c:=by
 intro c hc
 simp only [ctO,List.mem_cons,List.not_mem_nil,or_false] at hc
 rcases hc with rfl | rfl | rfl | rfl | rfl | rfl | rfl | rfl | rfl | rfl | rfl | rfl | rfl | rfl | rfl | rfl | rfl | rfl | rfl | rfl | rfl
 ·exact .inl ⟨_,rfl,rfl⟩
 ·exact .inl ⟨_,rfl,rfl⟩
 ·exact .inl ⟨_,rfl,rfl⟩
 ·exact .inl ⟨_,rfl,rfl⟩
 ·exact .inl ⟨_,rfl,rfl⟩
 ·exact .inl ⟨_,rfl,rfl⟩
 ·exact .inl ⟨_,rfl,rfl⟩
 ·exact .inl ⟨_,rfl,rfl⟩
 ·exact .inl ⟨_,rfl,rfl⟩
 ·exact .inl ⟨_,rfl,rfl⟩
 ·exact .inl ⟨_,rfl,rfl⟩
 ·exact .inl ⟨_,rfl,rfl⟩
 ·exact .inl ⟨_,rfl,rfl⟩
 ·exact .inl ⟨_,rfl,rfl⟩
 ·exact .inl ⟨_,rfl,rfl⟩
 ·exact .inl ⟨_,rfl,rfl⟩
 ·exact .inl ⟨_,rfl,rfl⟩
 ·exact .inl ⟨_,rfl,rfl⟩
 ·exact .inr ⟨_,rfl⟩
 ·exact .inr ⟨_,rfl⟩
 ·exact .inr ⟨_,rfl⟩
theorem wholeController {v:Value}{x:CtD}{rs:List Row}(h:isController v x rs):wholeC true v 75:=by
 obtain ⟨_,_,_,_,_,_,_,_,rfl,_⟩:=h
 exact ⟨_,rfl,rfl,List.all_eq_true.1 rfl⟩
def sEqCtO:Sm:=fun args ch k =>
 match args with
 | [.a (.c (.obj i v)),.a (.c (.obj j u))] =>
  match ch[i]?,ch[j]? with
  | some (.obj _ rs),some (.obj _ us)=>∃ x:CtD,(isController v x rs∧isController u x us∧capCt x)∧k (.a (.c (.lit true))) ch []
  | _,_=>False
 | _=>False
theorem sEqCtO_ok:SmOK Tryz.prog 9 sEqCtO:=by
 refine smB Tryz.call9 fun args ch k w X h0 hs=>?_
 unfold sEqCtO at h0
 split at h0
 ·rename_i i v j u
  split at h0
  ·rename_i own rs own' us hi hj
   obtain ⟨x,⟨hx,hy,hc⟩,h1⟩:=h0
   obtain ⟨o,q,so,sc,uo,uc,vo,vc,rfl,hA⟩:=isCt_seen hx fun r hr=>(hs.seeObj hi r hr).2
   obtain ⟨p,r,sp,sq,up,uq,vp,vq,rfl,hB⟩:=isCt_seen hy fun r hr=>(hs.seeObj hj r hr).2
   refine ⟨_,h1,?_⟩
   simp only [List.map_cons,List.map_nil,den_a,den_c,SA.den,den_obj]
   exact eqCt_any x o q so sc uo uc vo vc p r sp sq up uq vp vq w (fun c hc=>(List.mem_append.1 hc).elim (hA 0 c) (hB 21 c)) hc
  ·exact h0.elim
 ·exact h0.elim
end Go.Proofs.YtbhfabaofhhkeaaGreat

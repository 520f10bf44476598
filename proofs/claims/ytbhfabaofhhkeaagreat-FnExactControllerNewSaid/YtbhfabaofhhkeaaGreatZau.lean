/-
  FnExactControllerNew: a part of the walk (merged and squeezed by program: SxNd SxNe).
-/
import Derived.Test.YtbhfabaofhhkeaaGreatZap
import Derived.Test.YtbhfabaofhhkeaaGreatZat
namespace Go.Proofs.YtbhfabaofhhkeaaGreat
set_option linter.unusedVariables false
set_option linter.unusedSimpArgs false
open Go.RowKit
set_option maxRecDepth 100000
set_option maxHeartbeats 8000000
theorem smSub {P:Program}{f:FuncId}{S S':Sm}(h:SmOK P f S)(hi:∀ args ch k,S' args ch k→S args ch k):SmOK P f S':=⟨h.1,fun X args ch k w hS hs=>h.2 X args ch k w (hi args ch k hS) hs⟩
theorem copyPI_T (pPage:Int)(pCap:Int)(pLimit:Int)(pLow:Int)(pHigh:Int)(pWeightsO:Option Addr)(pWeightsN pWeightsC:Nat)(pWeightsg0:Nat→Int)(pRuleDown:Int)(pRuleSleep:Int):(exFn Tryz.prog {tb:=[]} 400 Tryz.f105 ([.a (.agg [.int pPage,.int pCap,.int pLimit,.int pLow,.int pHigh,.sl 0 pWeightsO pWeightsN pWeightsC,.int pRuleDown,.int pRuleSleep])]) ([.row ⟨false,pWeightsO,0,1,pWeightsN,0,[fun i=>.int (pWeightsg0 i)]⟩]) (fun v ch=>∃ (ro0:Option Addr) (rc0:Nat),OutR v ch (.agg #[.int .i64 (pPage),.int .i64 (pCap),.int .i64 (pLimit),.int .i64 (pLow),.int .i64 (pHigh),.slice ro0 (pWeightsN) rc0,.int .i64 (pRuleDown),.int .i64 (pRuleSleep)]) [.row ⟨true,ro0,3,1,pWeightsN,rc0,[fun i=>.int (pWeightsg0 i)]⟩]))=(
 ∀ b c d:Nat,b=b∧(d=d∧(pWeightsO=pWeightsO∧pWeightsN=pWeightsN)∧(∀ g:Nat,true=true)∧apC 0 pWeightsN 8)∧∀(g:Option Addr) (h:Nat),b=b∧b=b∧c=c∧c=c∧∃(j:Option Addr) (k:Nat),(Wa [Wi pPage,Wi pCap,Wi pLimit,Wi pLow,Wi pHigh,Ws g pWeightsN h,Wi pRuleDown,Wi pRuleSleep])=(Wa [Wi pPage,Wi pCap,Wi pLimit,Wi pLow,Wi pHigh,Ws j pWeightsN k,Wi pRuleDown,Wi pRuleSleep])∧((true=true∧g=j∧3=3∧1=1∧pWeightsN=pWeightsN∧h=k∧(∀ l:Nat,l<pWeightsN→(Wi (pWeightsg0 l))=(Wi (pWeightsg0 l)))∧True)∧True)∧true=true):=by kernel_rfl
theorem copyPI_any (pPage:Int)(pCap:Int)(pLimit:Int)(pLow:Int)(pHigh:Int)(pWeightsO:Option Addr)(pWeightsN pWeightsC:Nat)(pWeightsg0:Nat→Int)(pRuleDown:Int)(pRuleSleep:Int)(w:World)(hrpWeights:Row.sat w ⟨false,pWeightsO,0,1,pWeightsN,0,[fun i=>.int (pWeightsg0 i)]⟩)(hpre:capC pWeightsN):Calls Tryz.prog 105 #[.agg #[.int .i64 pPage,.int .i64 pCap,.int .i64 pLimit,.int .i64 pLow,.int .i64 pHigh,.slice pWeightsO pWeightsN pWeightsC,.int .i64 pRuleDown,.int .i64 pRuleSleep]] w fun e w'=>∃ (ro0:Option Addr) (rc0:Nat),e=.returned (.agg #[.int .i64 (pPage),.int .i64 (pCap),.int .i64 (pLimit),.int .i64 (pLow),.int .i64 (pHigh),.slice ro0 (pWeightsN) rc0,.int .i64 (pRuleDown),.int .i64 (pRuleSleep)])∧HS ⟨w,fun _=>False⟩ [.row ⟨true,ro0,3,1,pWeightsN,rc0,[fun i=>.int (pWeightsg0 i)]⟩] w':=by
 refine fnB (tb:=[]) trivial Tryz.func105 (@Eq.mpr _ _ (copyPI_T pPage pCap pLimit pLow pHigh pWeightsO pWeightsN pWeightsC pWeightsg0 pRuleDown pRuleSleep) ?_) (HS.rows (fun _=>False) [⟨false,pWeightsO,0,1,pWeightsN,0,[fun i=>.int (pWeightsg0 i)]⟩] (by simp;exact hrpWeights)) (fun v ch' w' ⟨ro0,rc0,hk⟩ hs=>⟨ro0,rc0,by rw [hk.1],hk.hs hs⟩)
 clear hrpWeights
 repeat' (first
  | exact rfl
  | exact True.intro
  | refine And.intro ?_ ?_
  | apply Exists.intro
  | assumption
  | omega
  | intro _)
theorem copyPS_T (pPage:Int)(pCap:Int)(pLimit:Int)(pLow:Int)(pHigh:Int)(pWeightsO:Option Addr)(pWeightsN pWeightsC:Nat)(pWeightsg0:Nat→Int)(pRuleDown:Int)(pRuleSleep:Int):(exFn Tryz.prog {tb:=[]} 400 Tryz.f96 ([.a (.agg [.int pPage,.int pCap,.int pLimit,.int pLow,.int pHigh,.sl 0 pWeightsO pWeightsN pWeightsC,.int pRuleDown,.int pRuleSleep])]) ([.row ⟨false,pWeightsO,0,1,pWeightsN,0,[fun i=>.int (pWeightsg0 i)]⟩]) (fun v ch=>∃ (ro0:Option Addr) (rc0:Nat),OutR v ch (.agg #[.int .i64 (pPage),.int .i64 (pCap),.int .i64 (pLimit),.int .i64 (pLow),.int .i64 (pHigh),.slice ro0 (pWeightsN) rc0,.int .i64 (pRuleDown),.int .i64 (pRuleSleep)]) [.row ⟨true,ro0,3,1,pWeightsN,rc0,[fun i=>.int (pWeightsg0 i)]⟩]))=(
 ∀ b c d:Nat,b=b∧(d=d∧(pWeightsO=pWeightsO∧pWeightsN=pWeightsN)∧(∀ g:Nat,true=true)∧apC 0 pWeightsN 8)∧∀(g:Option Addr) (h:Nat),b=b∧b=b∧c=c∧c=c∧∃(j:Option Addr) (k:Nat),(Wa [Wi pPage,Wi pCap,Wi pLimit,Wi pLow,Wi pHigh,Ws g pWeightsN h,Wi pRuleDown,Wi pRuleSleep])=(Wa [Wi pPage,Wi pCap,Wi pLimit,Wi pLow,Wi pHigh,Ws j pWeightsN k,Wi pRuleDown,Wi pRuleSleep])∧((true=true∧g=j∧3=3∧1=1∧pWeightsN=pWeightsN∧h=k∧(∀ l:Nat,l<pWeightsN→(Wi (pWeightsg0 l))=(Wi (pWeightsg0 l)))∧True)∧True)∧true=true):=by kernel_rfl
theorem copyPS_any (pPage:Int)(pCap:Int)(pLimit:Int)(pLow:Int)(pHigh:Int)(pWeightsO:Option Addr)(pWeightsN pWeightsC:Nat)(pWeightsg0:Nat→Int)(pRuleDown:Int)(pRuleSleep:Int)(w:World)(hrpWeights:Row.sat w ⟨false,pWeightsO,0,1,pWeightsN,0,[fun i=>.int (pWeightsg0 i)]⟩)(hpre:capC pWeightsN):Calls Tryz.prog 96 #[.agg #[.int .i64 pPage,.int .i64 pCap,.int .i64 pLimit,.int .i64 pLow,.int .i64 pHigh,.slice pWeightsO pWeightsN pWeightsC,.int .i64 pRuleDown,.int .i64 pRuleSleep]] w fun e w'=>∃ (ro0:Option Addr) (rc0:Nat),e=.returned (.agg #[.int .i64 (pPage),.int .i64 (pCap),.int .i64 (pLimit),.int .i64 (pLow),.int .i64 (pHigh),.slice ro0 (pWeightsN) rc0,.int .i64 (pRuleDown),.int .i64 (pRuleSleep)])∧HS ⟨w,fun _=>False⟩ [.row ⟨true,ro0,3,1,pWeightsN,rc0,[fun i=>.int (pWeightsg0 i)]⟩] w':=by
 refine fnB (tb:=[]) trivial Tryz.func96 (@Eq.mpr _ _ (copyPS_T pPage pCap pLimit pLow pHigh pWeightsO pWeightsN pWeightsC pWeightsg0 pRuleDown pRuleSleep) ?_) (HS.rows (fun _=>False) [⟨false,pWeightsO,0,1,pWeightsN,0,[fun i=>.int (pWeightsg0 i)]⟩] (by simp;exact hrpWeights)) (fun v ch' w' ⟨ro0,rc0,hk⟩ hs=>⟨ro0,rc0,by rw [hk.1],hk.hs hs⟩)
 clear hrpWeights
 repeat' (first
  | exact rfl
  | exact True.intro
  | refine And.intro ?_ ?_
  | apply Exists.intro
  | assumption
  | omega
  | intro _)
def sCopyP:Sm:=fun args ch kk =>
 match args with
 | [.a (.agg [c0,c1,c2,c3,c4,.sl i0 a0 n0 d0,c5,c6])] =>
  match ch[i0]?,ints [c0,c1,c2,c3,c4,c5,c6] with
  | some (.row r0),some [pPage,pCap,pLimit,pLow,pHigh,pRuleDown,pRuleSleep]=>∃ pWeightsg0:Nat→Int,(a0=r0.ao∧n0=r0.n∧r0.fld=[fun i=>.int (pWeightsg0 i)]∧capC n0)∧∀ (ro0:Option Addr) (rc0:Nat),kk (.a (.agg [.int (pPage),.int (pCap),.int (pLimit),.int (pLow),.int (pHigh),.sl (ch.length) ro0 (n0) rc0,.int (pRuleDown),.int (pRuleSleep)])) (ch ++ [.row ⟨true,ro0,3,1,n0,rc0,[fun i=>.int (pWeightsg0 i)]⟩]) []
  | _,_=>False
 | _=>False
theorem sCopyP_ok {f:FuncId}(hc:∀ args w,(callFunc f args).run Tryz.prog w=.ok (.enter f args) w)(h:∀ (pPage:Int) (pCap:Int) (pLimit:Int) (pLow:Int) (pHigh:Int) (pWeightsO:Option Addr) (pWeightsN pWeightsC:Nat) (pWeightsg0:Nat→Int) (pRuleDown:Int) (pRuleSleep:Int) (w:World),Row.sat w ⟨false,pWeightsO,0,1,pWeightsN,0,[fun i=>.int (pWeightsg0 i)]⟩→capC pWeightsN→Calls Tryz.prog f #[.agg #[.int .i64 pPage,.int .i64 pCap,.int .i64 pLimit,.int .i64 pLow,.int .i64 pHigh,.slice pWeightsO pWeightsN pWeightsC,.int .i64 pRuleDown,.int .i64 pRuleSleep]] w fun e w'=>∃ (ro0:Option Addr) (rc0:Nat),e=.returned (.agg #[.int .i64 (pPage),.int .i64 (pCap),.int .i64 (pLimit),.int .i64 (pLow),.int .i64 (pHigh),.slice ro0 (pWeightsN) rc0,.int .i64 (pRuleDown),.int .i64 (pRuleSleep)])∧HS ⟨w,fun _=>False⟩ [.row ⟨true,ro0,3,1,pWeightsN,rc0,[fun i=>.int (pWeightsg0 i)]⟩] w'):SmOK Tryz.prog f sCopyP:=by
 refine smN hc fun args ch kk w X h0 hs=>?_
 unfold sCopyP at h0
 split at h0
 ·rename_i c0 c1 c2 c3 c4 i0 a0 n0 d0 c5 c6
  split at h0
  ·rename_i r0 pPage pCap pLimit pLow pHigh pRuleDown pRuleSleep hr0 hi
   obtain ⟨pWeightsg0,⟨rfl,rfl,hf0,hpre⟩,h0⟩:=h0
   obtain ⟨ec0,hi⟩:=ints_cons hi
   obtain ⟨ec1,hi⟩:=ints_cons hi
   obtain ⟨ec2,hi⟩:=ints_cons hi
   obtain ⟨ec3,hi⟩:=ints_cons hi
   obtain ⟨ec4,hi⟩:=ints_cons hi
   obtain ⟨ec5,hi⟩:=ints_cons hi
   obtain ⟨ec6,hi⟩:=ints_cons hi
   refine Calls.mono (?_:Calls Tryz.prog f _ w (fun e w'=>∃ (ro0:Option Addr) (rc0:Nat),e=.returned (.agg #[.int .i64 (pPage),.int .i64 (pCap),.int .i64 (pLimit),.int .i64 (pLow),.int .i64 (pHigh),.slice ro0 (r0.n) rc0,.int .i64 (pRuleDown),.int .i64 (pRuleSleep)])∧HS ⟨w,fun _=>False⟩ [.row ⟨true,ro0,3,1,r0.n,rc0,[fun i=>.int (pWeightsg0 i)]⟩] w')) (fun e w' ⟨ro0,rc0,he,hs'⟩=>⟨_,_,?_,hs',rfl,h0 ro0 rc0⟩)
   ·simp only [List.map_cons,List.map_nil,den_a,den_c,SA.den,den_sl,ec0,ec1,ec2,ec3,ec4,ec5,ec6]
    exact h pPage pCap pLimit pLow pHigh r0.ao r0.n d0 pWeightsg0 pRuleDown pRuleSleep w (Row.seenAs (hs.sat i0 _ hr0) hf0 rfl) hpre
   ·rw [he]
    rfl
  ·exact h0.elim
 ·exact h0.elim
theorem sCopyP_ok_copyPI:SmOK Tryz.prog 105 sCopyP:=sCopyP_ok Tryz.call105 (fun pPage pCap pLimit pLow pHigh pWeightsO pWeightsN pWeightsC pWeightsg0 pRuleDown pRuleSleep w h0 hp=>copyPI_any pPage pCap pLimit pLow pHigh pWeightsO pWeightsN pWeightsC pWeightsg0 pRuleDown pRuleSleep w h0 hp)
theorem sCopyP_ok_copyPS:SmOK Tryz.prog 96 sCopyP:=sCopyP_ok Tryz.call96 (fun pPage pCap pLimit pLow pHigh pWeightsO pWeightsN pWeightsC pWeightsg0 pRuleDown pRuleSleep w h0 hp=>copyPS_any pPage pCap pLimit pLow pHigh pWeightsO pWeightsN pWeightsC pWeightsg0 pRuleDown pRuleSleep w h0 hp)
theorem bnewI_T (pPage:Int)(pCap:Int)(pLimit:Int)(pLow:Int)(pHigh:Int)(pWeightsO:Option Addr)(pWeightsN pWeightsC:Nat)(pWeightsg0:Nat→Int)(pRuleDown:Int)(pRuleSleep:Int):(exFn Tryz.prog {tb:=[(100,sPolOk),(105,sCopyP)]} 400 Tryz.f36 ([.a (.agg [.int pPage,.int pCap,.int pLimit,.int pLow,.int pHigh,.sl 0 pWeightsO pWeightsN pWeightsC,.int pRuleDown,.int pRuleSleep])]) ([.row ⟨false,pWeightsO,0,1,pWeightsN,0,[fun i=>.int (pWeightsg0 i)]⟩]) (fun v ch=>∃ (ro0:Option Addr) (rc0:Nat) (ro1:Option Addr) (rc1:Nat),OutR v ch (.tuple #[.agg #[.int .i64 (ifZ (polB pPage pCap pLimit pLow pHigh pWeightsN pWeightsg0 pRuleDown pRuleSleep) pPage),.int .i64 (ifZ (polB pPage pCap pLimit pLow pHigh pWeightsN pWeightsg0 pRuleDown pRuleSleep) pCap),.int .i64 (ifZ (polB pPage pCap pLimit pLow pHigh pWeightsN pWeightsg0 pRuleDown pRuleSleep) pLimit),.int .i64 (ifZ (polB pPage pCap pLimit pLow pHigh pWeightsN pWeightsg0 pRuleDown pRuleSleep) pLow),.int .i64 (ifZ (polB pPage pCap pLimit pLow pHigh pWeightsN pWeightsg0 pRuleDown pRuleSleep) pHigh),.slice ro0 (ifN (polB pPage pCap pLimit pLow pHigh pWeightsN pWeightsg0 pRuleDown pRuleSleep) pWeightsN) rc0,.int .i64 (ifZ (polB pPage pCap pLimit pLow pHigh pWeightsN pWeightsg0 pRuleDown pRuleSleep) pRuleDown),.int .i64 (ifZ (polB pPage pCap pLimit pLow pHigh pWeightsN pWeightsg0 pRuleDown pRuleSleep) pRuleSleep),.int .i64 (ifZ (polB pPage pCap pLimit pLow pHigh pWeightsN pWeightsg0 pRuleDown pRuleSleep) pPage),.int .i64 (ifZ (polB pPage pCap pLimit pLow pHigh pWeightsN pWeightsg0 pRuleDown pRuleSleep) pCap),.int .i64 (ifZ (polB pPage pCap pLimit pLow pHigh pWeightsN pWeightsg0 pRuleDown pRuleSleep) pLimit),.int .i64 (ifZ (polB pPage pCap pLimit pLow pHigh pWeightsN pWeightsg0 pRuleDown pRuleSleep) pLow),.int .i64 (ifZ (polB pPage pCap pLimit pLow pHigh pWeightsN pWeightsg0 pRuleDown pRuleSleep) pHigh),.slice ro1 (ifN (polB pPage pCap pLimit pLow pHigh pWeightsN pWeightsg0 pRuleDown pRuleSleep) pWeightsN) rc1,.int .i64 (ifZ (polB pPage pCap pLimit pLow pHigh pWeightsN pWeightsg0 pRuleDown pRuleSleep) pRuleDown),.int .i64 (ifZ (polB pPage pCap pLimit pLow pHigh pWeightsN pWeightsg0 pRuleDown pRuleSleep) pRuleSleep),.bool (false)],.bool (polB pPage pCap pLimit pLow pHigh pWeightsN pWeightsg0 pRuleDown pRuleSleep)]) [.row ⟨true,ro0,3,1,ifN (polB pPage pCap pLimit pLow pHigh pWeightsN pWeightsg0 pRuleDown pRuleSleep) pWeightsN,rc0,[fun i=>.int (pWeightsg0 i)]⟩,.row ⟨true,ro1,3,1,ifN (polB pPage pCap pLimit pLow pHigh pWeightsN pWeightsg0 pRuleDown pRuleSleep) pWeightsN,rc1,[fun i=>.int (pWeightsg0 i)]⟩]))=(
 (fun b:Value=>(fun c:Value=>(fun d:Prop=>(fun g:List (Nat→SC)=>(fun h:Bool=>(fun j:Value=>(fun k:Nat=>(fun l:Value=>(fun m:Value=>(fun n:Value=>(fun o:Value=>(fun p:Value=>(fun q:Value=>(fun r:Value=>∀ s t:Nat,s=s∧∃ u:Nat→Int,(fun w:Bool=>(pWeightsO=pWeightsO∧pWeightsN=pWeightsN∧g=[fun x=>Ci (u x)]∧d)∧(w=true→t=t∧t=t∧∃(x:Option Addr) (y:Nat) (z:Option Addr) (B:Nat),(Wu [Wa [b,b,b,b,b,Wn,b,b,b,b,b,b,b,Wn,b,b,c],c])=(Wu [Wa [o,m,p,l,n,Ws x k y,q,r,o,m,p,l,n,Ws z k B,q,r,c],j])∧((true=true∧(none:Option Addr)=x∧0=k∧0=y∧true=true)∧(true=true∧(none:Option Addr)=z∧0=k∧0=B∧true=true)∧True)∧true=true)∧(w=false→s=s∧s=s∧∃ x:Nat→Int,(pWeightsO=pWeightsO∧pWeightsN=pWeightsN∧g=[fun y=>Ci (x y)]∧d)∧∀(y:Option Addr) (z:Nat),True∧∃ B:Nat→Int,(pWeightsO=pWeightsO∧pWeightsN=pWeightsN∧g=[fun C=>Ci (B C)]∧d)∧∀(C:Option Addr) (D:Nat),True∧t=t∧True∧t=t∧∃(E:Option Addr) (F:Nat) (G:Option Addr) (H:Nat),(Wu [Wa [Wi pPage,Wi pCap,Wi pLimit,Wi pLow,Wi pHigh,Ws y pWeightsN z,Wi pRuleDown,Wi pRuleSleep,Wi pPage,Wi pCap,Wi pLimit,Wi pLow,Wi pHigh,Ws C pWeightsN D,Wi pRuleDown,Wi pRuleSleep,c],Wb true])=(Wu [Wa [o,m,p,l,n,Ws E k F,q,r,o,m,p,l,n,Ws G k H,q,r,c],j])∧((true=true∧y=E∧3=3∧1=1∧pWeightsN=k∧z=F∧(∀ I:Nat,I<pWeightsN→(Wi (x I))=(Wi (pWeightsg0 I)))∧True)∧(true=true∧C=G∧3=3∧1=1∧pWeightsN=k∧D=H∧(∀ I:Nat,I<pWeightsN→(Wi (B I))=(Wi (pWeightsg0 I)))∧True)∧True)∧true=true)) (! (polB pPage pCap pLimit pLow pHigh pWeightsN u pRuleDown pRuleSleep))) (Wi (ifZ h pRuleSleep))) (Wi (ifZ h pRuleDown))) (Wi (ifZ h pLimit))) (Wi (ifZ h pPage))) (Wi (ifZ h pHigh))) (Wi (ifZ h pCap))) (Wi (ifZ h pLow))) (ifN h pWeightsN)) (Wb h)) (polB pPage pCap pLimit pLow pHigh pWeightsN pWeightsg0 pRuleDown pRuleSleep)) [fun g=>Ci (pWeightsg0 g)]) (capC pWeightsN)) (Wb false)) (Wi 0)):=by kernel_rfl
theorem bnewI_any (pPage:Int)(pCap:Int)(pLimit:Int)(pLow:Int)(pHigh:Int)(pWeightsO:Option Addr)(pWeightsN pWeightsC:Nat)(pWeightsg0:Nat→Int)(pRuleDown:Int)(pRuleSleep:Int)(w:World)(hrpWeights:Row.sat w ⟨false,pWeightsO,0,1,pWeightsN,0,[fun i=>.int (pWeightsg0 i)]⟩)(hpre:capC pWeightsN):Calls Tryz.prog 36 #[.agg #[.int .i64 pPage,.int .i64 pCap,.int .i64 pLimit,.int .i64 pLow,.int .i64 pHigh,.slice pWeightsO pWeightsN pWeightsC,.int .i64 pRuleDown,.int .i64 pRuleSleep]] w fun e w'=>∃ (ro0:Option Addr) (rc0:Nat) (ro1:Option Addr) (rc1:Nat),e=.returned (.tuple #[.agg #[.int .i64 (ifZ (polB pPage pCap pLimit pLow pHigh pWeightsN pWeightsg0 pRuleDown pRuleSleep) pPage),.int .i64 (ifZ (polB pPage pCap pLimit pLow pHigh pWeightsN pWeightsg0 pRuleDown pRuleSleep) pCap),.int .i64 (ifZ (polB pPage pCap pLimit pLow pHigh pWeightsN pWeightsg0 pRuleDown pRuleSleep) pLimit),.int .i64 (ifZ (polB pPage pCap pLimit pLow pHigh pWeightsN pWeightsg0 pRuleDown pRuleSleep) pLow),.int .i64 (ifZ (polB pPage pCap pLimit pLow pHigh pWeightsN pWeightsg0 pRuleDown pRuleSleep) pHigh),.slice ro0 (ifN (polB pPage pCap pLimit pLow pHigh pWeightsN pWeightsg0 pRuleDown pRuleSleep) pWeightsN) rc0,.int .i64 (ifZ (polB pPage pCap pLimit pLow pHigh pWeightsN pWeightsg0 pRuleDown pRuleSleep) pRuleDown),.int .i64 (ifZ (polB pPage pCap pLimit pLow pHigh pWeightsN pWeightsg0 pRuleDown pRuleSleep) pRuleSleep),.int .i64 (ifZ (polB pPage pCap pLimit pLow pHigh pWeightsN pWeightsg0 pRuleDown pRuleSleep) pPage),.int .i64 (ifZ (polB pPage pCap pLimit pLow pHigh pWeightsN pWeightsg0 pRuleDown pRuleSleep) pCap),.int .i64 (ifZ (polB pPage pCap pLimit pLow pHigh pWeightsN pWeightsg0 pRuleDown pRuleSleep) pLimit),.int .i64 (ifZ (polB pPage pCap pLimit pLow pHigh pWeightsN pWeightsg0 pRuleDown pRuleSleep) pLow),.int .i64 (ifZ (polB pPage pCap pLimit pLow pHigh pWeightsN pWeightsg0 pRuleDown pRuleSleep) pHigh),.slice ro1 (ifN (polB pPage pCap pLimit pLow pHigh pWeightsN pWeightsg0 pRuleDown pRuleSleep) pWeightsN) rc1,.int .i64 (ifZ (polB pPage pCap pLimit pLow pHigh pWeightsN pWeightsg0 pRuleDown pRuleSleep) pRuleDown),.int .i64 (ifZ (polB pPage pCap pLimit pLow pHigh pWeightsN pWeightsg0 pRuleDown pRuleSleep) pRuleSleep),.bool (false)],.bool (polB pPage pCap pLimit pLow pHigh pWeightsN pWeightsg0 pRuleDown pRuleSleep)])∧HS ⟨w,fun _=>False⟩ [.row ⟨true,ro0,3,1,ifN (polB pPage pCap pLimit pLow pHigh pWeightsN pWeightsg0 pRuleDown pRuleSleep) pWeightsN,rc0,[fun i=>.int (pWeightsg0 i)]⟩,.row ⟨true,ro1,3,1,ifN (polB pPage pCap pLimit pLow pHigh pWeightsN pWeightsg0 pRuleDown pRuleSleep) pWeightsN,rc1,[fun i=>.int (pWeightsg0 i)]⟩] w':=by
 refine fnB (tb:=[(100,sPolOk),(105,sCopyP)]) ⟨sPolOk_ok_polI,sCopyP_ok_copyPI,trivial⟩ Tryz.func36 (@Eq.mpr _ _ (bnewI_T pPage pCap pLimit pLow pHigh pWeightsO pWeightsN pWeightsC pWeightsg0 pRuleDown pRuleSleep) ?_) (HS.rows (fun _=>False) [⟨false,pWeightsO,0,1,pWeightsN,0,[fun i=>.int (pWeightsg0 i)]⟩] (by simp;exact hrpWeights)) (fun v ch' w' ⟨ro0,rc0,ro1,rc1,hk⟩ hs=>⟨ro0,rc0,ro1,rc1,by rw [hk.1],hk.hs hs⟩)
 dsimp -zeta -proj -iota -eta -failIfUnchanged (etaStruct:=.none) only
 clear hrpWeights
 cases hp:polB pPage pCap pLimit pLow pHigh pWeightsN pWeightsg0 pRuleDown pRuleSleep
 all_goals
  repeat' (first
   | with_reducible exact rfl
   | exact True.intro
   | with_reducible assumption
   | refine And.intro ?_ ?_
   | apply Exists.intro
   | (intro h;exfalso;simp [hp] at h;done)
   | (intro h;exfalso;simp [hp] at h;omega)
   | intro _
   | omega
   | (simp;omega))
 all_goals (try simp_all [ifN,ifZ])
theorem bnewS_T (pPage:Int)(pCap:Int)(pLimit:Int)(pLow:Int)(pHigh:Int)(pWeightsO:Option Addr)(pWeightsN pWeightsC:Nat)(pWeightsg0:Nat→Int)(pRuleDown:Int)(pRuleSleep:Int):(exFn Tryz.prog {tb:=[(91,sPolOk),(96,sCopyP)]} 400 Tryz.f20 ([.a (.agg [.int pPage,.int pCap,.int pLimit,.int pLow,.int pHigh,.sl 0 pWeightsO pWeightsN pWeightsC,.int pRuleDown,.int pRuleSleep])]) ([.row ⟨false,pWeightsO,0,1,pWeightsN,0,[fun i=>.int (pWeightsg0 i)]⟩]) (fun v ch=>∃ (ro0:Option Addr) (rc0:Nat) (ro1:Option Addr) (rc1:Nat),OutR v ch (.tuple #[.agg #[.int .i64 (ifZ (polB pPage pCap pLimit pLow pHigh pWeightsN pWeightsg0 pRuleDown pRuleSleep) pPage),.int .i64 (ifZ (polB pPage pCap pLimit pLow pHigh pWeightsN pWeightsg0 pRuleDown pRuleSleep) pCap),.int .i64 (ifZ (polB pPage pCap pLimit pLow pHigh pWeightsN pWeightsg0 pRuleDown pRuleSleep) pLimit),.int .i64 (ifZ (polB pPage pCap pLimit pLow pHigh pWeightsN pWeightsg0 pRuleDown pRuleSleep) pLow),.int .i64 (ifZ (polB pPage pCap pLimit pLow pHigh pWeightsN pWeightsg0 pRuleDown pRuleSleep) pHigh),.slice ro0 (ifN (polB pPage pCap pLimit pLow pHigh pWeightsN pWeightsg0 pRuleDown pRuleSleep) pWeightsN) rc0,.int .i64 (ifZ (polB pPage pCap pLimit pLow pHigh pWeightsN pWeightsg0 pRuleDown pRuleSleep) pRuleDown),.int .i64 (ifZ (polB pPage pCap pLimit pLow pHigh pWeightsN pWeightsg0 pRuleDown pRuleSleep) pRuleSleep),.int .i64 (ifZ (polB pPage pCap pLimit pLow pHigh pWeightsN pWeightsg0 pRuleDown pRuleSleep) pPage),.int .i64 (ifZ (polB pPage pCap pLimit pLow pHigh pWeightsN pWeightsg0 pRuleDown pRuleSleep) pCap),.int .i64 (ifZ (polB pPage pCap pLimit pLow pHigh pWeightsN pWeightsg0 pRuleDown pRuleSleep) pLimit),.int .i64 (ifZ (polB pPage pCap pLimit pLow pHigh pWeightsN pWeightsg0 pRuleDown pRuleSleep) pLow),.int .i64 (ifZ (polB pPage pCap pLimit pLow pHigh pWeightsN pWeightsg0 pRuleDown pRuleSleep) pHigh),.slice ro1 (ifN (polB pPage pCap pLimit pLow pHigh pWeightsN pWeightsg0 pRuleDown pRuleSleep) pWeightsN) rc1,.int .i64 (ifZ (polB pPage pCap pLimit pLow pHigh pWeightsN pWeightsg0 pRuleDown pRuleSleep) pRuleDown),.int .i64 (ifZ (polB pPage pCap pLimit pLow pHigh pWeightsN pWeightsg0 pRuleDown pRuleSleep) pRuleSleep),.bool (false)],.bool (polB pPage pCap pLimit pLow pHigh pWeightsN pWeightsg0 pRuleDown pRuleSleep)]) [.row ⟨true,ro0,3,1,ifN (polB pPage pCap pLimit pLow pHigh pWeightsN pWeightsg0 pRuleDown pRuleSleep) pWeightsN,rc0,[fun i=>.int (pWeightsg0 i)]⟩,.row ⟨true,ro1,3,1,ifN (polB pPage pCap pLimit pLow pHigh pWeightsN pWeightsg0 pRuleDown pRuleSleep) pWeightsN,rc1,[fun i=>.int (pWeightsg0 i)]⟩]))=(
 (fun b:Value=>(fun c:Value=>(fun d:Prop=>(fun g:List (Nat→SC)=>(fun h:Bool=>(fun j:Value=>(fun k:Nat=>(fun l:Value=>(fun m:Value=>(fun n:Value=>(fun o:Value=>(fun p:Value=>(fun q:Value=>(fun r:Value=>∀ s t:Nat,s=s∧∃ u:Nat→Int,(fun w:Bool=>(pWeightsO=pWeightsO∧pWeightsN=pWeightsN∧g=[fun x=>Ci (u x)]∧d)∧(w=true→t=t∧t=t∧∃(x:Option Addr) (y:Nat) (z:Option Addr) (B:Nat),(Wu [Wa [b,b,b,b,b,Wn,b,b,b,b,b,b,b,Wn,b,b,c],c])=(Wu [Wa [o,m,p,l,n,Ws x k y,q,r,o,m,p,l,n,Ws z k B,q,r,c],j])∧((true=true∧(none:Option Addr)=x∧0=k∧0=y∧true=true)∧(true=true∧(none:Option Addr)=z∧0=k∧0=B∧true=true)∧True)∧true=true)∧(w=false→s=s∧s=s∧∃ x:Nat→Int,(pWeightsO=pWeightsO∧pWeightsN=pWeightsN∧g=[fun y=>Ci (x y)]∧d)∧∀(y:Option Addr) (z:Nat),True∧∃ B:Nat→Int,(pWeightsO=pWeightsO∧pWeightsN=pWeightsN∧g=[fun C=>Ci (B C)]∧d)∧∀(C:Option Addr) (D:Nat),True∧t=t∧True∧t=t∧∃(E:Option Addr) (F:Nat) (G:Option Addr) (H:Nat),(Wu [Wa [Wi pPage,Wi pCap,Wi pLimit,Wi pLow,Wi pHigh,Ws y pWeightsN z,Wi pRuleDown,Wi pRuleSleep,Wi pPage,Wi pCap,Wi pLimit,Wi pLow,Wi pHigh,Ws C pWeightsN D,Wi pRuleDown,Wi pRuleSleep,c],Wb true])=(Wu [Wa [o,m,p,l,n,Ws E k F,q,r,o,m,p,l,n,Ws G k H,q,r,c],j])∧((true=true∧y=E∧3=3∧1=1∧pWeightsN=k∧z=F∧(∀ I:Nat,I<pWeightsN→(Wi (x I))=(Wi (pWeightsg0 I)))∧True)∧(true=true∧C=G∧3=3∧1=1∧pWeightsN=k∧D=H∧(∀ I:Nat,I<pWeightsN→(Wi (B I))=(Wi (pWeightsg0 I)))∧True)∧True)∧true=true)) (! (polB pPage pCap pLimit pLow pHigh pWeightsN u pRuleDown pRuleSleep))) (Wi (ifZ h pRuleSleep))) (Wi (ifZ h pRuleDown))) (Wi (ifZ h pLimit))) (Wi (ifZ h pPage))) (Wi (ifZ h pHigh))) (Wi (ifZ h pCap))) (Wi (ifZ h pLow))) (ifN h pWeightsN)) (Wb h)) (polB pPage pCap pLimit pLow pHigh pWeightsN pWeightsg0 pRuleDown pRuleSleep)) [fun g=>Ci (pWeightsg0 g)]) (capC pWeightsN)) (Wb false)) (Wi 0)):=by kernel_rfl
theorem bnewS_any (pPage:Int)(pCap:Int)(pLimit:Int)(pLow:Int)(pHigh:Int)(pWeightsO:Option Addr)(pWeightsN pWeightsC:Nat)(pWeightsg0:Nat→Int)(pRuleDown:Int)(pRuleSleep:Int)(w:World)(hrpWeights:Row.sat w ⟨false,pWeightsO,0,1,pWeightsN,0,[fun i=>.int (pWeightsg0 i)]⟩)(hpre:capC pWeightsN):Calls Tryz.prog 20 #[.agg #[.int .i64 pPage,.int .i64 pCap,.int .i64 pLimit,.int .i64 pLow,.int .i64 pHigh,.slice pWeightsO pWeightsN pWeightsC,.int .i64 pRuleDown,.int .i64 pRuleSleep]] w fun e w'=>∃ (ro0:Option Addr) (rc0:Nat) (ro1:Option Addr) (rc1:Nat),e=.returned (.tuple #[.agg #[.int .i64 (ifZ (polB pPage pCap pLimit pLow pHigh pWeightsN pWeightsg0 pRuleDown pRuleSleep) pPage),.int .i64 (ifZ (polB pPage pCap pLimit pLow pHigh pWeightsN pWeightsg0 pRuleDown pRuleSleep) pCap),.int .i64 (ifZ (polB pPage pCap pLimit pLow pHigh pWeightsN pWeightsg0 pRuleDown pRuleSleep) pLimit),.int .i64 (ifZ (polB pPage pCap pLimit pLow pHigh pWeightsN pWeightsg0 pRuleDown pRuleSleep) pLow),.int .i64 (ifZ (polB pPage pCap pLimit pLow pHigh pWeightsN pWeightsg0 pRuleDown pRuleSleep) pHigh),.slice ro0 (ifN (polB pPage pCap pLimit pLow pHigh pWeightsN pWeightsg0 pRuleDown pRuleSleep) pWeightsN) rc0,.int .i64 (ifZ (polB pPage pCap pLimit pLow pHigh pWeightsN pWeightsg0 pRuleDown pRuleSleep) pRuleDown),.int .i64 (ifZ (polB pPage pCap pLimit pLow pHigh pWeightsN pWeightsg0 pRuleDown pRuleSleep) pRuleSleep),.int .i64 (ifZ (polB pPage pCap pLimit pLow pHigh pWeightsN pWeightsg0 pRuleDown pRuleSleep) pPage),.int .i64 (ifZ (polB pPage pCap pLimit pLow pHigh pWeightsN pWeightsg0 pRuleDown pRuleSleep) pCap),.int .i64 (ifZ (polB pPage pCap pLimit pLow pHigh pWeightsN pWeightsg0 pRuleDown pRuleSleep) pLimit),.int .i64 (ifZ (polB pPage pCap pLimit pLow pHigh pWeightsN pWeightsg0 pRuleDown pRuleSleep) pLow),.int .i64 (ifZ (polB pPage pCap pLimit pLow pHigh pWeightsN pWeightsg0 pRuleDown pRuleSleep) pHigh),.slice ro1 (ifN (polB pPage pCap pLimit pLow pHigh pWeightsN pWeightsg0 pRuleDown pRuleSleep) pWeightsN) rc1,.int .i64 (ifZ (polB pPage pCap pLimit pLow pHigh pWeightsN pWeightsg0 pRuleDown pRuleSleep) pRuleDown),.int .i64 (ifZ (polB pPage pCap pLimit pLow pHigh pWeightsN pWeightsg0 pRuleDown pRuleSleep) pRuleSleep),.bool (false)],.bool (polB pPage pCap pLimit pLow pHigh pWeightsN pWeightsg0 pRuleDown pRuleSleep)])∧HS ⟨w,fun _=>False⟩ [.row ⟨true,ro0,3,1,ifN (polB pPage pCap pLimit pLow pHigh pWeightsN pWeightsg0 pRuleDown pRuleSleep) pWeightsN,rc0,[fun i=>.int (pWeightsg0 i)]⟩,.row ⟨true,ro1,3,1,ifN (polB pPage pCap pLimit pLow pHigh pWeightsN pWeightsg0 pRuleDown pRuleSleep) pWeightsN,rc1,[fun i=>.int (pWeightsg0 i)]⟩] w':=by
 refine fnB (tb:=[(91,sPolOk),(96,sCopyP)]) ⟨sPolOk_ok_polS,sCopyP_ok_copyPS,trivial⟩ Tryz.func20 (@Eq.mpr _ _ (bnewS_T pPage pCap pLimit pLow pHigh pWeightsO pWeightsN pWeightsC pWeightsg0 pRuleDown pRuleSleep) ?_) (HS.rows (fun _=>False) [⟨false,pWeightsO,0,1,pWeightsN,0,[fun i=>.int (pWeightsg0 i)]⟩] (by simp;exact hrpWeights)) (fun v ch' w' ⟨ro0,rc0,ro1,rc1,hk⟩ hs=>⟨ro0,rc0,ro1,rc1,by rw [hk.1],hk.hs hs⟩)
 dsimp -zeta -proj -iota -eta -failIfUnchanged (etaStruct:=.none) only
 clear hrpWeights
 cases hp:polB pPage pCap pLimit pLow pHigh pWeightsN pWeightsg0 pRuleDown pRuleSleep
 all_goals
  repeat' (first
   | with_reducible exact rfl
   | exact True.intro
   | with_reducible assumption
   | refine And.intro ?_ ?_
   | apply Exists.intro
   | (intro h;exfalso;simp [hp] at h;done)
   | (intro h;exfalso;simp [hp] at h;omega)
   | intro _
   | omega
   | (simp;omega))
 all_goals (try simp_all [ifN,ifZ])
def sBNew:Sm:=fun args ch kk =>
 match args with
 | [.a (.agg [c0,c1,c2,c3,c4,.sl i0 a0 n0 d0,c5,c6])] =>
  match ch[i0]?,ints [c0,c1,c2,c3,c4,c5,c6] with
  | some (.row r0),some [pPage,pCap,pLimit,pLow,pHigh,pRuleDown,pRuleSleep]=>∃ pWeightsg0:Nat→Int,(a0=r0.ao∧n0=r0.n∧r0.fld=[fun i=>.int (pWeightsg0 i)]∧capC n0)∧∀ (ro0:Option Addr) (rc0:Nat),∀ (ro1:Option Addr) (rc1:Nat),kk (.tup [.agg [.int (ifZ (polB pPage pCap pLimit pLow pHigh n0 pWeightsg0 pRuleDown pRuleSleep) pPage),.int (ifZ (polB pPage pCap pLimit pLow pHigh n0 pWeightsg0 pRuleDown pRuleSleep) pCap),.int (ifZ (polB pPage pCap pLimit pLow pHigh n0 pWeightsg0 pRuleDown pRuleSleep) pLimit),.int (ifZ (polB pPage pCap pLimit pLow pHigh n0 pWeightsg0 pRuleDown pRuleSleep) pLow),.int (ifZ (polB pPage pCap pLimit pLow pHigh n0 pWeightsg0 pRuleDown pRuleSleep) pHigh),.sl (ch.length) ro0 (ifN (polB pPage pCap pLimit pLow pHigh n0 pWeightsg0 pRuleDown pRuleSleep) n0) rc0,.int (ifZ (polB pPage pCap pLimit pLow pHigh n0 pWeightsg0 pRuleDown pRuleSleep) pRuleDown),.int (ifZ (polB pPage pCap pLimit pLow pHigh n0 pWeightsg0 pRuleDown pRuleSleep) pRuleSleep),.int (ifZ (polB pPage pCap pLimit pLow pHigh n0 pWeightsg0 pRuleDown pRuleSleep) pPage),.int (ifZ (polB pPage pCap pLimit pLow pHigh n0 pWeightsg0 pRuleDown pRuleSleep) pCap),.int (ifZ (polB pPage pCap pLimit pLow pHigh n0 pWeightsg0 pRuleDown pRuleSleep) pLimit),.int (ifZ (polB pPage pCap pLimit pLow pHigh n0 pWeightsg0 pRuleDown pRuleSleep) pLow),.int (ifZ (polB pPage pCap pLimit pLow pHigh n0 pWeightsg0 pRuleDown pRuleSleep) pHigh),.sl (ch.length+1) ro1 (ifN (polB pPage pCap pLimit pLow pHigh n0 pWeightsg0 pRuleDown pRuleSleep) n0) rc1,.int (ifZ (polB pPage pCap pLimit pLow pHigh n0 pWeightsg0 pRuleDown pRuleSleep) pRuleDown),.int (ifZ (polB pPage pCap pLimit pLow pHigh n0 pWeightsg0 pRuleDown pRuleSleep) pRuleSleep),.bool (false)],.c (.bool (polB pPage pCap pLimit pLow pHigh n0 pWeightsg0 pRuleDown pRuleSleep))]) (ch ++ [.row ⟨true,ro0,3,1,ifN (polB pPage pCap pLimit pLow pHigh n0 pWeightsg0 pRuleDown pRuleSleep) n0,rc0,[fun i=>.int (pWeightsg0 i)]⟩,.row ⟨true,ro1,3,1,ifN (polB pPage pCap pLimit pLow pHigh n0 pWeightsg0 pRuleDown pRuleSleep) n0,rc1,[fun i=>.int (pWeightsg0 i)]⟩]) []
  | _,_=>False
 | _=>False
theorem sBNew_ok {f:FuncId}(hc:∀ args w,(callFunc f args).run Tryz.prog w=.ok (.enter f args) w)(h:∀ (pPage:Int) (pCap:Int) (pLimit:Int) (pLow:Int) (pHigh:Int) (pWeightsO:Option Addr) (pWeightsN pWeightsC:Nat) (pWeightsg0:Nat→Int) (pRuleDown:Int) (pRuleSleep:Int) (w:World),Row.sat w ⟨false,pWeightsO,0,1,pWeightsN,0,[fun i=>.int (pWeightsg0 i)]⟩→capC pWeightsN→Calls Tryz.prog f #[.agg #[.int .i64 pPage,.int .i64 pCap,.int .i64 pLimit,.int .i64 pLow,.int .i64 pHigh,.slice pWeightsO pWeightsN pWeightsC,.int .i64 pRuleDown,.int .i64 pRuleSleep]] w fun e w'=>∃ (ro0:Option Addr) (rc0:Nat) (ro1:Option Addr) (rc1:Nat),e=.returned (.tuple #[.agg #[.int .i64 (ifZ (polB pPage pCap pLimit pLow pHigh pWeightsN pWeightsg0 pRuleDown pRuleSleep) pPage),.int .i64 (ifZ (polB pPage pCap pLimit pLow pHigh pWeightsN pWeightsg0 pRuleDown pRuleSleep) pCap),.int .i64 (ifZ (polB pPage pCap pLimit pLow pHigh pWeightsN pWeightsg0 pRuleDown pRuleSleep) pLimit),.int .i64 (ifZ (polB pPage pCap pLimit pLow pHigh pWeightsN pWeightsg0 pRuleDown pRuleSleep) pLow),.int .i64 (ifZ (polB pPage pCap pLimit pLow pHigh pWeightsN pWeightsg0 pRuleDown pRuleSleep) pHigh),.slice ro0 (ifN (polB pPage pCap pLimit pLow pHigh pWeightsN pWeightsg0 pRuleDown pRuleSleep) pWeightsN) rc0,.int .i64 (ifZ (polB pPage pCap pLimit pLow pHigh pWeightsN pWeightsg0 pRuleDown pRuleSleep) pRuleDown),.int .i64 (ifZ (polB pPage pCap pLimit pLow pHigh pWeightsN pWeightsg0 pRuleDown pRuleSleep) pRuleSleep),.int .i64 (ifZ (polB pPage pCap pLimit pLow pHigh pWeightsN pWeightsg0 pRuleDown pRuleSleep) pPage),.int .i64 (ifZ (polB pPage pCap pLimit pLow pHigh pWeightsN pWeightsg0 pRuleDown pRuleSleep) pCap),.int .i64 (ifZ (polB pPage pCap pLimit pLow pHigh pWeightsN pWeightsg0 pRuleDown pRuleSleep) pLimit),.int .i64 (ifZ (polB pPage pCap pLimit pLow pHigh pWeightsN pWeightsg0 pRuleDown pRuleSleep) pLow),.int .i64 (ifZ (polB pPage pCap pLimit pLow pHigh pWeightsN pWeightsg0 pRuleDown pRuleSleep) pHigh),.slice ro1 (ifN (polB pPage pCap pLimit pLow pHigh pWeightsN pWeightsg0 pRuleDown pRuleSleep) pWeightsN) rc1,.int .i64 (ifZ (polB pPage pCap pLimit pLow pHigh pWeightsN pWeightsg0 pRuleDown pRuleSleep) pRuleDown),.int .i64 (ifZ (polB pPage pCap pLimit pLow pHigh pWeightsN pWeightsg0 pRuleDown pRuleSleep) pRuleSleep),.bool (false)],.bool (polB pPage pCap pLimit pLow pHigh pWeightsN pWeightsg0 pRuleDown pRuleSleep)])∧HS ⟨w,fun _=>False⟩ [.row ⟨true,ro0,3,1,ifN (polB pPage pCap pLimit pLow pHigh pWeightsN pWeightsg0 pRuleDown pRuleSleep) pWeightsN,rc0,[fun i=>.int (pWeightsg0 i)]⟩,.row ⟨true,ro1,3,1,ifN (polB pPage pCap pLimit pLow pHigh pWeightsN pWeightsg0 pRuleDown pRuleSleep) pWeightsN,rc1,[fun i=>.int (pWeightsg0 i)]⟩] w'):SmOK Tryz.prog f sBNew:=by
 refine smN hc fun args ch kk w X h0 hs=>?_
 unfold sBNew at h0
 split at h0
 ·rename_i c0 c1 c2 c3 c4 i0 a0 n0 d0 c5 c6
  split at h0
  ·rename_i r0 pPage pCap pLimit pLow pHigh pRuleDown pRuleSleep hr0 hi
   obtain ⟨pWeightsg0,⟨rfl,rfl,hf0,hpre⟩,h0⟩:=h0
   obtain ⟨ec0,hi⟩:=ints_cons hi
   obtain ⟨ec1,hi⟩:=ints_cons hi
   obtain ⟨ec2,hi⟩:=ints_cons hi
   obtain ⟨ec3,hi⟩:=ints_cons hi
   obtain ⟨ec4,hi⟩:=ints_cons hi
   obtain ⟨ec5,hi⟩:=ints_cons hi
   obtain ⟨ec6,hi⟩:=ints_cons hi
   refine Calls.mono (?_:Calls Tryz.prog f _ w (fun e w'=>∃ (ro0:Option Addr) (rc0:Nat) (ro1:Option Addr) (rc1:Nat),e=.returned (.tuple #[.agg #[.int .i64 (ifZ (polB pPage pCap pLimit pLow pHigh r0.n pWeightsg0 pRuleDown pRuleSleep) pPage),.int .i64 (ifZ (polB pPage pCap pLimit pLow pHigh r0.n pWeightsg0 pRuleDown pRuleSleep) pCap),.int .i64 (ifZ (polB pPage pCap pLimit pLow pHigh r0.n pWeightsg0 pRuleDown pRuleSleep) pLimit),.int .i64 (ifZ (polB pPage pCap pLimit pLow pHigh r0.n pWeightsg0 pRuleDown pRuleSleep) pLow),.int .i64 (ifZ (polB pPage pCap pLimit pLow pHigh r0.n pWeightsg0 pRuleDown pRuleSleep) pHigh),.slice ro0 (ifN (polB pPage pCap pLimit pLow pHigh r0.n pWeightsg0 pRuleDown pRuleSleep) r0.n) rc0,.int .i64 (ifZ (polB pPage pCap pLimit pLow pHigh r0.n pWeightsg0 pRuleDown pRuleSleep) pRuleDown),.int .i64 (ifZ (polB pPage pCap pLimit pLow pHigh r0.n pWeightsg0 pRuleDown pRuleSleep) pRuleSleep),.int .i64 (ifZ (polB pPage pCap pLimit pLow pHigh r0.n pWeightsg0 pRuleDown pRuleSleep) pPage),.int .i64 (ifZ (polB pPage pCap pLimit pLow pHigh r0.n pWeightsg0 pRuleDown pRuleSleep) pCap),.int .i64 (ifZ (polB pPage pCap pLimit pLow pHigh r0.n pWeightsg0 pRuleDown pRuleSleep) pLimit),.int .i64 (ifZ (polB pPage pCap pLimit pLow pHigh r0.n pWeightsg0 pRuleDown pRuleSleep) pLow),.int .i64 (ifZ (polB pPage pCap pLimit pLow pHigh r0.n pWeightsg0 pRuleDown pRuleSleep) pHigh),.slice ro1 (ifN (polB pPage pCap pLimit pLow pHigh r0.n pWeightsg0 pRuleDown pRuleSleep) r0.n) rc1,.int .i64 (ifZ (polB pPage pCap pLimit pLow pHigh r0.n pWeightsg0 pRuleDown pRuleSleep) pRuleDown),.int .i64 (ifZ (polB pPage pCap pLimit pLow pHigh r0.n pWeightsg0 pRuleDown pRuleSleep) pRuleSleep),.bool (false)],.bool (polB pPage pCap pLimit pLow pHigh r0.n pWeightsg0 pRuleDown pRuleSleep)])∧HS ⟨w,fun _=>False⟩ [.row ⟨true,ro0,3,1,ifN (polB pPage pCap pLimit pLow pHigh r0.n pWeightsg0 pRuleDown pRuleSleep) r0.n,rc0,[fun i=>.int (pWeightsg0 i)]⟩,.row ⟨true,ro1,3,1,ifN (polB pPage pCap pLimit pLow pHigh r0.n pWeightsg0 pRuleDown pRuleSleep) r0.n,rc1,[fun i=>.int (pWeightsg0 i)]⟩] w')) (fun e w' ⟨ro0,rc0,ro1,rc1,he,hs'⟩=>⟨_,_,?_,hs',rfl,h0 ro0 rc0 ro1 rc1⟩)
   ·simp only [List.map_cons,List.map_nil,den_a,den_c,SA.den,den_sl,ec0,ec1,ec2,ec3,ec4,ec5,ec6]
    exact h pPage pCap pLimit pLow pHigh r0.ao r0.n d0 pWeightsg0 pRuleDown pRuleSleep w (Row.seenAs (hs.sat i0 _ hr0) hf0 rfl) hpre
   ·rw [he]
    rfl
  ·exact h0.elim
 ·exact h0.elim
theorem sBNew_ok_bnewI:SmOK Tryz.prog 36 sBNew:=sBNew_ok Tryz.call36 (fun pPage pCap pLimit pLow pHigh pWeightsO pWeightsN pWeightsC pWeightsg0 pRuleDown pRuleSleep w h0 hp=>bnewI_any pPage pCap pLimit pLow pHigh pWeightsO pWeightsN pWeightsC pWeightsg0 pRuleDown pRuleSleep w h0 hp)
theorem sBNew_ok_bnewS:SmOK Tryz.prog 20 sBNew:=sBNew_ok Tryz.call20 (fun pPage pCap pLimit pLow pHigh pWeightsO pWeightsN pWeightsC pWeightsg0 pRuleDown pRuleSleep w h0 hp=>bnewS_any pPage pCap pLimit pLow pHigh pWeightsO pWeightsN pWeightsC pWeightsg0 pRuleDown pRuleSleep w h0 hp)
def sBNewF:Sm:=fun args ch kk =>
 match args with
 | [.a (.agg [c0,c1,c2,c3,c4,.sl i0 a0 n0 d0,c5,c6])] =>
  match ch[i0]?,ints [c0,c1,c2,c3,c4,c5,c6] with
  | some (.row r0),some [pPage,pCap,pLimit,pLow,pHigh,pRuleDown,pRuleSleep]=>∃ g:Nat→Int,(a0=r0.ao∧n0=r0.n∧r0.fld=[fun i=>.int (g i)]∧capC n0∧polB pPage pCap pLimit pLow pHigh n0 g pRuleDown pRuleSleep=true)∧∀ (ro0:Option Addr) (rc0:Nat),∀ (ro1:Option Addr) (rc1:Nat),kk (.tup [.agg [.int pPage,.int pCap,.int pLimit,.int pLow,.int pHigh,.sl (ch.length) ro0 n0 rc0,.int pRuleDown,.int pRuleSleep,.int pPage,.int pCap,.int pLimit,.int pLow,.int pHigh,.sl (ch.length+1) ro1 n0 rc1,.int pRuleDown,.int pRuleSleep,.bool false],.c (.bool true)]) (ch ++ [.row ⟨true,ro0,3,1,n0,rc0,[fun i=>.int (g i)]⟩,.row ⟨true,ro1,3,1,n0,rc1,[fun i=>.int (g i)]⟩]) []
  | _,_=>False
 | _=>False
theorem sBNewF_sub:∀ args ch k,sBNewF args ch k→sBNew args ch k:=by
 intro args ch k h
 unfold sBNewF at h
 unfold sBNew
 split at h
 ·split at h
  ·rename_i h1 h2
   obtain ⟨g,⟨e1,e2,e3,e4,e5⟩,h⟩:=h
   try simp only [h1,h2]
   refine ⟨g,⟨e1,e2,e3,e4⟩,fun ro0 rc0 ro1 rc1=>?_⟩
   simp only [e5,ifN,ifZ,if_true]
   exact h ro0 rc0 ro1 rc1
  ·exact h.elim
 ·exact h.elim
theorem sBNewF_I:SmOK Tryz.prog 36 sBNewF:=smSub sBNew_ok_bnewI sBNewF_sub
theorem sBNewF_S:SmOK Tryz.prog 20 sBNewF:=smSub sBNew_ok_bnewS sBNewF_sub
def sSpNewF (m:Nat):Sm:=fun args ch kk =>
 match args with
 | [.a (.agg [c0,c1,c2,c3]),.a (.c c4)] =>
  match ints [c0,c1,c2,c3,c4] with
  | some [G,B,R,K,sp]=>(rngC R∧spOk G B R K sp=true∧m=spK G B R K sp)∧∀ (ro0:Option Addr) (rc0:Nat),kk (.tup [.agg [.int sp,.sl (ch.length) ro0 m rc0],.c (.bool true)]) (ch ++ [.row ⟨true,ro0,3,1,m,rc0,[fun i=>.int (spF (spM R sp) i)]⟩]) []
  | _=>False
 | _=>False
theorem sSpNewF_sub {m:Nat}:∀ args ch k,sSpNewF m args ch k→sSpNew args ch k:=by
 intro args ch k h
 unfold sSpNewF at h
 unfold sSpNew
 split at h
 ·split at h
  ·rename_i h1
   obtain ⟨⟨e1,e2,e3⟩,h⟩:=h
   try simp only [h1]
   refine ⟨e1,fun ro0 rc0=>?_⟩
   subst e3
   simp only [e2,ifN,ifZ,if_true]
   exact h ro0 rc0
  ·exact h.elim
 ·exact h.elim
theorem sSpNewF_I (m:Nat):SmOK Tryz.prog 37 (sSpNewF m):=smSub sSpNew_I sSpNewF_sub
theorem sSpNewF_S (m:Nat):SmOK Tryz.prog 21 (sSpNewF m):=smSub sSpNew_S sSpNewF_sub
def sShNewF:Sm:=fun args ch kk =>
 match args with
 | [.a (.c (.sl i0 a0 n0 d0))] =>
  match ch[i0]? with
  | some (.row r0)=>∃ g:Nat→Int,(a0=r0.ao∧n0=r0.n∧r0.fld=[fun i=>.int (g i)]∧capC n0∧shB n0 g g=true)∧∀ (ro0:Option Addr) (rc0:Nat),kk (.tup [.c (.sl (ch.length) ro0 n0 rc0),.c (.bool true)]) (ch ++ [.row ⟨true,ro0,153,2,n0,rc0,[fun i=>.int (g i),fun i=>.int (g i)]⟩]) []
  | _=>False
 | _=>False
theorem sShNewF_sub:∀ args ch k,sShNewF args ch k→sShNew args ch k:=by
 intro args ch k h
 unfold sShNewF at h
 unfold sShNew
 split at h
 ·split at h
  ·rename_i h1
   obtain ⟨g,⟨e1,e2,e3,e4,e5⟩,h⟩:=h
   try simp only [h1]
   refine ⟨g,⟨e1,e2,e3,e4⟩,fun ro0 rc0=>?_⟩
   simp only [e5,ifN,if_true]
   exact h ro0 rc0
  ·exact h.elim
 ·exact h.elim
theorem sShNewF_I:SmOK Tryz.prog 40 sShNewF:=smSub sShNew_I sShNewF_sub
theorem sShNewF_S:SmOK Tryz.prog 24 sShNewF:=smSub sShNew_S sShNewF_sub
abbrev arrN (G B R K:Int)(n m:Nat):Prop:=geoB G B R K=true∧(n:Int)=lineN G B R K∧m=(bankN G B R K*R).toNat
def sArrN (n m:Nat):Sm:=fun args ch kk =>
 match args with
 | [.a (.agg [c0,c1,c2,c3])] =>
  match ints [c0,c1,c2,c3] with
  | some [G,B,R,K]=>arrN G B R K n m∧∀ (Oq Aq Hq:Option Addr) (Cq Dq Ee:Nat) (soq:Nat→Option Addr) (scq:Nat→Nat),kk (.a (arrS ch.length (newA n m) Oq Aq Hq Cq Dq Ee)) (ch ++ arrO ch.length (newA n m) Oq Aq Hq Cq Dq Ee soq scq) []
  | _=>False
 | _=>False
theorem sArrN_S (n m:Nat):SmOK Tryz.prog 18 (sArrN n m):=by
 refine smN Tryz.call18 fun args ch kk w X h0 hs=>?_
 unfold sArrN at h0
 split at h0
 ·rename_i c0 c1 c2 c3
  split at h0
  ·rename_i G B R K hi
   obtain ⟨q0,hi⟩:=ints_cons hi
   obtain ⟨q1,hi⟩:=ints_cons hi
   obtain ⟨q2,hi⟩:=ints_cons hi
   obtain ⟨q3,hi⟩:=ints_cons hi
   obtain ⟨⟨hg,hn,hm⟩,h1⟩:=h0
   have e20:SA.den (.agg [c0,c1,c2,c3])=.agg #[.int .i64 G,.int .i64 B,.int .i64 R,.int .i64 K]:=by simp only [SA.den,den_c,List.map_cons,List.map_nil,q0,q1,q2,q3]
   simp only [List.map_cons,List.map_nil,den_a,e20]
   exact Calls.mono (anw_any G B R K n m w hg hn hm) fun e w' ⟨Oq,Aq,Hq,Cq,Dq,Ee,soq,scq,he,hs'⟩=>⟨.a (arrS ch.length (newA n m) Oq Aq Hq Cq Dq Ee),_,by rw [he];rfl,arrO_at hs',rfl,h1 Oq Aq Hq Cq Dq Ee soq scq⟩
  ·exact h0.elim
 ·exact h0.elim
theorem sArrN_I (n m:Nat):SmOK Tryz.prog 35 (sArrN n m):=by
 refine smN Tryz.call35 fun args ch kk w X h0 hs=>?_
 unfold sArrN at h0
 split at h0
 ·rename_i c0 c1 c2 c3
  split at h0
  ·rename_i G B R K hi
   obtain ⟨q0,hi⟩:=ints_cons hi
   obtain ⟨q1,hi⟩:=ints_cons hi
   obtain ⟨q2,hi⟩:=ints_cons hi
   obtain ⟨q3,hi⟩:=ints_cons hi
   obtain ⟨⟨hg,hn,hm⟩,h1⟩:=h0
   have e20:SA.den (.agg [c0,c1,c2,c3])=.agg #[.int .i64 G,.int .i64 B,.int .i64 R,.int .i64 K]:=by simp only [SA.den,den_c,List.map_cons,List.map_nil,q0,q1,q2,q3]
   simp only [List.map_cons,List.map_nil,den_a,e20]
   exact Calls.mono (aiw_any G B R K n m w hg hn hm) fun e w' ⟨Oq,Aq,Hq,Cq,Dq,Ee,soq,scq,he,hs'⟩=>⟨.a (arrS ch.length (newA n m) Oq Aq Hq Cq Dq Ee),_,by rw [he];rfl,arrO_at hs',rfl,h1 Oq Aq Hq Cq Dq Ee soq scq⟩
  ·exact h0.elim
 ·exact h0.elim
def cfgL (c:Nat→Int)(hb:Bool):List Value:=[.int .i64 (c 0),.int .i64 (c 1),.int .i64 (c 2),.int .i64 (c 3),.int .i64 (c 4),.int .i64 (c 5),.int .i64 (c 6),.int .i64 (c 7),.int .i64 (c 8),.int .i64 (c 9),.int .i64 (c 10),.int .i64 (c 11),.int .i64 (c 12),.int .i64 (c 13),.int .i64 (c 14),.int .i64 (c 15),.int .i64 (c 16),.int .i64 (c 17),.int .i64 (c 18),.int .i64 (c 19),.int .i64 (c 20),.int .i64 (c 21),.bool hb,.int .i64 (c 22),.int .i64 (c 23),.int .i64 (c 24),.int .i64 (c 25),.int .i64 (c 26)]
def polL (p:Nat→Int):List Value:=[.int .i64 (p 0),.int .i64 (p 1),.int .i64 (p 2),.int .i64 (p 3),.int .i64 (p 4),.int .i64 (p 5),.int .i64 (p 6)]
def fitC (c p:Nat→Int)(hb:Bool)(wn:Nat)(wg:Nat→Int):Bool:=fitsP (cfgB (c 0) (c 1) (c 2) (c 3) (c 4) (c 5) (c 6) (c 7) (c 8) (c 9) (c 10) (c 11) (c 12) (c 13) (c 14) (c 15) (c 16) (c 17) (c 18) (c 19) (c 20) (c 21) (c 22) (c 23) (c 24) (c 25) (c 26) hb) (polB (p 0) (p 1) (p 2) (p 3) (p 4) wn wg (p 5) (p 6)) (c 24) (c 23) (c 6) (c 5) (c 26) (p 2)
def sFitC (c p:Nat→Int)(hb:Bool)(wn:Nat)(wg:Nat→Int):Sm:=fun args ch kk =>
 match args with
 | [.a (.agg xs),.a (.agg [y0,y1,y2,y3,y4,.sl i a n d,y5,y6])] =>
  match ch[i]? with
  | some (.row r)=>(xs.map SC.den=cfgL c hb∧[y0,y1,y2,y3,y4,y5,y6].map SC.den=polL p∧a=r.ao∧n=r.n∧n=wn∧r.fld=[fun i=>.int (wg i)]∧rngC (c 2)∧capC wn)∧kk (.a (.c (.bool (fitC c p hb wn wg)))) ch []
  | _=>False
 | _=>False
theorem sFitC_I (c p:Nat→Int)(hb:Bool)(wn:Nat)(wg:Nat→Int):SmOK Tryz.prog 32 (sFitC c p hb wn wg):=by
 refine smB Tryz.call32 fun args ch kk w X h0 hs=>?_
 unfold sFitC at h0
 split at h0
 ·rename_i xs y0 y1 y2 y3 y4 i a n d y5 y6
  split at h0
  ·rename_i r hi
   obtain ⟨⟨e1,e2,rfl,rfl,rfl,hf,hR,hn⟩,h0⟩:=h0
   refine ⟨_,h0,?_⟩
   simp only [polL,List.map_cons,List.map_nil,List.cons.injEq,and_true] at e2
   obtain ⟨q0,q1,q2,q3,q4,q5,q6⟩:=e2
   simp only [List.map_cons,List.map_nil,den_a,den_c,SA.den,e1,q0,q1,q2,q3,q4,q5,q6]
   exact fitI_any (c 0) (c 1) (c 2) (c 3) (c 4) (c 5) (c 6) (c 7) (c 8) (c 9) (c 10) (c 11) (c 12) (c 13) (c 14) (c 15) (c 16) (c 17) (c 18) (c 19) (c 20) (c 21) hb (c 22) (c 23) (c 24) (c 25) (c 26) (p 0) (p 1) (p 2) (p 3) (p 4) r.ao r.n d wg (p 5) (p 6) w (seenAs' (hs.sat i _ hi) hf rfl) ⟨hR,hn⟩
  ·exact h0.elim
 ·exact h0.elim
theorem sFitC_S (c p:Nat→Int)(hb:Bool)(wn:Nat)(wg:Nat→Int):SmOK Tryz.prog 15 (sFitC c p hb wn wg):=by
 refine smB Tryz.call15 fun args ch kk w X h0 hs=>?_
 unfold sFitC at h0
 split at h0
 ·rename_i xs y0 y1 y2 y3 y4 i a n d y5 y6
  split at h0
  ·rename_i r hi
   obtain ⟨⟨e1,e2,rfl,rfl,rfl,hf,hR,hn⟩,h0⟩:=h0
   refine ⟨_,h0,?_⟩
   simp only [polL,List.map_cons,List.map_nil,List.cons.injEq,and_true] at e2
   obtain ⟨q0,q1,q2,q3,q4,q5,q6⟩:=e2
   simp only [List.map_cons,List.map_nil,den_a,den_c,SA.den,e1,q0,q1,q2,q3,q4,q5,q6]
   exact fitS_any (c 0) (c 1) (c 2) (c 3) (c 4) (c 5) (c 6) (c 7) (c 8) (c 9) (c 10) (c 11) (c 12) (c 13) (c 14) (c 15) (c 16) (c 17) (c 18) (c 19) (c 20) (c 21) hb (c 22) (c 23) (c 24) (c 25) (c 26) (p 0) (p 1) (p 2) (p 3) (p 4) r.ao r.n d wg (p 5) (p 6) w (seenAs' (hs.sat i _ hi) hf rfl) ⟨hR,hn⟩
  ·exact h0.elim
 ·exact h0.elim
end Go.Proofs.YtbhfabaofhhkeaaGreat

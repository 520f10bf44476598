/-
  FnExactStoredAddr: a part of the walk (merged and squeezed by program: SxSlG).
-/
import Derived.Test.YtmnccapnjphmfaaGreatZbac
namespace Go.Proofs.YtmnccapnjphmfaaGreat
set_option linter.unusedVariables false
set_option linter.unusedSimpArgs false
open Go.RowKit
set_option maxRecDepth 100000
set_option maxHeartbeats 8000000
def sToBank:Sm:=inlM Tryz.prog {tb:=[]} 300 Tryz.f171
theorem sToBank_ok:SmOK Tryz.prog 171 sToBank:=inlM_ok mixed (E:={tb:=[]}) trivial Tryz.func171 Tryz.call171 (fun _ _ _=>loopsOK_nil _ _ _)
theorem toBankB (ao:Option Addr)(n cap b j:Nat)(u:Nat→Nat→Int)(v:Nat→Nat→Bool)(g:Nat→Value)(NX:List SV→List Ch→Prop)(kx:Exit→List SV→List Ch→Prop):(exCode Tryz.prog {tb:=[(171,sToBank)]} 400 (theLoop Tryz.f120 0) (tgH ao n cap b (.int (j:Int)) g) (tgT 186 [false,true] ao n b u v (flK (lowU u j) (lowW v j) 0 [false,true])) (loopK NX kx))=(
 (fun a:Option Addr=>(fun c:SV=>(fun d:SV=>(fun h:SV=>(fun k:List SC=>(fun l:SV=>(fun m:SV=>(fun o:Bool=>(fun p:Prop=>(fun q:Ch=>(o=true→ao=ao∧n=n∧p∧ao=ao∧j<n∧∀ r s t:Nat,r=r∧t=t∧r=r∧t=t∧t=t∧s=s∧s=s∧a=a∧n=n∧p∧a=a∧j<n∧rng (((j:Nat):Int)+(1:Int))∧NX [c,vV (g 1),vV (g 2),d,m,vV (g 5),vV (g 6),vV (g 7),h,c,iV ((n:Nat):Int),tV,h,m,d,h,c,h,rV 0 ao 2 j 0,l,l,rV 1 a 2 j 0,vV (g 22)] [q,Hr true a 186 2 n n [fun w=>Cb (if w=j then (v 0 j) else (if w<j then (v 0 w) else false)),fun w=>Ci (if w=j then (u 1 j) else (if w<j then (u 1 w) else (0:Int)))],Hc r 265 k,Hc s 186 k,Hc t 186 k])∧(o=false→kx (Exit.exit 0) [c,vV (g 1),vV (g 2),d,h,vV (g 5),vV (g 6),vV (g 7),h,c,iV ((n:Nat):Int),fV,vV (g 12),vV (g 13),vV (g 14),vV (g 15),vV (g 16),vV (g 17),vV (g 18),vV (g 19),vV (g 20),vV (g 21),vV (g 22)] [q,Hr true a 186 2 n n [fun r=>Cb (if r<j then (v 0 r) else false),fun r=>Ci (if r<j then (u 1 r) else (0:Int))]])) (Hr false ao 0 2 n 0 [fun q=>Cb (v 0 q),fun q=>Ci (u 1 q)])) (0≤((j:Nat):Int)∧((j:Nat):Int)<((n:Nat):Int))) (decide (((j:Nat):Int)<((n:Nat):Int)))) (iV (((j:Nat):Int)+(1:Int)))) (aV k)) [Cb (v 0 j),Ci (u 1 j)]) (iV ((j:Nat):Int))) (sV 1 a n n)) (sV 0 ao n cap)) (Ad b 0)):=by kernel_rfl
theorem toBankB_ok:tgB Tryz.f120 {tb:=[(171,sToBank)]} 186 [false,true]:=by
 intro ao n cap b j u v g X k hn hj hE
 refine (@Eq.mpr _ _ (toBankB ao n cap b j u v g _ _) ?_)
 dsimp -zeta -proj -iota -eta -failIfUnchanged (etaStruct:=.none) only
 have hjb:rng ((j:Int)+1):=by simp only [rng];omega
 have hge:∀ h:decide ((j:Int)<(n:Int))=false,j=n:=fun h=>by have:=of_decide_eq_false h;omega
 repeat' (first
  | with_reducible exact rfl
  | exact True.intro
  | with_reducible assumption
  | (refine ⟨by omega,?_⟩;show Next _ _ _ _;refine Next.mk (fun g=>tgH ao n cap b (.int ((j+1:Nat):Int)) g) _ ⟨_,rfl,rfl⟩ (by kernel_rfl) fun w hw=>(hw.sel [0,1] (by simp)).re 1 _ rfl (flK (lowU u (j+1)) (lowW v (j+1)) 0 [false,true]) (FEq_fl (u:=setU u j) (v:=setW v j) (fun c i hi=>setU_low) (fun c i hi=>setW_low) [false,true] 0))
  | (intro h;have e:=hge h;subst e;show Next _ _ _ _;exact Next.pre (fun g=>tgH ao j cap b (.int (j:Int)) g) (hE rfl _) (by kernel_rfl) fun w hw=>hw)
  | refine And.intro ?_ ?_
  | apply Exists.intro
  | (intro h;replace h:=of_decide_eq_true h)
  | intro _
  | omega)
theorem toBankS_T (ao:Option Addr)(n cap:Nat)(u:Nat→Nat→Int)(v:Nat→Nat→Bool):(exFn Tryz.prog {L:=[(3,tgL 186 [false,true] ao n cap u v)]} 400 Tryz.f120 ([.a (.c (.sl 0 ao n cap))]) ([.row ⟨false,ao,0,2,n,0,flK u v 0 [false,true]⟩]) (fun w ch=>∃ b,w.den=.slice (some ⟨b,0,none⟩) n n∧ch=tgT 186 [false,true] ao n b u v (flK u v 0 [false,true])))=(
 ((n:Nat):Int)=((n:Nat):Int)∧mkC 16 ((n:Nat):Int)∧∀ d:Nat,∃ g:Nat,([Ws ao n cap,Wu [],Wn,Ws (Ad d 0) n n,Wi 0,Ws ao n cap,Wi ((n:Nat):Int),Ws (Ad d 0) n n,Wu [],Wu [],Wu [],Wu [],Wu [],Wu [],Wu [],Wu [],Wu [],Wu [],Wu [],Wu [],Wu [],Wu [],Wu []]=[Ws ao n cap,Wu [],Wn,Ws (Ad g 0) n n,Wi 0,Ws ao n cap,Wi ((n:Nat):Int),Ws (Ad d 0) n n,Wu [],Wu [],Wu [],Wu [],Wu [],Wu [],Wu [],Wu [],Wu [],Wu [],Wu [],Wu [],Wu [],Wu [],Wu []]∧[Hr false ao 0 2 n 0 [fun h=>Cb (v 0 h),fun h=>Ci (u 1 h)],Hr true (Ad d 0) 186 2 n n [fun h=>Cf,fun h=>Cl 0]]=[Hr false ao 0 2 n 0 [fun h=>Cb (v 0 h),fun h=>Ci (u 1 h)],Hr true (Ad g 0) 186 2 n n [fun h=>Cf,fun h=>Cl 0]])∧∀ h:Nat→Value,∃ j:Nat,(Ws (Ad g 0) n n)=(Ws (Ad j 0) n n)∧[Hr false ao 0 2 n 0 [fun k=>Cb (v 0 k),fun k=>Ci (u 1 k)],Hr true (Ad g 0) 186 2 n n [fun k=>Cb (v 0 k),fun k=>Ci (u 1 k)]]=[Hr false ao 0 2 n 0 [fun k=>Cb (v 0 k),fun k=>Ci (u 1 k)],Hr true (Ad j 0) 186 2 n n [fun k=>Cb (v 0 k),fun k=>Ci (u 1 k)]]):=by kernel_rfl
theorem sToBankS_ok:SmOK Tryz.prog 120 (sTgS 186 [false,true]):=sTgS_ok Tryz.call120 Tryz.func120 (by kernel_rfl) (by kernel_rfl) (E:={tb:=[(171,sToBank)]}) ⟨sToBank_ok,trivial⟩ rfl toBankB_ok fun ao n cap u v hn=>by
 refine @Eq.mpr _ _ (toBankS_T ao n cap u v) ?_
 repeat' (first | exact True.intro | exact rfl | (refine ⟨by omega,by omega,by omega⟩) | (refine fun b=>⟨b,⟨rfl,rfl⟩,fun g=>⟨b,rfl,rfl⟩⟩) | refine And.intro ?_ ?_)
def sEqBank:Sm:=inlM Tryz.prog {tb:=[]} 300 Tryz.f184
theorem sEqBank_ok:SmOK Tryz.prog 184 sEqBank:=inlM_ok mixed (E:={tb:=[]}) trivial Tryz.func184 Tryz.call184 (fun _ _ _=>loopsOK_nil _ _ _)
theorem eqBankB (ao bo:Option Addr)(n c d j:Nat)(u:Nat→Nat→Int)(v:Nat→Nat→Bool)(g:Nat→Value)(NX:List SV→List Ch→Prop)(kx:Exit→List SV→List Ch→Prop):(exCode Tryz.prog {tb:=[(184,sEqBank)]} 400 (theLoop Tryz.f151 0) (egH ao bo n c d (.int (j:Int)) g) (egT [false,true] ao bo n u v) (loopK NX kx))=(
 (fun a:SV=>(fun b:SV=>(fun h:SV=>(fun k:SV=>(fun l:List SC=>(fun m:SV=>(fun o:SV=>(fun p:List (Nat→SC)=>(fun q:Bool=>(fun r:Prop=>(fun s:Ch=>(fun t:Ch=>(fun w:List SV=>(q=true→ao=ao∧n=n∧r∧ao=ao∧j<n∧bo=bo∧n=n∧r∧bo=bo∧j<n∧∀ x y:Nat,(fun z:Prop=>x=x∧y=y∧(((v 0 j) != (v 0 j))=true→z)∧(((v 0 j) != (v 0 j))=false→x=x∧y=y∧(((u 1 j) != (u 1 j))=true→z)∧(((u 1 j) != (u 1 j))=false→True∧rng (((j:Nat):Int)+(1:Int))∧NX [b,a,vV (g 2),vV (g 3),fV,o,vV (g 6),vV (g 7),vV (g 8),vV (g 9),vV (g 10),k,b,h,tV,k,o,b,k,rV 0 ao 2 j 0,m,a,k,rV 1 bo 2 j 0,m,tV,fV] [t,s,Hc x 186 l,Hc y 186 l]))) (True∧kx Exit.ret w [t,s,Hc x 186 l,Hc y 186 l]))∧(q=false→kx (Exit.exit 0) [b,a,vV (g 2),vV (g 3),fV,k,vV (g 6),vV (g 7),vV (g 8),vV (g 9),vV (g 10),k,b,h,fV,vV (g 15),vV (g 16),vV (g 17),vV (g 18),vV (g 19),vV (g 20),vV (g 21),vV (g 22),vV (g 23),vV (g 24),vV (g 25),vV (g 26)] [t,s])) [b,a,vV (g 2),vV (g 3),fV,k,vV (g 6),vV (g 7),vV (g 8),vV (g 9),vV (g 10),k,b,h,tV,vV (g 15),vV (g 16),b,k,rV 0 ao 2 j 0,m,a,k,rV 1 bo 2 j 0,m,fV,tV]) (Hr false ao 0 2 n 0 p)) (Hr false bo 0 2 n 0 p)) (0≤((j:Nat):Int)∧((j:Nat):Int)<((n:Nat):Int))) (decide (((j:Nat):Int)<((n:Nat):Int)))) [fun p=>Cb (v 0 p),fun p=>Ci (u 1 p)]) (iV (((j:Nat):Int)+(1:Int)))) (aV l)) [Cb (v 0 j),Ci (u 1 j)]) (iV ((j:Nat):Int))) (iV ((n:Nat):Int))) (sV 0 ao n c)) (sV 1 bo n d)):=by kernel_rfl
theorem eqBankB_ok:egB Tryz.f151 {tb:=[(184,sEqBank)]} [false,true]:=by
 intro ao bo n c d j u v g X k hn hj hE
 refine (@Eq.mpr _ _ (eqBankB ao bo n c d j u v g _ _) ?_)
 dsimp -zeta -proj -iota -eta -failIfUnchanged (etaStruct:=.none) only
 have hjb:rng ((j:Int)+1):=by simp only [rng];omega
 have hge:∀ h:decide ((j:Int)<(n:Int))=false,j=n:=fun h=>by have:=of_decide_eq_false h;omega
 repeat' (first
  | with_reducible exact rfl
  | exact True.intro
  | with_reducible assumption
  | (refine ⟨by omega,?_⟩;show Next _ _ _ _;exact Next.mk (fun g=>egH ao bo n c d (.int ((j+1:Nat):Int)) g) _ ⟨_,rfl,rfl⟩ (by kernel_rfl) fun w hw=>hw.sel [0,1] (by simp))
  | (intro h;have e:=hge h;subst e;show Next _ _ _ _;exact Next.pre (fun g=>egH ao bo j c d (.int (j:Int)) g) (hE rfl _) (by kernel_rfl) fun w hw=>hw)
  | refine And.intro ?_ ?_
  | apply Exists.intro
  | (intro h;exfalso;simp at h;done)
  | (intro h;replace h:=of_decide_eq_true h)
  | intro _
  | omega)
theorem eqBankS_T (ao bo:Option Addr)(n c d:Nat)(u:Nat→Nat→Int)(v:Nat→Nat→Bool):(exFn Tryz.prog {L:=[(4,egL [false,true] ao bo n c d u v)]} 400 Tryz.f151 ([.a (.c (.sl 0 ao n c)),.a (.c (.sl 1 bo n d))]) (egT [false,true] ao bo n u v) (fun w _=>w.den=.bool true))=(
 ((((n:Nat):Int) != ((n:Nat):Int))=true→(Wb false)=(Wb true))∧((((n:Nat):Int) != ((n:Nat):Int))=false→([Ws ao n c,Ws bo n d,Wu [],Wu [],Wb false,Wi 0,Ws ao n c,Wi ((n:Nat):Int),Ws bo n d,Wi ((n:Nat):Int),Wb false,Wu [],Wu [],Wu [],Wu [],Wu [],Wu [],Wu [],Wu [],Wu [],Wu [],Wu [],Wu [],Wu [],Wu [],Wu [],Wu []]=[Ws ao n c,Ws bo n d,Wu [],Wu [],Wb false,Wi 0,Ws ao n c,Wi ((n:Nat):Int),Ws bo n d,Wi ((n:Nat):Int),Wb false,Wu [],Wu [],Wu [],Wu [],Wu [],Wu [],Wu [],Wu [],Wu [],Wu [],Wu [],Wu [],Wu [],Wu [],Wu [],Wu []]∧[Hr false ao 0 2 n 0 [fun b=>Cb (v 0 b),fun b=>Ci (u 1 b)],Hr false bo 0 2 n 0 [fun b=>Cb (v 0 b),fun b=>Ci (u 1 b)]]=[Hr false ao 0 2 n 0 [fun b=>Cb (v 0 b),fun b=>Ci (u 1 b)],Hr false bo 0 2 n 0 [fun b=>Cb (v 0 b),fun b=>Ci (u 1 b)]])∧∀ b:Nat→Value,(Wb true)=(Wb true))):=by kernel_rfl
theorem sEqBankS_ok:SmOK Tryz.prog 151 (sEgS [false,true]):=sEgS_ok Tryz.call151 Tryz.func151 (by kernel_rfl) (by kernel_rfl) (E:={tb:=[(184,sEqBank)]}) ⟨sEqBank_ok,trivial⟩ rfl eqBankB_ok fun ao bo n c d u v hn=>by
 refine @Eq.mpr _ _ (eqBankS_T ao bo n c d u v) ?_
 simp
 try (intros;rfl)
def sSzBankS:Sm:=inlM Tryz.prog {tb:=[]} 300 Tryz.f95
theorem sSzBankS_ok:SmOK Tryz.prog 95 sSzBankS:=inlM_ok mixed (E:={tb:=[]}) trivial Tryz.func95 Tryz.call95 (fun _ _ _=>loopsOK_nil _ _ _)
def sToAddr:Sm:=inlM Tryz.prog {tb:=[]} 300 Tryz.f123
theorem sToAddr_ok:SmOK Tryz.prog 123 sToAddr:=inlM_ok mixed (E:={tb:=[]}) trivial Tryz.func123 Tryz.call123 (fun _ _ _=>loopsOK_nil _ _ _)
theorem toAddrB (ao:Option Addr)(n cap b j:Nat)(u:Nat→Nat→Int)(v:Nat→Nat→Bool)(g:Nat→Value)(NX:List SV→List Ch→Prop)(kx:Exit→List SV→List Ch→Prop):(exCode Tryz.prog {tb:=[(123,sToAddr)]} 400 (theLoop Tryz.f51 0) (tgH ao n cap b (.int (j:Int)) g) (tgT 104 [true,true,true] ao n b u v (flK (lowU u j) (lowW v j) 0 [true,true,true])) (loopK NX kx))=(
 (fun a:Option Addr=>(fun c:SV=>(fun d:SV=>(fun h:SV=>(fun k:SV=>(fun l:List SC=>(fun m:SV=>(fun o:Bool=>(fun p:Prop=>(fun q:Ch=>(o=true→ao=ao∧n=n∧p∧ao=ao∧j<n∧∀ r s t:Nat,r=r∧t=t∧r=r∧t=t∧r=r∧t=t∧t=t∧s=s∧s=s∧a=a∧n=n∧p∧a=a∧j<n∧rng (((j:Nat):Int)+(1:Int))∧NX [c,vV (g 1),vV (g 2),d,k,vV (g 5),vV (g 6),vV (g 7),h,c,iV ((n:Nat):Int),tV,h,k,d,h,c,h,rV 0 ao 3 j 0,m,m,rV 1 a 3 j 0,vV (g 22)] [q,Hr true a 104 3 n n [fun w=>Ci (if w=j then (u 0 j) else (if w<j then (u 0 w) else (0:Int))),fun w=>Ci (if w=j then (u 1 j) else (if w<j then (u 1 w) else (0:Int))),fun w=>Ci (if w=j then (u 2 j) else (if w<j then (u 2 w) else (0:Int)))],Hc r 217 l,Hc s 104 l,Hc t 104 l])∧(o=false→kx (Exit.exit 0) [c,vV (g 1),vV (g 2),d,h,vV (g 5),vV (g 6),vV (g 7),h,c,iV ((n:Nat):Int),fV,vV (g 12),vV (g 13),vV (g 14),vV (g 15),vV (g 16),vV (g 17),vV (g 18),vV (g 19),vV (g 20),vV (g 21),vV (g 22)] [q,Hr true a 104 3 n n [fun r=>Ci (if r<j then (u 0 r) else (0:Int)),fun r=>Ci (if r<j then (u 1 r) else (0:Int)),fun r=>Ci (if r<j then (u 2 r) else (0:Int))]])) (Hr false ao 0 3 n 0 [fun q=>Ci (u 0 q),fun q=>Ci (u 1 q),fun q=>Ci (u 2 q)])) (0≤((j:Nat):Int)∧((j:Nat):Int)<((n:Nat):Int))) (decide (((j:Nat):Int)<((n:Nat):Int)))) (aV l)) [Ci (u 0 j),Ci (u 1 j),Ci (u 2 j)]) (iV (((j:Nat):Int)+(1:Int)))) (iV ((j:Nat):Int))) (sV 1 a n n)) (sV 0 ao n cap)) (Ad b 0)):=by kernel_rfl
theorem toAddrB_ok:tgB Tryz.f51 {tb:=[(123,sToAddr)]} 104 [true,true,true]:=by
 intro ao n cap b j u v g X k hn hj hE
 refine (@Eq.mpr _ _ (toAddrB ao n cap b j u v g _ _) ?_)
 dsimp -zeta -proj -iota -eta -failIfUnchanged (etaStruct:=.none) only
 have hjb:rng ((j:Int)+1):=by simp only [rng];omega
 have hge:∀ h:decide ((j:Int)<(n:Int))=false,j=n:=fun h=>by have:=of_decide_eq_false h;omega
 repeat' (first
  | with_reducible exact rfl
  | exact True.intro
  | with_reducible assumption
  | (refine ⟨by omega,?_⟩;show Next _ _ _ _;refine Next.mk (fun g=>tgH ao n cap b (.int ((j+1:Nat):Int)) g) _ ⟨_,rfl,rfl⟩ (by kernel_rfl) fun w hw=>(hw.sel [0,1] (by simp)).re 1 _ rfl (flK (lowU u (j+1)) (lowW v (j+1)) 0 [true,true,true]) (FEq_fl (u:=setU u j) (v:=setW v j) (fun c i hi=>setU_low) (fun c i hi=>setW_low) [true,true,true] 0))
  | (intro h;have e:=hge h;subst e;show Next _ _ _ _;exact Next.pre (fun g=>tgH ao j cap b (.int (j:Int)) g) (hE rfl _) (by kernel_rfl) fun w hw=>hw)
  | refine And.intro ?_ ?_
  | apply Exists.intro
  | (intro h;replace h:=of_decide_eq_true h)
  | intro _
  | omega)
theorem toAddrS_T (ao:Option Addr)(n cap:Nat)(u:Nat→Nat→Int)(v:Nat→Nat→Bool):(exFn Tryz.prog {L:=[(3,tgL 104 [true,true,true] ao n cap u v)]} 400 Tryz.f51 ([.a (.c (.sl 0 ao n cap))]) ([.row ⟨false,ao,0,3,n,0,flK u v 0 [true,true,true]⟩]) (fun w ch=>∃ b,w.den=.slice (some ⟨b,0,none⟩) n n∧ch=tgT 104 [true,true,true] ao n b u v (flK u v 0 [true,true,true])))=(
 (fun d:Value=>(fun g:Value=>(fun h:List (Nat→SC)=>(fun j:List (Nat→SC)=>(fun k:Ch=>((n:Nat):Int)=((n:Nat):Int)∧mkC 24 ((n:Nat):Int)∧∀ l:Nat,(fun m:Value=>∃ o:Nat,([g,d,Wn,m,Wi 0,g,Wi ((n:Nat):Int),m,d,d,d,d,d,d,d,d,d,d,d,d,d,d,d]=[g,d,Wn,Ws (Ad o 0) n n,Wi 0,g,Wi ((n:Nat):Int),m,d,d,d,d,d,d,d,d,d,d,d,d,d,d,d]∧[k,Hr true (Ad l 0) 104 3 n n h]=[k,Hr true (Ad o 0) 104 3 n n h])∧∀ p:Nat→Value,∃ q:Nat,(Ws (Ad o 0) n n)=(Ws (Ad q 0) n n)∧[k,Hr true (Ad o 0) 104 3 n n j]=[k,Hr true (Ad q 0) 104 3 n n j]) (Ws (Ad l 0) n n)) (Hr false ao 0 3 n 0 j)) [fun j=>Ci (u 0 j),fun j=>Ci (u 1 j),fun j=>Ci (u 2 j)]) [fun h=>Cl 0,fun h=>Cl 0,fun h=>Cl 0]) (Ws ao n cap)) (Wu [])):=by kernel_rfl
theorem sToAddrS_ok:SmOK Tryz.prog 51 (sTgS 104 [true,true,true]):=sTgS_ok Tryz.call51 Tryz.func51 (by kernel_rfl) (by kernel_rfl) (E:={tb:=[(123,sToAddr)]}) ⟨sToAddr_ok,trivial⟩ rfl toAddrB_ok fun ao n cap u v hn=>by
 refine @Eq.mpr _ _ (toAddrS_T ao n cap u v) ?_
 dsimp -zeta -proj -iota -eta -failIfUnchanged (etaStruct:=.none) only
 repeat' (first | exact True.intro | exact rfl | (refine ⟨by omega,by omega,by omega⟩) | (refine fun b=>⟨b,⟨rfl,rfl⟩,fun g=>⟨b,rfl,rfl⟩⟩) | refine And.intro ?_ ?_)
def sEqAddr:Sm:=inlM Tryz.prog {tb:=[]} 300 Tryz.f12
theorem sEqAddr_ok:SmOK Tryz.prog 12 sEqAddr:=inlM_ok mixed (E:={tb:=[]}) trivial Tryz.func12 Tryz.call12 (fun _ _ _=>loopsOK_nil _ _ _)
theorem eqAddrB (ao bo:Option Addr)(n c d j:Nat)(u:Nat→Nat→Int)(v:Nat→Nat→Bool)(g:Nat→Value)(NX:List SV→List Ch→Prop)(kx:Exit→List SV→List Ch→Prop):(exCode Tryz.prog {tb:=[(12,sEqAddr)]} 400 (theLoop Tryz.f83 0) (egH ao bo n c d (.int (j:Int)) g) (egT [true,true,true] ao bo n u v) (loopK NX kx))=(
 (fun a:SV=>(fun b:SV=>(fun h:SV=>(fun k:SV=>(fun l:SV=>(fun m:List SC=>(fun o:SV=>(fun p:Bool=>(fun q:Prop=>(fun r:List (Nat→SC)=>(fun s:Ch=>(fun t:Ch=>(fun w:List SV=>(p=true→ao=ao∧n=n∧q∧ao=ao∧j<n∧bo=bo∧n=n∧q∧bo=bo∧j<n∧∀ x y:Nat,(fun z:Prop=>x=x∧y=y∧(((u 0 j) != (u 0 j))=true→z)∧(((u 0 j) != (u 0 j))=false→x=x∧y=y∧(((u 1 j) != (u 1 j))=true→z)∧(((u 1 j) != (u 1 j))=false→x=x∧y=y∧(((u 2 j) != (u 2 j))=true→z)∧(((u 2 j) != (u 2 j))=false→True∧rng (((j:Nat):Int)+(1:Int))∧NX [b,a,vV (g 2),vV (g 3),fV,l,vV (g 6),vV (g 7),vV (g 8),vV (g 9),vV (g 10),k,b,h,tV,k,l,b,k,rV 0 ao 3 j 0,o,a,k,rV 1 bo 3 j 0,o,tV,fV] [t,s,Hc x 104 m,Hc y 104 m])))) (True∧kx Exit.ret w [t,s,Hc x 104 m,Hc y 104 m]))∧(p=false→kx (Exit.exit 0) [b,a,vV (g 2),vV (g 3),fV,k,vV (g 6),vV (g 7),vV (g 8),vV (g 9),vV (g 10),k,b,h,fV,vV (g 15),vV (g 16),vV (g 17),vV (g 18),vV (g 19),vV (g 20),vV (g 21),vV (g 22),vV (g 23),vV (g 24),vV (g 25),vV (g 26)] [t,s])) [b,a,vV (g 2),vV (g 3),fV,k,vV (g 6),vV (g 7),vV (g 8),vV (g 9),vV (g 10),k,b,h,tV,vV (g 15),vV (g 16),b,k,rV 0 ao 3 j 0,o,a,k,rV 1 bo 3 j 0,o,fV,tV]) (Hr false ao 0 3 n 0 r)) (Hr false bo 0 3 n 0 r)) [fun r=>Ci (u 0 r),fun r=>Ci (u 1 r),fun r=>Ci (u 2 r)]) (0≤((j:Nat):Int)∧((j:Nat):Int)<((n:Nat):Int))) (decide (((j:Nat):Int)<((n:Nat):Int)))) (aV m)) [Ci (u 0 j),Ci (u 1 j),Ci (u 2 j)]) (iV (((j:Nat):Int)+(1:Int)))) (iV ((j:Nat):Int))) (iV ((n:Nat):Int))) (sV 0 ao n c)) (sV 1 bo n d)):=by kernel_rfl
theorem eqAddrB_ok:egB Tryz.f83 {tb:=[(12,sEqAddr)]} [true,true,true]:=by
 intro ao bo n c d j u v g X k hn hj hE
 refine (@Eq.mpr _ _ (eqAddrB ao bo n c d j u v g _ _) ?_)
 dsimp -zeta -proj -iota -eta -failIfUnchanged (etaStruct:=.none) only
 have hjb:rng ((j:Int)+1):=by simp only [rng];omega
 have hge:∀ h:decide ((j:Int)<(n:Int))=false,j=n:=fun h=>by have:=of_decide_eq_false h;omega
 repeat' (first
  | with_reducible exact rfl
  | exact True.intro
  | with_reducible assumption
  | (refine ⟨by omega,?_⟩;show Next _ _ _ _;exact Next.mk (fun g=>egH ao bo n c d (.int ((j+1:Nat):Int)) g) _ ⟨_,rfl,rfl⟩ (by kernel_rfl) fun w hw=>hw.sel [0,1] (by simp))
  | (intro h;have e:=hge h;subst e;show Next _ _ _ _;exact Next.pre (fun g=>egH ao bo j c d (.int (j:Int)) g) (hE rfl _) (by kernel_rfl) fun w hw=>hw)
  | refine And.intro ?_ ?_
  | apply Exists.intro
  | (intro h;exfalso;simp at h;done)
  | (intro h;replace h:=of_decide_eq_true h)
  | intro _
  | omega)
theorem eqAddrS_T (ao bo:Option Addr)(n c d:Nat)(u:Nat→Nat→Int)(v:Nat→Nat→Bool):(exFn Tryz.prog {L:=[(4,egL [true,true,true] ao bo n c d u v)]} 400 Tryz.f83 ([.a (.c (.sl 0 ao n c)),.a (.c (.sl 1 bo n d))]) (egT [true,true,true] ao bo n u v) (fun w _=>w.den=.bool true))=(
 ((((n:Nat):Int) != ((n:Nat):Int))=true→(Wb false)=(Wb true))∧((((n:Nat):Int) != ((n:Nat):Int))=false→([Ws ao n c,Ws bo n d,Wu [],Wu [],Wb false,Wi 0,Ws ao n c,Wi ((n:Nat):Int),Ws bo n d,Wi ((n:Nat):Int),Wb false,Wu [],Wu [],Wu [],Wu [],Wu [],Wu [],Wu [],Wu [],Wu [],Wu [],Wu [],Wu [],Wu [],Wu [],Wu [],Wu []]=[Ws ao n c,Ws bo n d,Wu [],Wu [],Wb false,Wi 0,Ws ao n c,Wi ((n:Nat):Int),Ws bo n d,Wi ((n:Nat):Int),Wb false,Wu [],Wu [],Wu [],Wu [],Wu [],Wu [],Wu [],Wu [],Wu [],Wu [],Wu [],Wu [],Wu [],Wu [],Wu [],Wu []]∧[Hr false ao 0 3 n 0 [fun b=>Ci (u 0 b),fun b=>Ci (u 1 b),fun b=>Ci (u 2 b)],Hr false bo 0 3 n 0 [fun b=>Ci (u 0 b),fun b=>Ci (u 1 b),fun b=>Ci (u 2 b)]]=[Hr false ao 0 3 n 0 [fun b=>Ci (u 0 b),fun b=>Ci (u 1 b),fun b=>Ci (u 2 b)],Hr false bo 0 3 n 0 [fun b=>Ci (u 0 b),fun b=>Ci (u 1 b),fun b=>Ci (u 2 b)]])∧∀ b:Nat→Value,(Wb true)=(Wb true))):=by kernel_rfl
theorem sEqAddrS_ok:SmOK Tryz.prog 83 (sEgS [true,true,true]):=sEgS_ok Tryz.call83 Tryz.func83 (by kernel_rfl) (by kernel_rfl) (E:={tb:=[(12,sEqAddr)]}) ⟨sEqAddr_ok,trivial⟩ rfl eqAddrB_ok fun ao bo n c d u v hn=>by
 refine @Eq.mpr _ _ (eqAddrS_T ao bo n c d u v) ?_
 simp
 try (intros;rfl)
def sSzAddrS:Sm:=inlM Tryz.prog {tb:=[]} 300 Tryz.f21
theorem sSzAddrS_ok:SmOK Tryz.prog 21 sSzAddrS:=inlM_ok mixed (E:={tb:=[]}) trivial Tryz.func21 Tryz.call21 (fun _ _ _=>loopsOK_nil _ _ _)
def sToRequest:Sm:=inlM Tryz.prog {tb:=[]} 300 Tryz.f124
theorem sToRequest_ok:SmOK Tryz.prog 124 sToRequest:=inlM_ok mixed (E:={tb:=[]}) trivial Tryz.func124 Tryz.call124 (fun _ _ _=>loopsOK_nil _ _ _)
theorem toRequestB (ao:Option Addr)(n cap b j:Nat)(u:Nat→Nat→Int)(v:Nat→Nat→Bool)(g:Nat→Value)(NX:List SV→List Ch→Prop)(kx:Exit→List SV→List Ch→Prop):(exCode Tryz.prog {tb:=[(124,sToRequest)]} 400 (theLoop Tryz.f52 0) (tgH ao n cap b (.int (j:Int)) g) (tgT 199 [true,true,true,false,true,true] ao n b u v (flK (lowU u j) (lowW v j) 0 [true,true,true,false,true,true])) (loopK NX kx))=(
 (fun a:Option Addr=>(fun c:SV=>(fun d:SV=>(fun h:SV=>(fun k:SV=>(fun l:Bool=>(fun m:Prop=>(fun o:List SC=>(fun p:SV=>(fun q:Ch=>(l=true→ao=ao∧n=n∧m∧ao=ao∧j<n∧∀ r s t:Nat,r=r∧t=t∧r=r∧t=t∧r=r∧t=t∧r=r∧t=t∧r=r∧t=t∧r=r∧t=t∧t=t∧s=s∧s=s∧a=a∧n=n∧m∧a=a∧j<n∧rng (((j:Nat):Int)+(1:Int))∧NX [c,vV (g 1),vV (g 2),d,k,vV (g 5),vV (g 6),vV (g 7),h,c,iV ((n:Nat):Int),tV,h,k,d,h,c,h,rV 0 ao 6 j 0,p,p,rV 1 a 6 j 0,vV (g 22)] [q,Hr true a 199 6 n n [fun w=>Ci (if w=j then (u 0 j) else (if w<j then (u 0 w) else (0:Int))),fun w=>Ci (if w=j then (u 1 j) else (if w<j then (u 1 w) else (0:Int))),fun w=>Ci (if w=j then (u 2 j) else (if w<j then (u 2 w) else (0:Int))),fun w=>Cb (if w=j then (v 3 j) else (if w<j then (v 3 w) else false)),fun w=>Ci (if w=j then (u 4 j) else (if w<j then (u 4 w) else (0:Int))),fun w=>Ci (if w=j then (u 5 j) else (if w<j then (u 5 w) else (0:Int)))],Hc r 219 o,Hc s 199 o,Hc t 199 o])∧(l=false→kx (Exit.exit 0) [c,vV (g 1),vV (g 2),d,h,vV (g 5),vV (g 6),vV (g 7),h,c,iV ((n:Nat):Int),fV,vV (g 12),vV (g 13),vV (g 14),vV (g 15),vV (g 16),vV (g 17),vV (g 18),vV (g 19),vV (g 20),vV (g 21),vV (g 22)] [q,Hr true a 199 6 n n [fun r=>Ci (if r<j then (u 0 r) else (0:Int)),fun r=>Ci (if r<j then (u 1 r) else (0:Int)),fun r=>Ci (if r<j then (u 2 r) else (0:Int)),fun r=>Cb (if r<j then (v 3 r) else false),fun r=>Ci (if r<j then (u 4 r) else (0:Int)),fun r=>Ci (if r<j then (u 5 r) else (0:Int))]])) (Hr false ao 0 6 n 0 [fun q=>Ci (u 0 q),fun q=>Ci (u 1 q),fun q=>Ci (u 2 q),fun q=>Cb (v 3 q),fun q=>Ci (u 4 q),fun q=>Ci (u 5 q)])) (aV o)) [Ci (u 0 j),Ci (u 1 j),Ci (u 2 j),Cb (v 3 j),Ci (u 4 j),Ci (u 5 j)]) (0≤((j:Nat):Int)∧((j:Nat):Int)<((n:Nat):Int))) (decide (((j:Nat):Int)<((n:Nat):Int)))) (iV (((j:Nat):Int)+(1:Int)))) (iV ((j:Nat):Int))) (sV 1 a n n)) (sV 0 ao n cap)) (Ad b 0)):=by kernel_rfl
theorem toRequestB_ok:tgB Tryz.f52 {tb:=[(124,sToRequest)]} 199 [true,true,true,false,true,true]:=by
 intro ao n cap b j u v g X k hn hj hE
 refine (@Eq.mpr _ _ (toRequestB ao n cap b j u v g _ _) ?_)
 dsimp -zeta -proj -iota -eta -failIfUnchanged (etaStruct:=.none) only
 have hjb:rng ((j:Int)+1):=by simp only [rng];omega
 have hge:∀ h:decide ((j:Int)<(n:Int))=false,j=n:=fun h=>by have:=of_decide_eq_false h;omega
 repeat' (first
  | with_reducible exact rfl
  | exact True.intro
  | with_reducible assumption
  | (refine ⟨by omega,?_⟩;show Next _ _ _ _;refine Next.mk (fun g=>tgH ao n cap b (.int ((j+1:Nat):Int)) g) _ ⟨_,rfl,rfl⟩ (by kernel_rfl) fun w hw=>(hw.sel [0,1] (by simp)).re 1 _ rfl (flK (lowU u (j+1)) (lowW v (j+1)) 0 [true,true,true,false,true,true]) (FEq_fl (u:=setU u j) (v:=setW v j) (fun c i hi=>setU_low) (fun c i hi=>setW_low) [true,true,true,false,true,true] 0))
  | (intro h;have e:=hge h;subst e;show Next _ _ _ _;exact Next.pre (fun g=>tgH ao j cap b (.int (j:Int)) g) (hE rfl _) (by kernel_rfl) fun w hw=>hw)
  | refine And.intro ?_ ?_
  | apply Exists.intro
  | (intro h;replace h:=of_decide_eq_true h)
  | intro _
  | omega)
theorem toRequestS_T (ao:Option Addr)(n cap:Nat)(u:Nat→Nat→Int)(v:Nat→Nat→Bool):(exFn Tryz.prog {L:=[(3,tgL 199 [true,true,true,false,true,true] ao n cap u v)]} 400 Tryz.f52 ([.a (.c (.sl 0 ao n cap))]) ([.row ⟨false,ao,0,6,n,0,flK u v 0 [true,true,true,false,true,true]⟩]) (fun w ch=>∃ b,w.den=.slice (some ⟨b,0,none⟩) n n∧ch=tgT 199 [true,true,true,false,true,true] ao n b u v (flK u v 0 [true,true,true,false,true,true])))=(
 (fun d:Value=>(fun g:Value=>(fun h:List (Nat→SC)=>(fun j:List (Nat→SC)=>(fun k:Ch=>((n:Nat):Int)=((n:Nat):Int)∧mkC 48 ((n:Nat):Int)∧∀ l:Nat,(fun m:Value=>∃ o:Nat,([g,d,Wn,m,Wi 0,g,Wi ((n:Nat):Int),m,d,d,d,d,d,d,d,d,d,d,d,d,d,d,d]=[g,d,Wn,Ws (Ad o 0) n n,Wi 0,g,Wi ((n:Nat):Int),m,d,d,d,d,d,d,d,d,d,d,d,d,d,d,d]∧[k,Hr true (Ad l 0) 199 6 n n h]=[k,Hr true (Ad o 0) 199 6 n n h])∧∀ p:Nat→Value,∃ q:Nat,(Ws (Ad o 0) n n)=(Ws (Ad q 0) n n)∧[k,Hr true (Ad o 0) 199 6 n n j]=[k,Hr true (Ad q 0) 199 6 n n j]) (Ws (Ad l 0) n n)) (Hr false ao 0 6 n 0 j)) [fun j=>Ci (u 0 j),fun j=>Ci (u 1 j),fun j=>Ci (u 2 j),fun j=>Cb (v 3 j),fun j=>Ci (u 4 j),fun j=>Ci (u 5 j)]) [fun h=>Cl 0,fun h=>Cl 0,fun h=>Cl 0,fun h=>Cf,fun h=>Cl 0,fun h=>Cl 0]) (Ws ao n cap)) (Wu [])):=by kernel_rfl
theorem sToRequestS_ok:SmOK Tryz.prog 52 (sTgS 199 [true,true,true,false,true,true]):=sTgS_ok Tryz.call52 Tryz.func52 (by kernel_rfl) (by kernel_rfl) (E:={tb:=[(124,sToRequest)]}) ⟨sToRequest_ok,trivial⟩ rfl toRequestB_ok fun ao n cap u v hn=>by
 refine @Eq.mpr _ _ (toRequestS_T ao n cap u v) ?_
 dsimp -zeta -proj -iota -eta -failIfUnchanged (etaStruct:=.none) only
 repeat' (first | exact True.intro | exact rfl | (refine ⟨by omega,by omega,by omega⟩) | (refine fun b=>⟨b,⟨rfl,rfl⟩,fun g=>⟨b,rfl,rfl⟩⟩) | refine And.intro ?_ ?_)
def sEqRequest:Sm:=inlM Tryz.prog {tb:=[]} 300 Tryz.f154
theorem sEqRequest_ok:SmOK Tryz.prog 154 sEqRequest:=inlM_ok mixed (E:={tb:=[]}) trivial Tryz.func154 Tryz.call154 (fun _ _ _=>loopsOK_nil _ _ _)
theorem eqRequestB (ao bo:Option Addr)(n c d j:Nat)(u:Nat→Nat→Int)(v:Nat→Nat→Bool)(g:Nat→Value)(NX:List SV→List Ch→Prop)(kx:Exit→List SV→List Ch→Prop):(exCode Tryz.prog {tb:=[(154,sEqRequest)]} 400 (theLoop Tryz.f84 0) (egH ao bo n c d (.int (j:Int)) g) (egT [true,true,true,false,true,true] ao bo n u v) (loopK NX kx))=(
 (fun a:SV=>(fun b:SV=>(fun h:SV=>(fun k:SV=>(fun l:SV=>(fun m:Bool=>(fun o:Prop=>(fun p:List SC=>(fun q:SV=>(fun r:List (Nat→SC)=>(fun s:Ch=>(fun t:Ch=>(fun w:List SV=>(m=true→ao=ao∧n=n∧o∧ao=ao∧j<n∧bo=bo∧n=n∧o∧bo=bo∧j<n∧∀ x y:Nat,(fun z:Prop=>x=x∧y=y∧(((u 0 j) != (u 0 j))=true→z)∧(((u 0 j) != (u 0 j))=false→x=x∧y=y∧(((u 1 j) != (u 1 j))=true→z)∧(((u 1 j) != (u 1 j))=false→x=x∧y=y∧(((u 2 j) != (u 2 j))=true→z)∧(((u 2 j) != (u 2 j))=false→x=x∧y=y∧(((v 3 j) != (v 3 j))=true→z)∧(((v 3 j) != (v 3 j))=false→x=x∧y=y∧(((u 4 j) != (u 4 j))=true→z)∧(((u 4 j) != (u 4 j))=false→x=x∧y=y∧(((u 5 j) != (u 5 j))=true→z)∧(((u 5 j) != (u 5 j))=false→True∧rng (((j:Nat):Int)+(1:Int))∧NX [b,a,vV (g 2),vV (g 3),fV,l,vV (g 6),vV (g 7),vV (g 8),vV (g 9),vV (g 10),k,b,h,tV,k,l,b,k,rV 0 ao 6 j 0,q,a,k,rV 1 bo 6 j 0,q,tV,fV] [t,s,Hc x 199 p,Hc y 199 p]))))))) (True∧kx Exit.ret w [t,s,Hc x 199 p,Hc y 199 p]))∧(m=false→kx (Exit.exit 0) [b,a,vV (g 2),vV (g 3),fV,k,vV (g 6),vV (g 7),vV (g 8),vV (g 9),vV (g 10),k,b,h,fV,vV (g 15),vV (g 16),vV (g 17),vV (g 18),vV (g 19),vV (g 20),vV (g 21),vV (g 22),vV (g 23),vV (g 24),vV (g 25),vV (g 26)] [t,s])) [b,a,vV (g 2),vV (g 3),fV,k,vV (g 6),vV (g 7),vV (g 8),vV (g 9),vV (g 10),k,b,h,tV,vV (g 15),vV (g 16),b,k,rV 0 ao 6 j 0,q,a,k,rV 1 bo 6 j 0,q,fV,tV]) (Hr false ao 0 6 n 0 r)) (Hr false bo 0 6 n 0 r)) [fun r=>Ci (u 0 r),fun r=>Ci (u 1 r),fun r=>Ci (u 2 r),fun r=>Cb (v 3 r),fun r=>Ci (u 4 r),fun r=>Ci (u 5 r)]) (aV p)) [Ci (u 0 j),Ci (u 1 j),Ci (u 2 j),Cb (v 3 j),Ci (u 4 j),Ci (u 5 j)]) (0≤((j:Nat):Int)∧((j:Nat):Int)<((n:Nat):Int))) (decide (((j:Nat):Int)<((n:Nat):Int)))) (iV (((j:Nat):Int)+(1:Int)))) (iV ((j:Nat):Int))) (iV ((n:Nat):Int))) (sV 0 ao n c)) (sV 1 bo n d)):=by kernel_rfl
theorem eqRequestB_ok:egB Tryz.f84 {tb:=[(154,sEqRequest)]} [true,true,true,false,true,true]:=by
 intro ao bo n c d j u v g X k hn hj hE
 refine (@Eq.mpr _ _ (eqRequestB ao bo n c d j u v g _ _) ?_)
 dsimp -zeta -proj -iota -eta -failIfUnchanged (etaStruct:=.none) only
 have hjb:rng ((j:Int)+1):=by simp only [rng];omega
 have hge:∀ h:decide ((j:Int)<(n:Int))=false,j=n:=fun h=>by have:=of_decide_eq_false h;omega
 repeat' (first
  | with_reducible exact rfl
  | exact True.intro
  | with_reducible assumption
  | (refine ⟨by omega,?_⟩;show Next _ _ _ _;exact Next.mk (fun g=>egH ao bo n c d (.int ((j+1:Nat):Int)) g) _ ⟨_,rfl,rfl⟩ (by kernel_rfl) fun w hw=>hw.sel [0,1] (by simp))
  | (intro h;have e:=hge h;subst e;show Next _ _ _ _;exact Next.pre (fun g=>egH ao bo j c d (.int (j:Int)) g) (hE rfl _) (by kernel_rfl) fun w hw=>hw)
  | refine And.intro ?_ ?_
  | apply Exists.intro
  | (intro h;exfalso;simp at h;done)
  | (intro h;replace h:=of_decide_eq_true h)
  | intro _
  | omega)
theorem eqRequestS_T (ao bo:Option Addr)(n c d:Nat)(u:Nat→Nat→Int)(v:Nat→Nat→Bool):(exFn Tryz.prog {L:=[(4,egL [true,true,true,false,true,true] ao bo n c d u v)]} 400 Tryz.f84 ([.a (.c (.sl 0 ao n c)),.a (.c (.sl 1 bo n d))]) (egT [true,true,true,false,true,true] ao bo n u v) (fun w _=>w.den=.bool true))=(
 (fun b:Value=>(fun g:Bool=>(fun h:List (Nat→SC)=>(fun j:List Value=>(fun k:List Ch=>(g=true→(Wb false)=(Wb true))∧(g=false→(j=j∧k=k)∧∀ l:Nat→Value,(Wb true)=(Wb true))) [Hr false ao 0 6 n 0 h,Hr false bo 0 6 n 0 h]) [Ws ao n c,Ws bo n d,b,b,Wb false,Wi 0,Ws ao n c,Wi ((n:Nat):Int),Ws bo n d,Wi ((n:Nat):Int),Wb false,b,b,b,b,b,b,b,b,b,b,b,b,b,b,b,b]) [fun h=>Ci (u 0 h),fun h=>Ci (u 1 h),fun h=>Ci (u 2 h),fun h=>Cb (v 3 h),fun h=>Ci (u 4 h),fun h=>Ci (u 5 h)]) (((n:Nat):Int) != ((n:Nat):Int))) (Wu [])):=by kernel_rfl
theorem sEqRequestS_ok:SmOK Tryz.prog 84 (sEgS [true,true,true,false,true,true]):=sEgS_ok Tryz.call84 Tryz.func84 (by kernel_rfl) (by kernel_rfl) (E:={tb:=[(154,sEqRequest)]}) ⟨sEqRequest_ok,trivial⟩ rfl eqRequestB_ok fun ao bo n c d u v hn=>by
 refine @Eq.mpr _ _ (eqRequestS_T ao bo n c d u v) ?_
 dsimp -zeta -proj -iota -eta -failIfUnchanged (etaStruct:=.none) only
 simp
 try (intros;rfl)
def sSzRequestS:Sm:=inlM Tryz.prog {tb:=[]} 300 Tryz.f22
theorem sSzRequestS_ok:SmOK Tryz.prog 22 sSzRequestS:=inlM_ok mixed (E:={tb:=[]}) trivial Tryz.func22 Tryz.call22 (fun _ _ _=>loopsOK_nil _ _ _)
def sToShare:Sm:=inlM Tryz.prog {tb:=[]} 300 Tryz.f125
theorem sToShare_ok:SmOK Tryz.prog 125 sToShare:=inlM_ok mixed (E:={tb:=[]}) trivial Tryz.func125 Tryz.call125 (fun _ _ _=>loopsOK_nil _ _ _)
theorem toShareB (ao:Option Addr)(n cap b j:Nat)(u:Nat→Nat→Int)(v:Nat→Nat→Bool)(g:Nat→Value)(NX:List SV→List Ch→Prop)(kx:Exit→List SV→List Ch→Prop):(exCode Tryz.prog {tb:=[(125,sToShare)]} 400 (theLoop Tryz.f53 0) (tgH ao n cap b (.int (j:Int)) g) (tgT 203 [true,true] ao n b u v (flK (lowU u j) (lowW v j) 0 [true,true])) (loopK NX kx))=(
 (fun a:Option Addr=>(fun c:SV=>(fun d:SV=>(fun h:SV=>(fun k:List SC=>(fun l:SV=>(fun m:SV=>(fun o:Bool=>(fun p:Prop=>(fun q:Ch=>(o=true→ao=ao∧n=n∧p∧ao=ao∧j<n∧∀ r s t:Nat,r=r∧t=t∧r=r∧t=t∧t=t∧s=s∧s=s∧a=a∧n=n∧p∧a=a∧j<n∧rng (((j:Nat):Int)+(1:Int))∧NX [c,vV (g 1),vV (g 2),d,m,vV (g 5),vV (g 6),vV (g 7),h,c,iV ((n:Nat):Int),tV,h,m,d,h,c,h,rV 0 ao 2 j 0,l,l,rV 1 a 2 j 0,vV (g 22)] [q,Hr true a 203 2 n n [fun w=>Ci (if w=j then (u 0 j) else (if w<j then (u 0 w) else (0:Int))),fun w=>Ci (if w=j then (u 1 j) else (if w<j then (u 1 w) else (0:Int)))],Hc r 221 k,Hc s 203 k,Hc t 203 k])∧(o=false→kx (Exit.exit 0) [c,vV (g 1),vV (g 2),d,h,vV (g 5),vV (g 6),vV (g 7),h,c,iV ((n:Nat):Int),fV,vV (g 12),vV (g 13),vV (g 14),vV (g 15),vV (g 16),vV (g 17),vV (g 18),vV (g 19),vV (g 20),vV (g 21),vV (g 22)] [q,Hr true a 203 2 n n [fun r=>Ci (if r<j then (u 0 r) else (0:Int)),fun r=>Ci (if r<j then (u 1 r) else (0:Int))]])) (Hr false ao 0 2 n 0 [fun q=>Ci (u 0 q),fun q=>Ci (u 1 q)])) (0≤((j:Nat):Int)∧((j:Nat):Int)<((n:Nat):Int))) (decide (((j:Nat):Int)<((n:Nat):Int)))) (iV (((j:Nat):Int)+(1:Int)))) (aV k)) [Ci (u 0 j),Ci (u 1 j)]) (iV ((j:Nat):Int))) (sV 1 a n n)) (sV 0 ao n cap)) (Ad b 0)):=by kernel_rfl
theorem toShareB_ok:tgB Tryz.f53 {tb:=[(125,sToShare)]} 203 [true,true]:=by
 intro ao n cap b j u v g X k hn hj hE
 refine (@Eq.mpr _ _ (toShareB ao n cap b j u v g _ _) ?_)
 dsimp -zeta -proj -iota -eta -failIfUnchanged (etaStruct:=.none) only
 have hjb:rng ((j:Int)+1):=by simp only [rng];omega
 have hge:∀ h:decide ((j:Int)<(n:Int))=false,j=n:=fun h=>by have:=of_decide_eq_false h;omega
 repeat' (first
  | with_reducible exact rfl
  | exact True.intro
  | with_reducible assumption
  | (refine ⟨by omega,?_⟩;show Next _ _ _ _;refine Next.mk (fun g=>tgH ao n cap b (.int ((j+1:Nat):Int)) g) _ ⟨_,rfl,rfl⟩ (by kernel_rfl) fun w hw=>(hw.sel [0,1] (by simp)).re 1 _ rfl (flK (lowU u (j+1)) (lowW v (j+1)) 0 [true,true]) (FEq_fl (u:=setU u j) (v:=setW v j) (fun c i hi=>setU_low) (fun c i hi=>setW_low) [true,true] 0))
  | (intro h;have e:=hge h;subst e;show Next _ _ _ _;exact Next.pre (fun g=>tgH ao j cap b (.int (j:Int)) g) (hE rfl _) (by kernel_rfl) fun w hw=>hw)
  | refine And.intro ?_ ?_
  | apply Exists.intro
  | (intro h;replace h:=of_decide_eq_true h)
  | intro _
  | omega)
theorem toShareS_T (ao:Option Addr)(n cap:Nat)(u:Nat→Nat→Int)(v:Nat→Nat→Bool):(exFn Tryz.prog {L:=[(3,tgL 203 [true,true] ao n cap u v)]} 400 Tryz.f53 ([.a (.c (.sl 0 ao n cap))]) ([.row ⟨false,ao,0,2,n,0,flK u v 0 [true,true]⟩]) (fun w ch=>∃ b,w.den=.slice (some ⟨b,0,none⟩) n n∧ch=tgT 203 [true,true] ao n b u v (flK u v 0 [true,true])))=(
 ((n:Nat):Int)=((n:Nat):Int)∧mkC 16 ((n:Nat):Int)∧∀ d:Nat,∃ g:Nat,([Ws ao n cap,Wu [],Wn,Ws (Ad d 0) n n,Wi 0,Ws ao n cap,Wi ((n:Nat):Int),Ws (Ad d 0) n n,Wu [],Wu [],Wu [],Wu [],Wu [],Wu [],Wu [],Wu [],Wu [],Wu [],Wu [],Wu [],Wu [],Wu [],Wu []]=[Ws ao n cap,Wu [],Wn,Ws (Ad g 0) n n,Wi 0,Ws ao n cap,Wi ((n:Nat):Int),Ws (Ad d 0) n n,Wu [],Wu [],Wu [],Wu [],Wu [],Wu [],Wu [],Wu [],Wu [],Wu [],Wu [],Wu [],Wu [],Wu [],Wu []]∧[Hr false ao 0 2 n 0 [fun h=>Ci (u 0 h),fun h=>Ci (u 1 h)],Hr true (Ad d 0) 203 2 n n [fun h=>Cl 0,fun h=>Cl 0]]=[Hr false ao 0 2 n 0 [fun h=>Ci (u 0 h),fun h=>Ci (u 1 h)],Hr true (Ad g 0) 203 2 n n [fun h=>Cl 0,fun h=>Cl 0]])∧∀ h:Nat→Value,∃ j:Nat,(Ws (Ad g 0) n n)=(Ws (Ad j 0) n n)∧[Hr false ao 0 2 n 0 [fun k=>Ci (u 0 k),fun k=>Ci (u 1 k)],Hr true (Ad g 0) 203 2 n n [fun k=>Ci (u 0 k),fun k=>Ci (u 1 k)]]=[Hr false ao 0 2 n 0 [fun k=>Ci (u 0 k),fun k=>Ci (u 1 k)],Hr true (Ad j 0) 203 2 n n [fun k=>Ci (u 0 k),fun k=>Ci (u 1 k)]]):=by kernel_rfl
theorem sToShareS_ok:SmOK Tryz.prog 53 (sTgS 203 [true,true]):=sTgS_ok Tryz.call53 Tryz.func53 (by kernel_rfl) (by kernel_rfl) (E:={tb:=[(125,sToShare)]}) ⟨sToShare_ok,trivial⟩ rfl toShareB_ok fun ao n cap u v hn=>by
 refine @Eq.mpr _ _ (toShareS_T ao n cap u v) ?_
 repeat' (first | exact True.intro | exact rfl | (refine ⟨by omega,by omega,by omega⟩) | (refine fun b=>⟨b,⟨rfl,rfl⟩,fun g=>⟨b,rfl,rfl⟩⟩) | refine And.intro ?_ ?_)
def sEqShare:Sm:=inlM Tryz.prog {tb:=[]} 300 Tryz.f155
theorem sEqShare_ok:SmOK Tryz.prog 155 sEqShare:=inlM_ok mixed (E:={tb:=[]}) trivial Tryz.func155 Tryz.call155 (fun _ _ _=>loopsOK_nil _ _ _)
theorem eqShareB (ao bo:Option Addr)(n c d j:Nat)(u:Nat→Nat→Int)(v:Nat→Nat→Bool)(g:Nat→Value)(NX:List SV→List Ch→Prop)(kx:Exit→List SV→List Ch→Prop):(exCode Tryz.prog {tb:=[(155,sEqShare)]} 400 (theLoop Tryz.f85 0) (egH ao bo n c d (.int (j:Int)) g) (egT [true,true] ao bo n u v) (loopK NX kx))=(
 (fun a:SV=>(fun b:SV=>(fun h:SV=>(fun k:SV=>(fun l:List SC=>(fun m:SV=>(fun o:SV=>(fun p:List (Nat→SC)=>(fun q:Bool=>(fun r:Prop=>(fun s:Ch=>(fun t:Ch=>(fun w:List SV=>(q=true→ao=ao∧n=n∧r∧ao=ao∧j<n∧bo=bo∧n=n∧r∧bo=bo∧j<n∧∀ x y:Nat,(fun z:Prop=>x=x∧y=y∧(((u 0 j) != (u 0 j))=true→z)∧(((u 0 j) != (u 0 j))=false→x=x∧y=y∧(((u 1 j) != (u 1 j))=true→z)∧(((u 1 j) != (u 1 j))=false→True∧rng (((j:Nat):Int)+(1:Int))∧NX [b,a,vV (g 2),vV (g 3),fV,o,vV (g 6),vV (g 7),vV (g 8),vV (g 9),vV (g 10),k,b,h,tV,k,o,b,k,rV 0 ao 2 j 0,m,a,k,rV 1 bo 2 j 0,m,tV,fV] [t,s,Hc x 203 l,Hc y 203 l]))) (True∧kx Exit.ret w [t,s,Hc x 203 l,Hc y 203 l]))∧(q=false→kx (Exit.exit 0) [b,a,vV (g 2),vV (g 3),fV,k,vV (g 6),vV (g 7),vV (g 8),vV (g 9),vV (g 10),k,b,h,fV,vV (g 15),vV (g 16),vV (g 17),vV (g 18),vV (g 19),vV (g 20),vV (g 21),vV (g 22),vV (g 23),vV (g 24),vV (g 25),vV (g 26)] [t,s])) [b,a,vV (g 2),vV (g 3),fV,k,vV (g 6),vV (g 7),vV (g 8),vV (g 9),vV (g 10),k,b,h,tV,vV (g 15),vV (g 16),b,k,rV 0 ao 2 j 0,m,a,k,rV 1 bo 2 j 0,m,fV,tV]) (Hr false ao 0 2 n 0 p)) (Hr false bo 0 2 n 0 p)) (0≤((j:Nat):Int)∧((j:Nat):Int)<((n:Nat):Int))) (decide (((j:Nat):Int)<((n:Nat):Int)))) [fun p=>Ci (u 0 p),fun p=>Ci (u 1 p)]) (iV (((j:Nat):Int)+(1:Int)))) (aV l)) [Ci (u 0 j),Ci (u 1 j)]) (iV ((j:Nat):Int))) (iV ((n:Nat):Int))) (sV 0 ao n c)) (sV 1 bo n d)):=by kernel_rfl
theorem eqShareB_ok:egB Tryz.f85 {tb:=[(155,sEqShare)]} [true,true]:=by
 intro ao bo n c d j u v g X k hn hj hE
 refine (@Eq.mpr _ _ (eqShareB ao bo n c d j u v g _ _) ?_)
 dsimp -zeta -proj -iota -eta -failIfUnchanged (etaStruct:=.none) only
 have hjb:rng ((j:Int)+1):=by simp only [rng];omega
 have hge:∀ h:decide ((j:Int)<(n:Int))=false,j=n:=fun h=>by have:=of_decide_eq_false h;omega
 repeat' (first
  | with_reducible exact rfl
  | exact True.intro
  | with_reducible assumption
  | (refine ⟨by omega,?_⟩;show Next _ _ _ _;exact Next.mk (fun g=>egH ao bo n c d (.int ((j+1:Nat):Int)) g) _ ⟨_,rfl,rfl⟩ (by kernel_rfl) fun w hw=>hw.sel [0,1] (by simp))
  | (intro h;have e:=hge h;subst e;show Next _ _ _ _;exact Next.pre (fun g=>egH ao bo j c d (.int (j:Int)) g) (hE rfl _) (by kernel_rfl) fun w hw=>hw)
  | refine And.intro ?_ ?_
  | apply Exists.intro
  | (intro h;exfalso;simp at h;done)
  | (intro h;replace h:=of_decide_eq_true h)
  | intro _
  | omega)
theorem eqShareS_T (ao bo:Option Addr)(n c d:Nat)(u:Nat→Nat→Int)(v:Nat→Nat→Bool):(exFn Tryz.prog {L:=[(4,egL [true,true] ao bo n c d u v)]} 400 Tryz.f85 ([.a (.c (.sl 0 ao n c)),.a (.c (.sl 1 bo n d))]) (egT [true,true] ao bo n u v) (fun w _=>w.den=.bool true))=(
 ((((n:Nat):Int) != ((n:Nat):Int))=true→(Wb false)=(Wb true))∧((((n:Nat):Int) != ((n:Nat):Int))=false→([Ws ao n c,Ws bo n d,Wu [],Wu [],Wb false,Wi 0,Ws ao n c,Wi ((n:Nat):Int),Ws bo n d,Wi ((n:Nat):Int),Wb false,Wu [],Wu [],Wu [],Wu [],Wu [],Wu [],Wu [],Wu [],Wu [],Wu [],Wu [],Wu [],Wu [],Wu [],Wu [],Wu []]=[Ws ao n c,Ws bo n d,Wu [],Wu [],Wb false,Wi 0,Ws ao n c,Wi ((n:Nat):Int),Ws bo n d,Wi ((n:Nat):Int),Wb false,Wu [],Wu [],Wu [],Wu [],Wu [],Wu [],Wu [],Wu [],Wu [],Wu [],Wu [],Wu [],Wu [],Wu [],Wu [],Wu []]∧[Hr false ao 0 2 n 0 [fun b=>Ci (u 0 b),fun b=>Ci (u 1 b)],Hr false bo 0 2 n 0 [fun b=>Ci (u 0 b),fun b=>Ci (u 1 b)]]=[Hr false ao 0 2 n 0 [fun b=>Ci (u 0 b),fun b=>Ci (u 1 b)],Hr false bo 0 2 n 0 [fun b=>Ci (u 0 b),fun b=>Ci (u 1 b)]])∧∀ b:Nat→Value,(Wb true)=(Wb true))):=by kernel_rfl
theorem sEqShareS_ok:SmOK Tryz.prog 85 (sEgS [true,true]):=sEgS_ok Tryz.call85 Tryz.func85 (by kernel_rfl) (by kernel_rfl) (E:={tb:=[(155,sEqShare)]}) ⟨sEqShare_ok,trivial⟩ rfl eqShareB_ok fun ao bo n c d u v hn=>by
 refine @Eq.mpr _ _ (eqShareS_T ao bo n c d u v) ?_
 simp
 try (intros;rfl)
def sSzShareS:Sm:=inlM Tryz.prog {tb:=[]} 300 Tryz.f23
theorem sSzShareS_ok:SmOK Tryz.prog 23 sSzShareS:=inlM_ok mixed (E:={tb:=[]}) trivial Tryz.func23 Tryz.call23 (fun _ _ _=>loopsOK_nil _ _ _)
def sToErrorEntry:Sm:=inlM Tryz.prog {tb:=[]} 300 Tryz.f126
theorem sToErrorEntry_ok:SmOK Tryz.prog 126 sToErrorEntry:=inlM_ok mixed (E:={tb:=[]}) trivial Tryz.func126 Tryz.call126 (fun _ _ _=>loopsOK_nil _ _ _)
theorem toErrorEntryB (ao:Option Addr)(n cap b j:Nat)(u:Nat→Nat→Int)(v:Nat→Nat→Bool)(g:Nat→Value)(NX:List SV→List Ch→Prop)(kx:Exit→List SV→List Ch→Prop):(exCode Tryz.prog {tb:=[(126,sToErrorEntry)]} 400 (theLoop Tryz.f57 0) (tgH ao n cap b (.int (j:Int)) g) (tgT 206 [true,true,true] ao n b u v (flK (lowU u j) (lowW v j) 0 [true,true,true])) (loopK NX kx))=(
 (fun a:Option Addr=>(fun c:SV=>(fun d:SV=>(fun h:SV=>(fun k:SV=>(fun l:List SC=>(fun m:SV=>(fun o:Bool=>(fun p:Prop=>(fun q:Ch=>(o=true→ao=ao∧n=n∧p∧ao=ao∧j<n∧∀ r s t:Nat,r=r∧t=t∧r=r∧t=t∧r=r∧t=t∧t=t∧s=s∧s=s∧a=a∧n=n∧p∧a=a∧j<n∧rng (((j:Nat):Int)+(1:Int))∧NX [c,vV (g 1),vV (g 2),d,k,vV (g 5),vV (g 6),vV (g 7),h,c,iV ((n:Nat):Int),tV,h,k,d,h,c,h,rV 0 ao 3 j 0,m,m,rV 1 a 3 j 0,vV (g 22)] [q,Hr true a 206 3 n n [fun w=>Ci (if w=j then (u 0 j) else (if w<j then (u 0 w) else (0:Int))),fun w=>Ci (if w=j then (u 1 j) else (if w<j then (u 1 w) else (0:Int))),fun w=>Ci (if w=j then (u 2 j) else (if w<j then (u 2 w) else (0:Int)))],Hc r 223 l,Hc s 206 l,Hc t 206 l])∧(o=false→kx (Exit.exit 0) [c,vV (g 1),vV (g 2),d,h,vV (g 5),vV (g 6),vV (g 7),h,c,iV ((n:Nat):Int),fV,vV (g 12),vV (g 13),vV (g 14),vV (g 15),vV (g 16),vV (g 17),vV (g 18),vV (g 19),vV (g 20),vV (g 21),vV (g 22)] [q,Hr true a 206 3 n n [fun r=>Ci (if r<j then (u 0 r) else (0:Int)),fun r=>Ci (if r<j then (u 1 r) else (0:Int)),fun r=>Ci (if r<j then (u 2 r) else (0:Int))]])) (Hr false ao 0 3 n 0 [fun q=>Ci (u 0 q),fun q=>Ci (u 1 q),fun q=>Ci (u 2 q)])) (0≤((j:Nat):Int)∧((j:Nat):Int)<((n:Nat):Int))) (decide (((j:Nat):Int)<((n:Nat):Int)))) (aV l)) [Ci (u 0 j),Ci (u 1 j),Ci (u 2 j)]) (iV (((j:Nat):Int)+(1:Int)))) (iV ((j:Nat):Int))) (sV 1 a n n)) (sV 0 ao n cap)) (Ad b 0)):=by kernel_rfl
theorem toErrorEntryB_ok:tgB Tryz.f57 {tb:=[(126,sToErrorEntry)]} 206 [true,true,true]:=by
 intro ao n cap b j u v g X k hn hj hE
 refine (@Eq.mpr _ _ (toErrorEntryB ao n cap b j u v g _ _) ?_)
 dsimp -zeta -proj -iota -eta -failIfUnchanged (etaStruct:=.none) only
 have hjb:rng ((j:Int)+1):=by simp only [rng];omega
 have hge:∀ h:decide ((j:Int)<(n:Int))=false,j=n:=fun h=>by have:=of_decide_eq_false h;omega
 repeat' (first
  | with_reducible exact rfl
  | exact True.intro
  | with_reducible assumption
  | (refine ⟨by omega,?_⟩;show Next _ _ _ _;refine Next.mk (fun g=>tgH ao n cap b (.int ((j+1:Nat):Int)) g) _ ⟨_,rfl,rfl⟩ (by kernel_rfl) fun w hw=>(hw.sel [0,1] (by simp)).re 1 _ rfl (flK (lowU u (j+1)) (lowW v (j+1)) 0 [true,true,true]) (FEq_fl (u:=setU u j) (v:=setW v j) (fun c i hi=>setU_low) (fun c i hi=>setW_low) [true,true,true] 0))
  | (intro h;have e:=hge h;subst e;show Next _ _ _ _;exact Next.pre (fun g=>tgH ao j cap b (.int (j:Int)) g) (hE rfl _) (by kernel_rfl) fun w hw=>hw)
  | refine And.intro ?_ ?_
  | apply Exists.intro
  | (intro h;replace h:=of_decide_eq_true h)
  | intro _
  | omega)
theorem toErrorEntryS_T (ao:Option Addr)(n cap:Nat)(u:Nat→Nat→Int)(v:Nat→Nat→Bool):(exFn Tryz.prog {L:=[(3,tgL 206 [true,true,true] ao n cap u v)]} 400 Tryz.f57 ([.a (.c (.sl 0 ao n cap))]) ([.row ⟨false,ao,0,3,n,0,flK u v 0 [true,true,true]⟩]) (fun w ch=>∃ b,w.den=.slice (some ⟨b,0,none⟩) n n∧ch=tgT 206 [true,true,true] ao n b u v (flK u v 0 [true,true,true])))=(
 (fun d:Value=>(fun g:Value=>(fun h:List (Nat→SC)=>(fun j:List (Nat→SC)=>(fun k:Ch=>((n:Nat):Int)=((n:Nat):Int)∧mkC 24 ((n:Nat):Int)∧∀ l:Nat,(fun m:Value=>∃ o:Nat,([g,d,Wn,m,Wi 0,g,Wi ((n:Nat):Int),m,d,d,d,d,d,d,d,d,d,d,d,d,d,d,d]=[g,d,Wn,Ws (Ad o 0) n n,Wi 0,g,Wi ((n:Nat):Int),m,d,d,d,d,d,d,d,d,d,d,d,d,d,d,d]∧[k,Hr true (Ad l 0) 206 3 n n h]=[k,Hr true (Ad o 0) 206 3 n n h])∧∀ p:Nat→Value,∃ q:Nat,(Ws (Ad o 0) n n)=(Ws (Ad q 0) n n)∧[k,Hr true (Ad o 0) 206 3 n n j]=[k,Hr true (Ad q 0) 206 3 n n j]) (Ws (Ad l 0) n n)) (Hr false ao 0 3 n 0 j)) [fun j=>Ci (u 0 j),fun j=>Ci (u 1 j),fun j=>Ci (u 2 j)]) [fun h=>Cl 0,fun h=>Cl 0,fun h=>Cl 0]) (Ws ao n cap)) (Wu [])):=by kernel_rfl
theorem sToErrorEntryS_ok:SmOK Tryz.prog 57 (sTgS 206 [true,true,true]):=sTgS_ok Tryz.call57 Tryz.func57 (by kernel_rfl) (by kernel_rfl) (E:={tb:=[(126,sToErrorEntry)]}) ⟨sToErrorEntry_ok,trivial⟩ rfl toErrorEntryB_ok fun ao n cap u v hn=>by
 refine @Eq.mpr _ _ (toErrorEntryS_T ao n cap u v) ?_
 dsimp -zeta -proj -iota -eta -failIfUnchanged (etaStruct:=.none) only
 repeat' (first | exact True.intro | exact rfl | (refine ⟨by omega,by omega,by omega⟩) | (refine fun b=>⟨b,⟨rfl,rfl⟩,fun g=>⟨b,rfl,rfl⟩⟩) | refine And.intro ?_ ?_)
def sEqErrorEntry:Sm:=inlM Tryz.prog {tb:=[]} 300 Tryz.f156
theorem sEqErrorEntry_ok:SmOK Tryz.prog 156 sEqErrorEntry:=inlM_ok mixed (E:={tb:=[]}) trivial Tryz.func156 Tryz.call156 (fun _ _ _=>loopsOK_nil _ _ _)
theorem eqErrorEntryB (ao bo:Option Addr)(n c d j:Nat)(u:Nat→Nat→Int)(v:Nat→Nat→Bool)(g:Nat→Value)(NX:List SV→List Ch→Prop)(kx:Exit→List SV→List Ch→Prop):(exCode Tryz.prog {tb:=[(156,sEqErrorEntry)]} 400 (theLoop Tryz.f89 0) (egH ao bo n c d (.int (j:Int)) g) (egT [true,true,true] ao bo n u v) (loopK NX kx))=(
 (fun a:SV=>(fun b:SV=>(fun h:SV=>(fun k:SV=>(fun l:SV=>(fun m:List SC=>(fun o:SV=>(fun p:Bool=>(fun q:Prop=>(fun r:List (Nat→SC)=>(fun s:Ch=>(fun t:Ch=>(fun w:List SV=>(p=true→ao=ao∧n=n∧q∧ao=ao∧j<n∧bo=bo∧n=n∧q∧bo=bo∧j<n∧∀ x y:Nat,(fun z:Prop=>x=x∧y=y∧(((u 0 j) != (u 0 j))=true→z)∧(((u 0 j) != (u 0 j))=false→x=x∧y=y∧(((u 1 j) != (u 1 j))=true→z)∧(((u 1 j) != (u 1 j))=false→x=x∧y=y∧(((u 2 j) != (u 2 j))=true→z)∧(((u 2 j) != (u 2 j))=false→True∧rng (((j:Nat):Int)+(1:Int))∧NX [b,a,vV (g 2),vV (g 3),fV,l,vV (g 6),vV (g 7),vV (g 8),vV (g 9),vV (g 10),k,b,h,tV,k,l,b,k,rV 0 ao 3 j 0,o,a,k,rV 1 bo 3 j 0,o,tV,fV] [t,s,Hc x 206 m,Hc y 206 m])))) (True∧kx Exit.ret w [t,s,Hc x 206 m,Hc y 206 m]))∧(p=false→kx (Exit.exit 0) [b,a,vV (g 2),vV (g 3),fV,k,vV (g 6),vV (g 7),vV (g 8),vV (g 9),vV (g 10),k,b,h,fV,vV (g 15),vV (g 16),vV (g 17),vV (g 18),vV (g 19),vV (g 20),vV (g 21),vV (g 22),vV (g 23),vV (g 24),vV (g 25),vV (g 26)] [t,s])) [b,a,vV (g 2),vV (g 3),fV,k,vV (g 6),vV (g 7),vV (g 8),vV (g 9),vV (g 10),k,b,h,tV,vV (g 15),vV (g 16),b,k,rV 0 ao 3 j 0,o,a,k,rV 1 bo 3 j 0,o,fV,tV]) (Hr false ao 0 3 n 0 r)) (Hr false bo 0 3 n 0 r)) [fun r=>Ci (u 0 r),fun r=>Ci (u 1 r),fun r=>Ci (u 2 r)]) (0≤((j:Nat):Int)∧((j:Nat):Int)<((n:Nat):Int))) (decide (((j:Nat):Int)<((n:Nat):Int)))) (aV m)) [Ci (u 0 j),Ci (u 1 j),Ci (u 2 j)]) (iV (((j:Nat):Int)+(1:Int)))) (iV ((j:Nat):Int))) (iV ((n:Nat):Int))) (sV 0 ao n c)) (sV 1 bo n d)):=by kernel_rfl
theorem eqErrorEntryB_ok:egB Tryz.f89 {tb:=[(156,sEqErrorEntry)]} [true,true,true]:=by
 intro ao bo n c d j u v g X k hn hj hE
 refine (@Eq.mpr _ _ (eqErrorEntryB ao bo n c d j u v g _ _) ?_)
 dsimp -zeta -proj -iota -eta -failIfUnchanged (etaStruct:=.none) only
 have hjb:rng ((j:Int)+1):=by simp only [rng];omega
 have hge:∀ h:decide ((j:Int)<(n:Int))=false,j=n:=fun h=>by have:=of_decide_eq_false h;omega
 repeat' (first
  | with_reducible exact rfl
  | exact True.intro
  | with_reducible assumption
  | (refine ⟨by omega,?_⟩;show Next _ _ _ _;exact Next.mk (fun g=>egH ao bo n c d (.int ((j+1:Nat):Int)) g) _ ⟨_,rfl,rfl⟩ (by kernel_rfl) fun w hw=>hw.sel [0,1] (by simp))
  | (intro h;have e:=hge h;subst e;show Next _ _ _ _;exact Next.pre (fun g=>egH ao bo j c d (.int (j:Int)) g) (hE rfl _) (by kernel_rfl) fun w hw=>hw)
  | refine And.intro ?_ ?_
  | apply Exists.intro
  | (intro h;exfalso;simp at h;done)
  | (intro h;replace h:=of_decide_eq_true h)
  | intro _
  | omega)
theorem eqErrorEntryS_T (ao bo:Option Addr)(n c d:Nat)(u:Nat→Nat→Int)(v:Nat→Nat→Bool):(exFn Tryz.prog {L:=[(4,egL [true,true,true] ao bo n c d u v)]} 400 Tryz.f89 ([.a (.c (.sl 0 ao n c)),.a (.c (.sl 1 bo n d))]) (egT [true,true,true] ao bo n u v) (fun w _=>w.den=.bool true))=(
 ((((n:Nat):Int) != ((n:Nat):Int))=true→(Wb false)=(Wb true))∧((((n:Nat):Int) != ((n:Nat):Int))=false→([Ws ao n c,Ws bo n d,Wu [],Wu [],Wb false,Wi 0,Ws ao n c,Wi ((n:Nat):Int),Ws bo n d,Wi ((n:Nat):Int),Wb false,Wu [],Wu [],Wu [],Wu [],Wu [],Wu [],Wu [],Wu [],Wu [],Wu [],Wu [],Wu [],Wu [],Wu [],Wu [],Wu []]=[Ws ao n c,Ws bo n d,Wu [],Wu [],Wb false,Wi 0,Ws ao n c,Wi ((n:Nat):Int),Ws bo n d,Wi ((n:Nat):Int),Wb false,Wu [],Wu [],Wu [],Wu [],Wu [],Wu [],Wu [],Wu [],Wu [],Wu [],Wu [],Wu [],Wu [],Wu [],Wu [],Wu []]∧[Hr false ao 0 3 n 0 [fun b=>Ci (u 0 b),fun b=>Ci (u 1 b),fun b=>Ci (u 2 b)],Hr false bo 0 3 n 0 [fun b=>Ci (u 0 b),fun b=>Ci (u 1 b),fun b=>Ci (u 2 b)]]=[Hr false ao 0 3 n 0 [fun b=>Ci (u 0 b),fun b=>Ci (u 1 b),fun b=>Ci (u 2 b)],Hr false bo 0 3 n 0 [fun b=>Ci (u 0 b),fun b=>Ci (u 1 b),fun b=>Ci (u 2 b)]])∧∀ b:Nat→Value,(Wb true)=(Wb true))):=by kernel_rfl
theorem sEqErrorEntryS_ok:SmOK Tryz.prog 89 (sEgS [true,true,true]):=sEgS_ok Tryz.call89 Tryz.func89 (by kernel_rfl) (by kernel_rfl) (E:={tb:=[(156,sEqErrorEntry)]}) ⟨sEqErrorEntry_ok,trivial⟩ rfl eqErrorEntryB_ok fun ao bo n c d u v hn=>by
 refine @Eq.mpr _ _ (eqErrorEntryS_T ao bo n c d u v) ?_
 simp
 try (intros;rfl)
def sSzErrorEntryS:Sm:=inlM Tryz.prog {tb:=[]} 300 Tryz.f24
theorem sSzErrorEntryS_ok:SmOK Tryz.prog 24 sSzErrorEntryS:=inlM_ok mixed (E:={tb:=[]}) trivial Tryz.func24 Tryz.call24 (fun _ _ _=>loopsOK_nil _ _ _)
def sToCommand:Sm:=inlM Tryz.prog {tb:=[]} 300 Tryz.f173
theorem sToCommand_ok:SmOK Tryz.prog 173 sToCommand:=inlM_ok mixed (E:={tb:=[]}) trivial Tryz.func173 Tryz.call173 (fun _ _ _=>loopsOK_nil _ _ _)
def sToEvent:Sm:=inlM Tryz.prog {tb:=[(173,sToCommand)]} 300 Tryz.f127
theorem sToEvent_ok:SmOK Tryz.prog 127 sToEvent:=inlM_ok mixed (E:={tb:=[(173,sToCommand)]}) ⟨sToCommand_ok,trivial⟩ Tryz.func127 Tryz.call127 (fun _ _ _=>loopsOK_nil _ _ _)
theorem toEventB (ao:Option Addr)(n cap b j:Nat)(u:Nat→Nat→Int)(v:Nat→Nat→Bool)(g:Nat→Value)(NX:List SV→List Ch→Prop)(kx:Exit→List SV→List Ch→Prop):(exCode Tryz.prog {tb:=[(127,sToEvent)]} 400 (theLoop Tryz.f58 0) (tgH ao n cap b (.int (j:Int)) g) (tgT 227 [true,true,true,true,true] ao n b u v (flK (lowU u j) (lowW v j) 0 [true,true,true,true,true])) (loopK NX kx))=(
 (fun a:Option Addr=>(fun c:SV=>(fun d:SV=>(fun h:SV=>(fun k:SV=>(fun l:Bool=>(fun m:List SC=>(fun o:Prop=>(fun p:List SC=>(fun q:SV=>(fun r:Ch=>(l=true→ao=ao∧n=n∧o∧ao=ao∧j<n∧∀ s t w:Nat,s=s∧w=w∧s=s∧∀ x y z:Nat,x=x∧z=z∧x=x∧z=z∧x=x∧z=z∧x=x∧z=z∧z=z∧y=y∧y=y∧w=w∧w=w∧t=t∧t=t∧a=a∧n=n∧o∧a=a∧j<n∧rng (((j:Nat):Int)+(1:Int))∧NX [c,vV (g 1),vV (g 2),d,k,vV (g 5),vV (g 6),vV (g 7),h,c,iV ((n:Nat):Int),tV,h,k,d,h,c,h,rV 0 ao 5 j 0,q,q,rV 1 a 5 j 0,vV (g 22)] [r,Hr true a 227 5 n n [fun B=>Ci (if B=j then (u 0 j) else (if B<j then (u 0 B) else (0:Int))),fun B=>Ci (if B=j then (u 1 j) else (if B<j then (u 1 B) else (0:Int))),fun B=>Ci (if B=j then (u 2 j) else (if B<j then (u 2 B) else (0:Int))),fun B=>Ci (if B=j then (u 3 j) else (if B<j then (u 3 B) else (0:Int))),fun B=>Ci (if B=j then (u 4 j) else (if B<j then (u 4 B) else (0:Int)))],Hc s 231 p,Hc t 227 p,Hc w 227 p,Hc x 229 m,Hc y 225 m,Hc z 225 m])∧(l=false→kx (Exit.exit 0) [c,vV (g 1),vV (g 2),d,h,vV (g 5),vV (g 6),vV (g 7),h,c,iV ((n:Nat):Int),fV,vV (g 12),vV (g 13),vV (g 14),vV (g 15),vV (g 16),vV (g 17),vV (g 18),vV (g 19),vV (g 20),vV (g 21),vV (g 22)] [r,Hr true a 227 5 n n [fun s=>Ci (if s<j then (u 0 s) else (0:Int)),fun s=>Ci (if s<j then (u 1 s) else (0:Int)),fun s=>Ci (if s<j then (u 2 s) else (0:Int)),fun s=>Ci (if s<j then (u 3 s) else (0:Int)),fun s=>Ci (if s<j then (u 4 s) else (0:Int))]])) (Hr false ao 0 5 n 0 [fun r=>Ci (u 0 r),fun r=>Ci (u 1 r),fun r=>Ci (u 2 r),fun r=>Ci (u 3 r),fun r=>Ci (u 4 r)])) (aV p)) [Ci (u 0 j),Ci (u 1 j),Ci (u 2 j),Ci (u 3 j),Ci (u 4 j)]) (0≤((j:Nat):Int)∧((j:Nat):Int)<((n:Nat):Int))) [Ci (u 1 j),Ci (u 2 j),Ci (u 3 j),Ci (u 4 j)]) (decide (((j:Nat):Int)<((n:Nat):Int)))) (iV (((j:Nat):Int)+(1:Int)))) (iV ((j:Nat):Int))) (sV 1 a n n)) (sV 0 ao n cap)) (Ad b 0)):=by kernel_rfl
theorem toEventB_ok:tgB Tryz.f58 {tb:=[(127,sToEvent)]} 227 [true,true,true,true,true]:=by
 intro ao n cap b j u v g X k hn hj hE
 refine (@Eq.mpr _ _ (toEventB ao n cap b j u v g _ _) ?_)
 dsimp -zeta -proj -iota -eta -failIfUnchanged (etaStruct:=.none) only
 have hjb:rng ((j:Int)+1):=by simp only [rng];omega
 have hge:∀ h:decide ((j:Int)<(n:Int))=false,j=n:=fun h=>by have:=of_decide_eq_false h;omega
 repeat' (first
  | with_reducible exact rfl
  | exact True.intro
  | with_reducible assumption
  | (refine ⟨by omega,?_⟩;show Next _ _ _ _;refine Next.mk (fun g=>tgH ao n cap b (.int ((j+1:Nat):Int)) g) _ ⟨_,rfl,rfl⟩ (by kernel_rfl) fun w hw=>(hw.sel [0,1] (by simp)).re 1 _ rfl (flK (lowU u (j+1)) (lowW v (j+1)) 0 [true,true,true,true,true]) (FEq_fl (u:=setU u j) (v:=setW v j) (fun c i hi=>setU_low) (fun c i hi=>setW_low) [true,true,true,true,true] 0))
  | (intro h;have e:=hge h;subst e;show Next _ _ _ _;exact Next.pre (fun g=>tgH ao j cap b (.int (j:Int)) g) (hE rfl _) (by kernel_rfl) fun w hw=>hw)
  | refine And.intro ?_ ?_
  | apply Exists.intro
  | (intro h;replace h:=of_decide_eq_true h)
  | intro _
  | omega)
theorem toEventS_T (ao:Option Addr)(n cap:Nat)(u:Nat→Nat→Int)(v:Nat→Nat→Bool):(exFn Tryz.prog {L:=[(3,tgL 227 [true,true,true,true,true] ao n cap u v)]} 400 Tryz.f58 ([.a (.c (.sl 0 ao n cap))]) ([.row ⟨false,ao,0,5,n,0,flK u v 0 [true,true,true,true,true]⟩]) (fun w ch=>∃ b,w.den=.slice (some ⟨b,0,none⟩) n n∧ch=tgT 227 [true,true,true,true,true] ao n b u v (flK u v 0 [true,true,true,true,true])))=(
 (fun d:Value=>(fun g:Value=>(fun h:List (Nat→SC)=>(fun j:List (Nat→SC)=>(fun k:Ch=>((n:Nat):Int)=((n:Nat):Int)∧mkC 40 ((n:Nat):Int)∧∀ l:Nat,(fun m:Value=>∃ o:Nat,([g,d,Wn,m,Wi 0,g,Wi ((n:Nat):Int),m,d,d,d,d,d,d,d,d,d,d,d,d,d,d,d]=[g,d,Wn,Ws (Ad o 0) n n,Wi 0,g,Wi ((n:Nat):Int),m,d,d,d,d,d,d,d,d,d,d,d,d,d,d,d]∧[k,Hr true (Ad l 0) 227 5 n n h]=[k,Hr true (Ad o 0) 227 5 n n h])∧∀ p:Nat→Value,∃ q:Nat,(Ws (Ad o 0) n n)=(Ws (Ad q 0) n n)∧[k,Hr true (Ad o 0) 227 5 n n j]=[k,Hr true (Ad q 0) 227 5 n n j]) (Ws (Ad l 0) n n)) (Hr false ao 0 5 n 0 j)) [fun j=>Ci (u 0 j),fun j=>Ci (u 1 j),fun j=>Ci (u 2 j),fun j=>Ci (u 3 j),fun j=>Ci (u 4 j)]) [fun h=>Cl 0,fun h=>Cl 0,fun h=>Cl 0,fun h=>Cl 0,fun h=>Cl 0]) (Ws ao n cap)) (Wu [])):=by kernel_rfl
theorem sToEventS_ok:SmOK Tryz.prog 58 (sTgS 227 [true,true,true,true,true]):=sTgS_ok Tryz.call58 Tryz.func58 (by kernel_rfl) (by kernel_rfl) (E:={tb:=[(127,sToEvent)]}) ⟨sToEvent_ok,trivial⟩ rfl toEventB_ok fun ao n cap u v hn=>by
 refine @Eq.mpr _ _ (toEventS_T ao n cap u v) ?_
 dsimp -zeta -proj -iota -eta -failIfUnchanged (etaStruct:=.none) only
 repeat' (first | exact True.intro | exact rfl | (refine ⟨by omega,by omega,by omega⟩) | (refine fun b=>⟨b,⟨rfl,rfl⟩,fun g=>⟨b,rfl,rfl⟩⟩) | refine And.intro ?_ ?_)
def sEqCommand:Sm:=inlM Tryz.prog {tb:=[]} 300 Tryz.f186
theorem sEqCommand_ok:SmOK Tryz.prog 186 sEqCommand:=inlM_ok mixed (E:={tb:=[]}) trivial Tryz.func186 Tryz.call186 (fun _ _ _=>loopsOK_nil _ _ _)
def sEqEvent:Sm:=inlM Tryz.prog {tb:=[(186,sEqCommand)]} 300 Tryz.f157
theorem sEqEvent_ok:SmOK Tryz.prog 157 sEqEvent:=inlM_ok mixed (E:={tb:=[(186,sEqCommand)]}) ⟨sEqCommand_ok,trivial⟩ Tryz.func157 Tryz.call157 (fun _ _ _=>loopsOK_nil _ _ _)
theorem eqEventB (ao bo:Option Addr)(n c d j:Nat)(u:Nat→Nat→Int)(v:Nat→Nat→Bool)(g:Nat→Value)(NX:List SV→List Ch→Prop)(kx:Exit→List SV→List Ch→Prop):(exCode Tryz.prog {tb:=[(157,sEqEvent)]} 400 (theLoop Tryz.f90 0) (egH ao bo n c d (.int (j:Int)) g) (egT [true,true,true,true,true] ao bo n u v) (loopK NX kx))=(
 (fun a:SV=>(fun b:SV=>(fun h:SV=>(fun k:SV=>(fun l:SV=>(fun m:Bool=>(fun o:List SC=>(fun p:Prop=>(fun q:List SC=>(fun r:SV=>(fun s:List (Nat→SC)=>(fun t:Ch=>(fun w:Ch=>(fun x:List SV=>(m=true→ao=ao∧n=n∧p∧ao=ao∧j<n∧bo=bo∧n=n∧p∧bo=bo∧j<n∧∀ y z:Nat,(fun B:Ch=>(fun C:Ch=>y=y∧z=z∧(((u 0 j) != (u 0 j))=true→True∧kx Exit.ret x [w,t,C,B])∧(((u 0 j) != (u 0 j))=false→y=y∧z=z∧∀ D E:Nat,(fun F:Prop=>D=D∧E=E∧(((u 1 j) != (u 1 j))=true→F)∧(((u 1 j) != (u 1 j))=false→D=D∧E=E∧(((u 2 j) != (u 2 j))=true→F)∧(((u 2 j) != (u 2 j))=false→D=D∧E=E∧(((u 3 j) != (u 3 j))=true→F)∧(((u 3 j) != (u 3 j))=false→D=D∧E=E∧(((u 4 j) != (u 4 j))=true→F)∧(((u 4 j) != (u 4 j))=false→True∧rng (((j:Nat):Int)+(1:Int))∧NX [b,a,vV (g 2),vV (g 3),fV,l,vV (g 6),vV (g 7),vV (g 8),vV (g 9),vV (g 10),k,b,h,tV,k,l,b,k,rV 0 ao 5 j 0,r,a,k,rV 1 bo 5 j 0,r,tV,fV] [w,t,C,B,Hc D 225 o,Hc E 225 o]))))) (True∧kx Exit.ret x [w,t,C,B,Hc D 225 o,Hc E 225 o]))) (Hc y 227 q)) (Hc z 227 q))∧(m=false→kx (Exit.exit 0) [b,a,vV (g 2),vV (g 3),fV,k,vV (g 6),vV (g 7),vV (g 8),vV (g 9),vV (g 10),k,b,h,fV,vV (g 15),vV (g 16),vV (g 17),vV (g 18),vV (g 19),vV (g 20),vV (g 21),vV (g 22),vV (g 23),vV (g 24),vV (g 25),vV (g 26)] [w,t])) [b,a,vV (g 2),vV (g 3),fV,k,vV (g 6),vV (g 7),vV (g 8),vV (g 9),vV (g 10),k,b,h,tV,vV (g 15),vV (g 16),b,k,rV 0 ao 5 j 0,r,a,k,rV 1 bo 5 j 0,r,fV,tV]) (Hr false ao 0 5 n 0 s)) (Hr false bo 0 5 n 0 s)) [fun s=>Ci (u 0 s),fun s=>Ci (u 1 s),fun s=>Ci (u 2 s),fun s=>Ci (u 3 s),fun s=>Ci (u 4 s)]) (aV q)) [Ci (u 0 j),Ci (u 1 j),Ci (u 2 j),Ci (u 3 j),Ci (u 4 j)]) (0≤((j:Nat):Int)∧((j:Nat):Int)<((n:Nat):Int))) [Ci (u 1 j),Ci (u 2 j),Ci (u 3 j),Ci (u 4 j)]) (decide (((j:Nat):Int)<((n:Nat):Int)))) (iV (((j:Nat):Int)+(1:Int)))) (iV ((j:Nat):Int))) (iV ((n:Nat):Int))) (sV 0 ao n c)) (sV 1 bo n d)):=by kernel_rfl
theorem eqEventB_ok:egB Tryz.f90 {tb:=[(157,sEqEvent)]} [true,true,true,true,true]:=by
 intro ao bo n c d j u v g X k hn hj hE
 refine (@Eq.mpr _ _ (eqEventB ao bo n c d j u v g _ _) ?_)
 dsimp -zeta -proj -iota -eta -failIfUnchanged (etaStruct:=.none) only
 have hjb:rng ((j:Int)+1):=by simp only [rng];omega
 have hge:∀ h:decide ((j:Int)<(n:Int))=false,j=n:=fun h=>by have:=of_decide_eq_false h;omega
 repeat' (first
  | with_reducible exact rfl
  | exact True.intro
  | with_reducible assumption
  | (refine ⟨by omega,?_⟩;show Next _ _ _ _;exact Next.mk (fun g=>egH ao bo n c d (.int ((j+1:Nat):Int)) g) _ ⟨_,rfl,rfl⟩ (by kernel_rfl) fun w hw=>hw.sel [0,1] (by simp))
  | (intro h;have e:=hge h;subst e;show Next _ _ _ _;exact Next.pre (fun g=>egH ao bo j c d (.int (j:Int)) g) (hE rfl _) (by kernel_rfl) fun w hw=>hw)
  | refine And.intro ?_ ?_
  | apply Exists.intro
  | (intro h;exfalso;simp at h;done)
  | (intro h;replace h:=of_decide_eq_true h)
  | intro _
  | omega)
theorem eqEventS_T (ao bo:Option Addr)(n c d:Nat)(u:Nat→Nat→Int)(v:Nat→Nat→Bool):(exFn Tryz.prog {L:=[(4,egL [true,true,true,true,true] ao bo n c d u v)]} 400 Tryz.f90 ([.a (.c (.sl 0 ao n c)),.a (.c (.sl 1 bo n d))]) (egT [true,true,true,true,true] ao bo n u v) (fun w _=>w.den=.bool true))=(
 ((((n:Nat):Int) != ((n:Nat):Int))=true→(Wb false)=(Wb true))∧((((n:Nat):Int) != ((n:Nat):Int))=false→([Ws ao n c,Ws bo n d,Wu [],Wu [],Wb false,Wi 0,Ws ao n c,Wi ((n:Nat):Int),Ws bo n d,Wi ((n:Nat):Int),Wb false,Wu [],Wu [],Wu [],Wu [],Wu [],Wu [],Wu [],Wu [],Wu [],Wu [],Wu [],Wu [],Wu [],Wu [],Wu [],Wu []]=[Ws ao n c,Ws bo n d,Wu [],Wu [],Wb false,Wi 0,Ws ao n c,Wi ((n:Nat):Int),Ws bo n d,Wi ((n:Nat):Int),Wb false,Wu [],Wu [],Wu [],Wu [],Wu [],Wu [],Wu [],Wu [],Wu [],Wu [],Wu [],Wu [],Wu [],Wu [],Wu [],Wu []]∧[Hr false ao 0 5 n 0 [fun b=>Ci (u 0 b),fun b=>Ci (u 1 b),fun b=>Ci (u 2 b),fun b=>Ci (u 3 b),fun b=>Ci (u 4 b)],Hr false bo 0 5 n 0 [fun b=>Ci (u 0 b),fun b=>Ci (u 1 b),fun b=>Ci (u 2 b),fun b=>Ci (u 3 b),fun b=>Ci (u 4 b)]]=[Hr false ao 0 5 n 0 [fun b=>Ci (u 0 b),fun b=>Ci (u 1 b),fun b=>Ci (u 2 b),fun b=>Ci (u 3 b),fun b=>Ci (u 4 b)],Hr false bo 0 5 n 0 [fun b=>Ci (u 0 b),fun b=>Ci (u 1 b),fun b=>Ci (u 2 b),fun b=>Ci (u 3 b),fun b=>Ci (u 4 b)]])∧∀ b:Nat→Value,(Wb true)=(Wb true))):=by kernel_rfl
theorem sEqEventS_ok:SmOK Tryz.prog 90 (sEgS [true,true,true,true,true]):=sEgS_ok Tryz.call90 Tryz.func90 (by kernel_rfl) (by kernel_rfl) (E:={tb:=[(157,sEqEvent)]}) ⟨sEqEvent_ok,trivial⟩ rfl eqEventB_ok fun ao bo n c d u v hn=>by
 refine @Eq.mpr _ _ (eqEventS_T ao bo n c d u v) ?_
 simp
 try (intros;rfl)
def sSzEventS:Sm:=inlM Tryz.prog {tb:=[]} 300 Tryz.f25
theorem sSzEventS_ok:SmOK Tryz.prog 25 sSzEventS:=inlM_ok mixed (E:={tb:=[]}) trivial Tryz.func25 Tryz.call25 (fun _ _ _=>loopsOK_nil _ _ _)
def sToReply:Sm:=inlM Tryz.prog {tb:=[]} 300 Tryz.f128
theorem sToReply_ok:SmOK Tryz.prog 128 sToReply:=inlM_ok mixed (E:={tb:=[]}) trivial Tryz.func128 Tryz.call128 (fun _ _ _=>loopsOK_nil _ _ _)
theorem toReplyB (ao:Option Addr)(n cap b j:Nat)(u:Nat→Nat→Int)(v:Nat→Nat→Bool)(g:Nat→Value)(NX:List SV→List Ch→Prop)(kx:Exit→List SV→List Ch→Prop):(exCode Tryz.prog {tb:=[(128,sToReply)]} 400 (theLoop Tryz.f59 0) (tgH ao n cap b (.int (j:Int)) g) (tgT 233 [true,true,true,true] ao n b u v (flK (lowU u j) (lowW v j) 0 [true,true,true,true])) (loopK NX kx))=(
 (fun a:Option Addr=>(fun c:SV=>(fun d:SV=>(fun h:SV=>(fun k:SV=>(fun l:Bool=>(fun m:List SC=>(fun o:SV=>(fun p:Prop=>(fun q:Ch=>(l=true→ao=ao∧n=n∧p∧ao=ao∧j<n∧∀ r s t:Nat,r=r∧t=t∧r=r∧t=t∧r=r∧t=t∧r=r∧t=t∧t=t∧s=s∧s=s∧a=a∧n=n∧p∧a=a∧j<n∧rng (((j:Nat):Int)+(1:Int))∧NX [c,vV (g 1),vV (g 2),d,k,vV (g 5),vV (g 6),vV (g 7),h,c,iV ((n:Nat):Int),tV,h,k,d,h,c,h,rV 0 ao 4 j 0,o,o,rV 1 a 4 j 0,vV (g 22)] [q,Hr true a 233 4 n n [fun w=>Ci (if w=j then (u 0 j) else (if w<j then (u 0 w) else (0:Int))),fun w=>Ci (if w=j then (u 1 j) else (if w<j then (u 1 w) else (0:Int))),fun w=>Ci (if w=j then (u 2 j) else (if w<j then (u 2 w) else (0:Int))),fun w=>Ci (if w=j then (u 3 j) else (if w<j then (u 3 w) else (0:Int)))],Hc r 235 m,Hc s 233 m,Hc t 233 m])∧(l=false→kx (Exit.exit 0) [c,vV (g 1),vV (g 2),d,h,vV (g 5),vV (g 6),vV (g 7),h,c,iV ((n:Nat):Int),fV,vV (g 12),vV (g 13),vV (g 14),vV (g 15),vV (g 16),vV (g 17),vV (g 18),vV (g 19),vV (g 20),vV (g 21),vV (g 22)] [q,Hr true a 233 4 n n [fun r=>Ci (if r<j then (u 0 r) else (0:Int)),fun r=>Ci (if r<j then (u 1 r) else (0:Int)),fun r=>Ci (if r<j then (u 2 r) else (0:Int)),fun r=>Ci (if r<j then (u 3 r) else (0:Int))]])) (Hr false ao 0 4 n 0 [fun q=>Ci (u 0 q),fun q=>Ci (u 1 q),fun q=>Ci (u 2 q),fun q=>Ci (u 3 q)])) (0≤((j:Nat):Int)∧((j:Nat):Int)<((n:Nat):Int))) (aV m)) [Ci (u 0 j),Ci (u 1 j),Ci (u 2 j),Ci (u 3 j)]) (decide (((j:Nat):Int)<((n:Nat):Int)))) (iV (((j:Nat):Int)+(1:Int)))) (iV ((j:Nat):Int))) (sV 1 a n n)) (sV 0 ao n cap)) (Ad b 0)):=by kernel_rfl
theorem toReplyB_ok:tgB Tryz.f59 {tb:=[(128,sToReply)]} 233 [true,true,true,true]:=by
 intro ao n cap b j u v g X k hn hj hE
 refine (@Eq.mpr _ _ (toReplyB ao n cap b j u v g _ _) ?_)
 dsimp -zeta -proj -iota -eta -failIfUnchanged (etaStruct:=.none) only
 have hjb:rng ((j:Int)+1):=by simp only [rng];omega
 have hge:∀ h:decide ((j:Int)<(n:Int))=false,j=n:=fun h=>by have:=of_decide_eq_false h;omega
 repeat' (first
  | with_reducible exact rfl
  | exact True.intro
  | with_reducible assumption
  | (refine ⟨by omega,?_⟩;show Next _ _ _ _;refine Next.mk (fun g=>tgH ao n cap b (.int ((j+1:Nat):Int)) g) _ ⟨_,rfl,rfl⟩ (by kernel_rfl) fun w hw=>(hw.sel [0,1] (by simp)).re 1 _ rfl (flK (lowU u (j+1)) (lowW v (j+1)) 0 [true,true,true,true]) (FEq_fl (u:=setU u j) (v:=setW v j) (fun c i hi=>setU_low) (fun c i hi=>setW_low) [true,true,true,true] 0))
  | (intro h;have e:=hge h;subst e;show Next _ _ _ _;exact Next.pre (fun g=>tgH ao j cap b (.int (j:Int)) g) (hE rfl _) (by kernel_rfl) fun w hw=>hw)
  | refine And.intro ?_ ?_
  | apply Exists.intro
  | (intro h;replace h:=of_decide_eq_true h)
  | intro _
  | omega)
theorem toReplyS_T (ao:Option Addr)(n cap:Nat)(u:Nat→Nat→Int)(v:Nat→Nat→Bool):(exFn Tryz.prog {L:=[(3,tgL 233 [true,true,true,true] ao n cap u v)]} 400 Tryz.f59 ([.a (.c (.sl 0 ao n cap))]) ([.row ⟨false,ao,0,4,n,0,flK u v 0 [true,true,true,true]⟩]) (fun w ch=>∃ b,w.den=.slice (some ⟨b,0,none⟩) n n∧ch=tgT 233 [true,true,true,true] ao n b u v (flK u v 0 [true,true,true,true])))=(
 (fun d:Value=>(fun g:Value=>(fun h:List (Nat→SC)=>(fun j:List (Nat→SC)=>(fun k:Ch=>((n:Nat):Int)=((n:Nat):Int)∧mkC 32 ((n:Nat):Int)∧∀ l:Nat,(fun m:Value=>∃ o:Nat,([g,d,Wn,m,Wi 0,g,Wi ((n:Nat):Int),m,d,d,d,d,d,d,d,d,d,d,d,d,d,d,d]=[g,d,Wn,Ws (Ad o 0) n n,Wi 0,g,Wi ((n:Nat):Int),m,d,d,d,d,d,d,d,d,d,d,d,d,d,d,d]∧[k,Hr true (Ad l 0) 233 4 n n h]=[k,Hr true (Ad o 0) 233 4 n n h])∧∀ p:Nat→Value,∃ q:Nat,(Ws (Ad o 0) n n)=(Ws (Ad q 0) n n)∧[k,Hr true (Ad o 0) 233 4 n n j]=[k,Hr true (Ad q 0) 233 4 n n j]) (Ws (Ad l 0) n n)) (Hr false ao 0 4 n 0 j)) [fun j=>Ci (u 0 j),fun j=>Ci (u 1 j),fun j=>Ci (u 2 j),fun j=>Ci (u 3 j)]) [fun h=>Cl 0,fun h=>Cl 0,fun h=>Cl 0,fun h=>Cl 0]) (Ws ao n cap)) (Wu [])):=by kernel_rfl
theorem sToReplyS_ok:SmOK Tryz.prog 59 (sTgS 233 [true,true,true,true]):=sTgS_ok Tryz.call59 Tryz.func59 (by kernel_rfl) (by kernel_rfl) (E:={tb:=[(128,sToReply)]}) ⟨sToReply_ok,trivial⟩ rfl toReplyB_ok fun ao n cap u v hn=>by
 refine @Eq.mpr _ _ (toReplyS_T ao n cap u v) ?_
 dsimp -zeta -proj -iota -eta -failIfUnchanged (etaStruct:=.none) only
 repeat' (first | exact True.intro | exact rfl | (refine ⟨by omega,by omega,by omega⟩) | (refine fun b=>⟨b,⟨rfl,rfl⟩,fun g=>⟨b,rfl,rfl⟩⟩) | refine And.intro ?_ ?_)
def sEqReply:Sm:=inlM Tryz.prog {tb:=[]} 300 Tryz.f158
theorem sEqReply_ok:SmOK Tryz.prog 158 sEqReply:=inlM_ok mixed (E:={tb:=[]}) trivial Tryz.func158 Tryz.call158 (fun _ _ _=>loopsOK_nil _ _ _)
theorem eqReplyB (ao bo:Option Addr)(n c d j:Nat)(u:Nat→Nat→Int)(v:Nat→Nat→Bool)(g:Nat→Value)(NX:List SV→List Ch→Prop)(kx:Exit→List SV→List Ch→Prop):(exCode Tryz.prog {tb:=[(158,sEqReply)]} 400 (theLoop Tryz.f91 0) (egH ao bo n c d (.int (j:Int)) g) (egT [true,true,true,true] ao bo n u v) (loopK NX kx))=(
 (fun a:SV=>(fun b:SV=>(fun h:SV=>(fun k:SV=>(fun l:SV=>(fun m:Bool=>(fun o:List SC=>(fun p:SV=>(fun q:Prop=>(fun r:List (Nat→SC)=>(fun s:Ch=>(fun t:Ch=>(fun w:List SV=>(m=true→ao=ao∧n=n∧q∧ao=ao∧j<n∧bo=bo∧n=n∧q∧bo=bo∧j<n∧∀ x y:Nat,(fun z:Prop=>x=x∧y=y∧(((u 0 j) != (u 0 j))=true→z)∧(((u 0 j) != (u 0 j))=false→x=x∧y=y∧(((u 1 j) != (u 1 j))=true→z)∧(((u 1 j) != (u 1 j))=false→x=x∧y=y∧(((u 2 j) != (u 2 j))=true→z)∧(((u 2 j) != (u 2 j))=false→x=x∧y=y∧(((u 3 j) != (u 3 j))=true→z)∧(((u 3 j) != (u 3 j))=false→True∧rng (((j:Nat):Int)+(1:Int))∧NX [b,a,vV (g 2),vV (g 3),fV,l,vV (g 6),vV (g 7),vV (g 8),vV (g 9),vV (g 10),k,b,h,tV,k,l,b,k,rV 0 ao 4 j 0,p,a,k,rV 1 bo 4 j 0,p,tV,fV] [t,s,Hc x 233 o,Hc y 233 o]))))) (True∧kx Exit.ret w [t,s,Hc x 233 o,Hc y 233 o]))∧(m=false→kx (Exit.exit 0) [b,a,vV (g 2),vV (g 3),fV,k,vV (g 6),vV (g 7),vV (g 8),vV (g 9),vV (g 10),k,b,h,fV,vV (g 15),vV (g 16),vV (g 17),vV (g 18),vV (g 19),vV (g 20),vV (g 21),vV (g 22),vV (g 23),vV (g 24),vV (g 25),vV (g 26)] [t,s])) [b,a,vV (g 2),vV (g 3),fV,k,vV (g 6),vV (g 7),vV (g 8),vV (g 9),vV (g 10),k,b,h,tV,vV (g 15),vV (g 16),b,k,rV 0 ao 4 j 0,p,a,k,rV 1 bo 4 j 0,p,fV,tV]) (Hr false ao 0 4 n 0 r)) (Hr false bo 0 4 n 0 r)) [fun r=>Ci (u 0 r),fun r=>Ci (u 1 r),fun r=>Ci (u 2 r),fun r=>Ci (u 3 r)]) (0≤((j:Nat):Int)∧((j:Nat):Int)<((n:Nat):Int))) (aV o)) [Ci (u 0 j),Ci (u 1 j),Ci (u 2 j),Ci (u 3 j)]) (decide (((j:Nat):Int)<((n:Nat):Int)))) (iV (((j:Nat):Int)+(1:Int)))) (iV ((j:Nat):Int))) (iV ((n:Nat):Int))) (sV 0 ao n c)) (sV 1 bo n d)):=by kernel_rfl
theorem eqReplyB_ok:egB Tryz.f91 {tb:=[(158,sEqReply)]} [true,true,true,true]:=by
 intro ao bo n c d j u v g X k hn hj hE
 refine (@Eq.mpr _ _ (eqReplyB ao bo n c d j u v g _ _) ?_)
 dsimp -zeta -proj -iota -eta -failIfUnchanged (etaStruct:=.none) only
 have hjb:rng ((j:Int)+1):=by simp only [rng];omega
 have hge:∀ h:decide ((j:Int)<(n:Int))=false,j=n:=fun h=>by have:=of_decide_eq_false h;omega
 repeat' (first
  | with_reducible exact rfl
  | exact True.intro
  | with_reducible assumption
  | (refine ⟨by omega,?_⟩;show Next _ _ _ _;exact Next.mk (fun g=>egH ao bo n c d (.int ((j+1:Nat):Int)) g) _ ⟨_,rfl,rfl⟩ (by kernel_rfl) fun w hw=>hw.sel [0,1] (by simp))
  | (intro h;have e:=hge h;subst e;show Next _ _ _ _;exact Next.pre (fun g=>egH ao bo j c d (.int (j:Int)) g) (hE rfl _) (by kernel_rfl) fun w hw=>hw)
  | refine And.intro ?_ ?_
  | apply Exists.intro
  | (intro h;exfalso;simp at h;done)
  | (intro h;replace h:=of_decide_eq_true h)
  | intro _
  | omega)
theorem eqReplyS_T (ao bo:Option Addr)(n c d:Nat)(u:Nat→Nat→Int)(v:Nat→Nat→Bool):(exFn Tryz.prog {L:=[(4,egL [true,true,true,true] ao bo n c d u v)]} 400 Tryz.f91 ([.a (.c (.sl 0 ao n c)),.a (.c (.sl 1 bo n d))]) (egT [true,true,true,true] ao bo n u v) (fun w _=>w.den=.bool true))=(
 ((((n:Nat):Int) != ((n:Nat):Int))=true→(Wb false)=(Wb true))∧((((n:Nat):Int) != ((n:Nat):Int))=false→([Ws ao n c,Ws bo n d,Wu [],Wu [],Wb false,Wi 0,Ws ao n c,Wi ((n:Nat):Int),Ws bo n d,Wi ((n:Nat):Int),Wb false,Wu [],Wu [],Wu [],Wu [],Wu [],Wu [],Wu [],Wu [],Wu [],Wu [],Wu [],Wu [],Wu [],Wu [],Wu [],Wu []]=[Ws ao n c,Ws bo n d,Wu [],Wu [],Wb false,Wi 0,Ws ao n c,Wi ((n:Nat):Int),Ws bo n d,Wi ((n:Nat):Int),Wb false,Wu [],Wu [],Wu [],Wu [],Wu [],Wu [],Wu [],Wu [],Wu [],Wu [],Wu [],Wu [],Wu [],Wu [],Wu [],Wu []]∧[Hr false ao 0 4 n 0 [fun b=>Ci (u 0 b),fun b=>Ci (u 1 b),fun b=>Ci (u 2 b),fun b=>Ci (u 3 b)],Hr false bo 0 4 n 0 [fun b=>Ci (u 0 b),fun b=>Ci (u 1 b),fun b=>Ci (u 2 b),fun b=>Ci (u 3 b)]]=[Hr false ao 0 4 n 0 [fun b=>Ci (u 0 b),fun b=>Ci (u 1 b),fun b=>Ci (u 2 b),fun b=>Ci (u 3 b)],Hr false bo 0 4 n 0 [fun b=>Ci (u 0 b),fun b=>Ci (u 1 b),fun b=>Ci (u 2 b),fun b=>Ci (u 3 b)]])∧∀ b:Nat→Value,(Wb true)=(Wb true))):=by kernel_rfl
theorem sEqReplyS_ok:SmOK Tryz.prog 91 (sEgS [true,true,true,true]):=sEgS_ok Tryz.call91 Tryz.func91 (by kernel_rfl) (by kernel_rfl) (E:={tb:=[(158,sEqReply)]}) ⟨sEqReply_ok,trivial⟩ rfl eqReplyB_ok fun ao bo n c d u v hn=>by
 refine @Eq.mpr _ _ (eqReplyS_T ao bo n c d u v) ?_
 simp
 try (intros;rfl)
def sSzReplyS:Sm:=inlM Tryz.prog {tb:=[]} 300 Tryz.f26
theorem sSzReplyS_ok:SmOK Tryz.prog 26 sSzReplyS:=inlM_ok mixed (E:={tb:=[]}) trivial Tryz.func26 Tryz.call26 (fun _ _ _=>loopsOK_nil _ _ _)
end Go.Proofs.YtmnccapnjphmfaaGreat

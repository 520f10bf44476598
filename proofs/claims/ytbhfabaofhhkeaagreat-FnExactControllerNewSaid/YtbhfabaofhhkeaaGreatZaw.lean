/-
  FnExactControllerNew: a part of the walk (merged and squeezed by program: SxSlG SxCt).
-/
import Derived.Test.YtbhfabaofhhkeaaGreatZah
namespace Go.Proofs.YtbhfabaofhhkeaaGreat
set_option linter.unusedVariables false
set_option linter.unusedSimpArgs false
open Go.RowKit
set_option maxRecDepth 100000
set_option maxHeartbeats 8000000
def sEqBank:Sm:=inlM Tryz.prog {tb:=[]} 300 Tryz.f141
theorem sEqBank_ok:SmOK Tryz.prog 141 sEqBank:=inlM_ok mixed (E:={tb:=[]}) trivial Tryz.func141 Tryz.call141 (fun _ _ _=>loopsOK_nil _ _ _)
theorem eqBankB (ao bo:Option Addr)(n c d j:Nat)(u:Nat→Nat→Int)(v:Nat→Nat→Bool)(g:Nat→Value)(NX:List SV→List Ch→Prop)(kx:Exit→List SV→List Ch→Prop):(exCode Tryz.prog {tb:=[(141,sEqBank)]} 400 (theLoop Tryz.f113 0) (egH ao bo n c d (.int (j:Int)) g) (egT [false,true] ao bo n u v) (loopK NX kx))=(
 (fun a:SV=>(fun b:SV=>(fun h:SV=>(fun k:SV=>(fun l:List SC=>(fun m:SV=>(fun o:SV=>(fun p:List (Nat→SC)=>(fun q:Bool=>(fun r:Prop=>(fun s:Ch=>(fun t:Ch=>(fun w:List SV=>(q=true→ao=ao∧n=n∧r∧ao=ao∧j<n∧bo=bo∧n=n∧r∧bo=bo∧j<n∧∀ x y:Nat,(fun z:Prop=>x=x∧y=y∧(((v 0 j) != (v 0 j))=true→z)∧(((v 0 j) != (v 0 j))=false→x=x∧y=y∧(((u 1 j) != (u 1 j))=true→z)∧(((u 1 j) != (u 1 j))=false→True∧rng (((j:Nat):Int)+(1:Int))∧NX [b,a,vV (g 2),vV (g 3),fV,o,vV (g 6),vV (g 7),vV (g 8),vV (g 9),vV (g 10),k,b,h,tV,k,o,b,k,rV 0 ao 2 j 0,m,a,k,rV 1 bo 2 j 0,m,tV,fV] [t,s,Hc x 194 l,Hc y 194 l]))) (True∧kx Exit.ret w [t,s,Hc x 194 l,Hc y 194 l]))∧(q=false→kx (Exit.exit 0) [b,a,vV (g 2),vV (g 3),fV,k,vV (g 6),vV (g 7),vV (g 8),vV (g 9),vV (g 10),k,b,h,fV,vV (g 15),vV (g 16),vV (g 17),vV (g 18),vV (g 19),vV (g 20),vV (g 21),vV (g 22),vV (g 23),vV (g 24),vV (g 25),vV (g 26)] [t,s])) [b,a,vV (g 2),vV (g 3),fV,k,vV (g 6),vV (g 7),vV (g 8),vV (g 9),vV (g 10),k,b,h,tV,vV (g 15),vV (g 16),b,k,rV 0 ao 2 j 0,m,a,k,rV 1 bo 2 j 0,m,fV,tV]) (Hr false ao 0 2 n 0 p)) (Hr false bo 0 2 n 0 p)) (0≤((j:Nat):Int)∧((j:Nat):Int)<((n:Nat):Int))) (decide (((j:Nat):Int)<((n:Nat):Int)))) [fun p=>Cb (v 0 p),fun p=>Ci (u 1 p)]) (iV (((j:Nat):Int)+(1:Int)))) (aV l)) [Cb (v 0 j),Ci (u 1 j)]) (iV ((j:Nat):Int))) (iV ((n:Nat):Int))) (sV 0 ao n c)) (sV 1 bo n d)):=by kernel_rfl
theorem eqBankB_ok:egB Tryz.f113 {tb:=[(141,sEqBank)]} [false,true]:=by
 intro ao bo n c d j u v g X k hn hj hE
 refine (@Eq.mpr _ _ (eqBankB ao bo n c d j u v g _ _) ?_)
 dsimp -zeta -proj -iota -eta -failIfUnchanged (etaStruct:=.none) only
 have hjb:rng ((j:Int)+1):=by simp only [rng];omega
 have hge:∀ h:decide ((j:Int)<(n:Int))=false,j=n:=fun h=>by have:=of_decide_eq_false h;omega
 repeat' (first
  | with_reducible exact rfl
  | exact True.intro
  | with_reducible assumption
  | (refine ⟨by omega,?_⟩;show Next _ _ _ _;exact Next.mk (fun g=>egH ao bo n c d (.int ((j+1:Nat):Int)) g) _ ⟨_,rfl,rfl⟩ (by kernel_rfl) fun w hw=>hw.sel [0,1] (by simp))
  | (intro h;have e:=hge h;subst e;show Next _ _ _ _;exact Next.pre (fun g=>egH ao bo j c d (.int (j:Int)) g) (hE rfl _) (by kernel_rfl) fun w hw=>hw)
  | refine And.intro ?_ ?_
  | apply Exists.intro
  | (intro h;exfalso;simp at h;done)
  | (intro h;replace h:=of_decide_eq_true h)
  | intro _
  | omega)
theorem eqBankS_T (ao bo:Option Addr)(n c d:Nat)(u:Nat→Nat→Int)(v:Nat→Nat→Bool):(exFn Tryz.prog {L:=[(4,egL [false,true] ao bo n c d u v)]} 400 Tryz.f113 ([.a (.c (.sl 0 ao n c)),.a (.c (.sl 1 bo n d))]) (egT [false,true] ao bo n u v) (fun w _=>w.den=.bool true))=(
 ((((n:Nat):Int) != ((n:Nat):Int))=true→(Wb false)=(Wb true))∧((((n:Nat):Int) != ((n:Nat):Int))=false→([Ws ao n c,Ws bo n d,Wu [],Wu [],Wb false,Wi 0,Ws ao n c,Wi ((n:Nat):Int),Ws bo n d,Wi ((n:Nat):Int),Wb false,Wu [],Wu [],Wu [],Wu [],Wu [],Wu [],Wu [],Wu [],Wu [],Wu [],Wu [],Wu [],Wu [],Wu [],Wu [],Wu []]=[Ws ao n c,Ws bo n d,Wu [],Wu [],Wb false,Wi 0,Ws ao n c,Wi ((n:Nat):Int),Ws bo n d,Wi ((n:Nat):Int),Wb false,Wu [],Wu [],Wu [],Wu [],Wu [],Wu [],Wu [],Wu [],Wu [],Wu [],Wu [],Wu [],Wu [],Wu [],Wu [],Wu []]∧[Hr false ao 0 2 n 0 [fun b=>Cb (v 0 b),fun b=>Ci (u 1 b)],Hr false bo 0 2 n 0 [fun b=>Cb (v 0 b),fun b=>Ci (u 1 b)]]=[Hr false ao 0 2 n 0 [fun b=>Cb (v 0 b),fun b=>Ci (u 1 b)],Hr false bo 0 2 n 0 [fun b=>Cb (v 0 b),fun b=>Ci (u 1 b)]])∧∀ b:Nat→Value,(Wb true)=(Wb true))):=by kernel_rfl
theorem sEqBankS_ok:SmOK Tryz.prog 113 (sEgS [false,true]):=sEgS_ok Tryz.call113 Tryz.func113 (by kernel_rfl) (by kernel_rfl) (E:={tb:=[(141,sEqBank)]}) ⟨sEqBank_ok,trivial⟩ rfl eqBankB_ok fun ao bo n c d u v hn=>by
 refine @Eq.mpr _ _ (eqBankS_T ao bo n c d u v) ?_
 simp
 try (intros;rfl)
def sEqAddr:Sm:=inlM Tryz.prog {tb:=[]} 300 Tryz.f116
theorem sEqAddr_ok:SmOK Tryz.prog 116 sEqAddr:=inlM_ok mixed (E:={tb:=[]}) trivial Tryz.func116 Tryz.call116 (fun _ _ _=>loopsOK_nil _ _ _)
theorem eqAddrB (ao bo:Option Addr)(n c d j:Nat)(u:Nat→Nat→Int)(v:Nat→Nat→Bool)(g:Nat→Value)(NX:List SV→List Ch→Prop)(kx:Exit→List SV→List Ch→Prop):(exCode Tryz.prog {tb:=[(116,sEqAddr)]} 400 (theLoop Tryz.f52 0) (egH ao bo n c d (.int (j:Int)) g) (egT [true,true,true] ao bo n u v) (loopK NX kx))=(
 (fun a:SV=>(fun b:SV=>(fun h:SV=>(fun k:SV=>(fun l:SV=>(fun m:List SC=>(fun o:SV=>(fun p:Bool=>(fun q:Prop=>(fun r:List (Nat→SC)=>(fun s:Ch=>(fun t:Ch=>(fun w:List SV=>(p=true→ao=ao∧n=n∧q∧ao=ao∧j<n∧bo=bo∧n=n∧q∧bo=bo∧j<n∧∀ x y:Nat,(fun z:Prop=>x=x∧y=y∧(((u 0 j) != (u 0 j))=true→z)∧(((u 0 j) != (u 0 j))=false→x=x∧y=y∧(((u 1 j) != (u 1 j))=true→z)∧(((u 1 j) != (u 1 j))=false→x=x∧y=y∧(((u 2 j) != (u 2 j))=true→z)∧(((u 2 j) != (u 2 j))=false→True∧rng (((j:Nat):Int)+(1:Int))∧NX [b,a,vV (g 2),vV (g 3),fV,l,vV (g 6),vV (g 7),vV (g 8),vV (g 9),vV (g 10),k,b,h,tV,k,l,b,k,rV 0 ao 3 j 0,o,a,k,rV 1 bo 3 j 0,o,tV,fV] [t,s,Hc x 165 m,Hc y 165 m])))) (True∧kx Exit.ret w [t,s,Hc x 165 m,Hc y 165 m]))∧(p=false→kx (Exit.exit 0) [b,a,vV (g 2),vV (g 3),fV,k,vV (g 6),vV (g 7),vV (g 8),vV (g 9),vV (g 10),k,b,h,fV,vV (g 15),vV (g 16),vV (g 17),vV (g 18),vV (g 19),vV (g 20),vV (g 21),vV (g 22),vV (g 23),vV (g 24),vV (g 25),vV (g 26)] [t,s])) [b,a,vV (g 2),vV (g 3),fV,k,vV (g 6),vV (g 7),vV (g 8),vV (g 9),vV (g 10),k,b,h,tV,vV (g 15),vV (g 16),b,k,rV 0 ao 3 j 0,o,a,k,rV 1 bo 3 j 0,o,fV,tV]) (Hr false ao 0 3 n 0 r)) (Hr false bo 0 3 n 0 r)) [fun r=>Ci (u 0 r),fun r=>Ci (u 1 r),fun r=>Ci (u 2 r)]) (0≤((j:Nat):Int)∧((j:Nat):Int)<((n:Nat):Int))) (decide (((j:Nat):Int)<((n:Nat):Int)))) (aV m)) [Ci (u 0 j),Ci (u 1 j),Ci (u 2 j)]) (iV (((j:Nat):Int)+(1:Int)))) (iV ((j:Nat):Int))) (iV ((n:Nat):Int))) (sV 0 ao n c)) (sV 1 bo n d)):=by kernel_rfl
theorem eqAddrB_ok:egB Tryz.f52 {tb:=[(116,sEqAddr)]} [true,true,true]:=by
 intro ao bo n c d j u v g X k hn hj hE
 refine (@Eq.mpr _ _ (eqAddrB ao bo n c d j u v g _ _) ?_)
 dsimp -zeta -proj -iota -eta -failIfUnchanged (etaStruct:=.none) only
 have hjb:rng ((j:Int)+1):=by simp only [rng];omega
 have hge:∀ h:decide ((j:Int)<(n:Int))=false,j=n:=fun h=>by have:=of_decide_eq_false h;omega
 repeat' (first
  | with_reducible exact rfl
  | exact True.intro
  | with_reducible assumption
  | (refine ⟨by omega,?_⟩;show Next _ _ _ _;exact Next.mk (fun g=>egH ao bo n c d (.int ((j+1:Nat):Int)) g) _ ⟨_,rfl,rfl⟩ (by kernel_rfl) fun w hw=>hw.sel [0,1] (by simp))
  | (intro h;have e:=hge h;subst e;show Next _ _ _ _;exact Next.pre (fun g=>egH ao bo j c d (.int (j:Int)) g) (hE rfl _) (by kernel_rfl) fun w hw=>hw)
  | refine And.intro ?_ ?_
  | apply Exists.intro
  | (intro h;exfalso;simp at h;done)
  | (intro h;replace h:=of_decide_eq_true h)
  | intro _
  | omega)
theorem eqAddrS_T (ao bo:Option Addr)(n c d:Nat)(u:Nat→Nat→Int)(v:Nat→Nat→Bool):(exFn Tryz.prog {L:=[(4,egL [true,true,true] ao bo n c d u v)]} 400 Tryz.f52 ([.a (.c (.sl 0 ao n c)),.a (.c (.sl 1 bo n d))]) (egT [true,true,true] ao bo n u v) (fun w _=>w.den=.bool true))=(
 ((((n:Nat):Int) != ((n:Nat):Int))=true→(Wb false)=(Wb true))∧((((n:Nat):Int) != ((n:Nat):Int))=false→([Ws ao n c,Ws bo n d,Wu [],Wu [],Wb false,Wi 0,Ws ao n c,Wi ((n:Nat):Int),Ws bo n d,Wi ((n:Nat):Int),Wb false,Wu [],Wu [],Wu [],Wu [],Wu [],Wu [],Wu [],Wu [],Wu [],Wu [],Wu [],Wu [],Wu [],Wu [],Wu [],Wu []]=[Ws ao n c,Ws bo n d,Wu [],Wu [],Wb false,Wi 0,Ws ao n c,Wi ((n:Nat):Int),Ws bo n d,Wi ((n:Nat):Int),Wb false,Wu [],Wu [],Wu [],Wu [],Wu [],Wu [],Wu [],Wu [],Wu [],Wu [],Wu [],Wu [],Wu [],Wu [],Wu [],Wu []]∧[Hr false ao 0 3 n 0 [fun b=>Ci (u 0 b),fun b=>Ci (u 1 b),fun b=>Ci (u 2 b)],Hr false bo 0 3 n 0 [fun b=>Ci (u 0 b),fun b=>Ci (u 1 b),fun b=>Ci (u 2 b)]]=[Hr false ao 0 3 n 0 [fun b=>Ci (u 0 b),fun b=>Ci (u 1 b),fun b=>Ci (u 2 b)],Hr false bo 0 3 n 0 [fun b=>Ci (u 0 b),fun b=>Ci (u 1 b),fun b=>Ci (u 2 b)]])∧∀ b:Nat→Value,(Wb true)=(Wb true))):=by kernel_rfl
theorem sEqAddrS_ok:SmOK Tryz.prog 52 (sEgS [true,true,true]):=sEgS_ok Tryz.call52 Tryz.func52 (by kernel_rfl) (by kernel_rfl) (E:={tb:=[(116,sEqAddr)]}) ⟨sEqAddr_ok,trivial⟩ rfl eqAddrB_ok fun ao bo n c d u v hn=>by
 refine @Eq.mpr _ _ (eqAddrS_T ao bo n c d u v) ?_
 simp
 try (intros;rfl)
def sEqRequest:Sm:=inlM Tryz.prog {tb:=[]} 300 Tryz.f117
theorem sEqRequest_ok:SmOK Tryz.prog 117 sEqRequest:=inlM_ok mixed (E:={tb:=[]}) trivial Tryz.func117 Tryz.call117 (fun _ _ _=>loopsOK_nil _ _ _)
theorem eqRequestB (ao bo:Option Addr)(n c d j:Nat)(u:Nat→Nat→Int)(v:Nat→Nat→Bool)(g:Nat→Value)(NX:List SV→List Ch→Prop)(kx:Exit→List SV→List Ch→Prop):(exCode Tryz.prog {tb:=[(117,sEqRequest)]} 400 (theLoop Tryz.f53 0) (egH ao bo n c d (.int (j:Int)) g) (egT [true,true,true,false,true,true] ao bo n u v) (loopK NX kx))=(
 (fun a:SV=>(fun b:SV=>(fun h:SV=>(fun k:SV=>(fun l:SV=>(fun m:Bool=>(fun o:Prop=>(fun p:List SC=>(fun q:SV=>(fun r:List (Nat→SC)=>(fun s:Ch=>(fun t:Ch=>(fun w:List SV=>(m=true→ao=ao∧n=n∧o∧ao=ao∧j<n∧bo=bo∧n=n∧o∧bo=bo∧j<n∧∀ x y:Nat,(fun z:Prop=>x=x∧y=y∧(((u 0 j) != (u 0 j))=true→z)∧(((u 0 j) != (u 0 j))=false→x=x∧y=y∧(((u 1 j) != (u 1 j))=true→z)∧(((u 1 j) != (u 1 j))=false→x=x∧y=y∧(((u 2 j) != (u 2 j))=true→z)∧(((u 2 j) != (u 2 j))=false→x=x∧y=y∧(((v 3 j) != (v 3 j))=true→z)∧(((v 3 j) != (v 3 j))=false→x=x∧y=y∧(((u 4 j) != (u 4 j))=true→z)∧(((u 4 j) != (u 4 j))=false→x=x∧y=y∧(((u 5 j) != (u 5 j))=true→z)∧(((u 5 j) != (u 5 j))=false→True∧rng (((j:Nat):Int)+(1:Int))∧NX [b,a,vV (g 2),vV (g 3),fV,l,vV (g 6),vV (g 7),vV (g 8),vV (g 9),vV (g 10),k,b,h,tV,k,l,b,k,rV 0 ao 6 j 0,q,a,k,rV 1 bo 6 j 0,q,tV,fV] [t,s,Hc x 168 p,Hc y 168 p]))))))) (True∧kx Exit.ret w [t,s,Hc x 168 p,Hc y 168 p]))∧(m=false→kx (Exit.exit 0) [b,a,vV (g 2),vV (g 3),fV,k,vV (g 6),vV (g 7),vV (g 8),vV (g 9),vV (g 10),k,b,h,fV,vV (g 15),vV (g 16),vV (g 17),vV (g 18),vV (g 19),vV (g 20),vV (g 21),vV (g 22),vV (g 23),vV (g 24),vV (g 25),vV (g 26)] [t,s])) [b,a,vV (g 2),vV (g 3),fV,k,vV (g 6),vV (g 7),vV (g 8),vV (g 9),vV (g 10),k,b,h,tV,vV (g 15),vV (g 16),b,k,rV 0 ao 6 j 0,q,a,k,rV 1 bo 6 j 0,q,fV,tV]) (Hr false ao 0 6 n 0 r)) (Hr false bo 0 6 n 0 r)) [fun r=>Ci (u 0 r),fun r=>Ci (u 1 r),fun r=>Ci (u 2 r),fun r=>Cb (v 3 r),fun r=>Ci (u 4 r),fun r=>Ci (u 5 r)]) (aV p)) [Ci (u 0 j),Ci (u 1 j),Ci (u 2 j),Cb (v 3 j),Ci (u 4 j),Ci (u 5 j)]) (0≤((j:Nat):Int)∧((j:Nat):Int)<((n:Nat):Int))) (decide (((j:Nat):Int)<((n:Nat):Int)))) (iV (((j:Nat):Int)+(1:Int)))) (iV ((j:Nat):Int))) (iV ((n:Nat):Int))) (sV 0 ao n c)) (sV 1 bo n d)):=by kernel_rfl
theorem eqRequestB_ok:egB Tryz.f53 {tb:=[(117,sEqRequest)]} [true,true,true,false,true,true]:=by
 intro ao bo n c d j u v g X k hn hj hE
 refine (@Eq.mpr _ _ (eqRequestB ao bo n c d j u v g _ _) ?_)
 dsimp -zeta -proj -iota -eta -failIfUnchanged (etaStruct:=.none) only
 have hjb:rng ((j:Int)+1):=by simp only [rng];omega
 have hge:∀ h:decide ((j:Int)<(n:Int))=false,j=n:=fun h=>by have:=of_decide_eq_false h;omega
 repeat' (first
  | with_reducible exact rfl
  | exact True.intro
  | with_reducible assumption
  | (refine ⟨by omega,?_⟩;show Next _ _ _ _;exact Next.mk (fun g=>egH ao bo n c d (.int ((j+1:Nat):Int)) g) _ ⟨_,rfl,rfl⟩ (by kernel_rfl) fun w hw=>hw.sel [0,1] (by simp))
  | (intro h;have e:=hge h;subst e;show Next _ _ _ _;exact Next.pre (fun g=>egH ao bo j c d (.int (j:Int)) g) (hE rfl _) (by kernel_rfl) fun w hw=>hw)
  | refine And.intro ?_ ?_
  | apply Exists.intro
  | (intro h;exfalso;simp at h;done)
  | (intro h;replace h:=of_decide_eq_true h)
  | intro _
  | omega)
theorem eqRequestS_T (ao bo:Option Addr)(n c d:Nat)(u:Nat→Nat→Int)(v:Nat→Nat→Bool):(exFn Tryz.prog {L:=[(4,egL [true,true,true,false,true,true] ao bo n c d u v)]} 400 Tryz.f53 ([.a (.c (.sl 0 ao n c)),.a (.c (.sl 1 bo n d))]) (egT [true,true,true,false,true,true] ao bo n u v) (fun w _=>w.den=.bool true))=(
 (fun b:Value=>(fun g:Bool=>(fun h:List (Nat→SC)=>(fun j:List Value=>(fun k:List Ch=>(g=true→(Wb false)=(Wb true))∧(g=false→(j=j∧k=k)∧∀ l:Nat→Value,(Wb true)=(Wb true))) [Hr false ao 0 6 n 0 h,Hr false bo 0 6 n 0 h]) [Ws ao n c,Ws bo n d,b,b,Wb false,Wi 0,Ws ao n c,Wi ((n:Nat):Int),Ws bo n d,Wi ((n:Nat):Int),Wb false,b,b,b,b,b,b,b,b,b,b,b,b,b,b,b,b]) [fun h=>Ci (u 0 h),fun h=>Ci (u 1 h),fun h=>Ci (u 2 h),fun h=>Cb (v 3 h),fun h=>Ci (u 4 h),fun h=>Ci (u 5 h)]) (((n:Nat):Int) != ((n:Nat):Int))) (Wu [])):=by kernel_rfl
theorem sEqRequestS_ok:SmOK Tryz.prog 53 (sEgS [true,true,true,false,true,true]):=sEgS_ok Tryz.call53 Tryz.func53 (by kernel_rfl) (by kernel_rfl) (E:={tb:=[(117,sEqRequest)]}) ⟨sEqRequest_ok,trivial⟩ rfl eqRequestB_ok fun ao bo n c d u v hn=>by
 refine @Eq.mpr _ _ (eqRequestS_T ao bo n c d u v) ?_
 dsimp -zeta -proj -iota -eta -failIfUnchanged (etaStruct:=.none) only
 simp
 try (intros;rfl)
def sEqShare:Sm:=inlM Tryz.prog {tb:=[]} 300 Tryz.f118
theorem sEqShare_ok:SmOK Tryz.prog 118 sEqShare:=inlM_ok mixed (E:={tb:=[]}) trivial Tryz.func118 Tryz.call118 (fun _ _ _=>loopsOK_nil _ _ _)
theorem eqShareB (ao bo:Option Addr)(n c d j:Nat)(u:Nat→Nat→Int)(v:Nat→Nat→Bool)(g:Nat→Value)(NX:List SV→List Ch→Prop)(kx:Exit→List SV→List Ch→Prop):(exCode Tryz.prog {tb:=[(118,sEqShare)]} 400 (theLoop Tryz.f54 0) (egH ao bo n c d (.int (j:Int)) g) (egT [true,true] ao bo n u v) (loopK NX kx))=(
 (fun a:SV=>(fun b:SV=>(fun h:SV=>(fun k:SV=>(fun l:List SC=>(fun m:SV=>(fun o:SV=>(fun p:List (Nat→SC)=>(fun q:Bool=>(fun r:Prop=>(fun s:Ch=>(fun t:Ch=>(fun w:List SV=>(q=true→ao=ao∧n=n∧r∧ao=ao∧j<n∧bo=bo∧n=n∧r∧bo=bo∧j<n∧∀ x y:Nat,(fun z:Prop=>x=x∧y=y∧(((u 0 j) != (u 0 j))=true→z)∧(((u 0 j) != (u 0 j))=false→x=x∧y=y∧(((u 1 j) != (u 1 j))=true→z)∧(((u 1 j) != (u 1 j))=false→True∧rng (((j:Nat):Int)+(1:Int))∧NX [b,a,vV (g 2),vV (g 3),fV,o,vV (g 6),vV (g 7),vV (g 8),vV (g 9),vV (g 10),k,b,h,tV,k,o,b,k,rV 0 ao 2 j 0,m,a,k,rV 1 bo 2 j 0,m,tV,fV] [t,s,Hc x 153 l,Hc y 153 l]))) (True∧kx Exit.ret w [t,s,Hc x 153 l,Hc y 153 l]))∧(q=false→kx (Exit.exit 0) [b,a,vV (g 2),vV (g 3),fV,k,vV (g 6),vV (g 7),vV (g 8),vV (g 9),vV (g 10),k,b,h,fV,vV (g 15),vV (g 16),vV (g 17),vV (g 18),vV (g 19),vV (g 20),vV (g 21),vV (g 22),vV (g 23),vV (g 24),vV (g 25),vV (g 26)] [t,s])) [b,a,vV (g 2),vV (g 3),fV,k,vV (g 6),vV (g 7),vV (g 8),vV (g 9),vV (g 10),k,b,h,tV,vV (g 15),vV (g 16),b,k,rV 0 ao 2 j 0,m,a,k,rV 1 bo 2 j 0,m,fV,tV]) (Hr false ao 0 2 n 0 p)) (Hr false bo 0 2 n 0 p)) (0≤((j:Nat):Int)∧((j:Nat):Int)<((n:Nat):Int))) (decide (((j:Nat):Int)<((n:Nat):Int)))) [fun p=>Ci (u 0 p),fun p=>Ci (u 1 p)]) (iV (((j:Nat):Int)+(1:Int)))) (aV l)) [Ci (u 0 j),Ci (u 1 j)]) (iV ((j:Nat):Int))) (iV ((n:Nat):Int))) (sV 0 ao n c)) (sV 1 bo n d)):=by kernel_rfl
theorem eqShareB_ok:egB Tryz.f54 {tb:=[(118,sEqShare)]} [true,true]:=by
 intro ao bo n c d j u v g X k hn hj hE
 refine (@Eq.mpr _ _ (eqShareB ao bo n c d j u v g _ _) ?_)
 dsimp -zeta -proj -iota -eta -failIfUnchanged (etaStruct:=.none) only
 have hjb:rng ((j:Int)+1):=by simp only [rng];omega
 have hge:∀ h:decide ((j:Int)<(n:Int))=false,j=n:=fun h=>by have:=of_decide_eq_false h;omega
 repeat' (first
  | with_reducible exact rfl
  | exact True.intro
  | with_reducible assumption
  | (refine ⟨by omega,?_⟩;show Next _ _ _ _;exact Next.mk (fun g=>egH ao bo n c d (.int ((j+1:Nat):Int)) g) _ ⟨_,rfl,rfl⟩ (by kernel_rfl) fun w hw=>hw.sel [0,1] (by simp))
  | (intro h;have e:=hge h;subst e;show Next _ _ _ _;exact Next.pre (fun g=>egH ao bo j c d (.int (j:Int)) g) (hE rfl _) (by kernel_rfl) fun w hw=>hw)
  | refine And.intro ?_ ?_
  | apply Exists.intro
  | (intro h;exfalso;simp at h;done)
  | (intro h;replace h:=of_decide_eq_true h)
  | intro _
  | omega)
theorem eqShareS_T (ao bo:Option Addr)(n c d:Nat)(u:Nat→Nat→Int)(v:Nat→Nat→Bool):(exFn Tryz.prog {L:=[(4,egL [true,true] ao bo n c d u v)]} 400 Tryz.f54 ([.a (.c (.sl 0 ao n c)),.a (.c (.sl 1 bo n d))]) (egT [true,true] ao bo n u v) (fun w _=>w.den=.bool true))=(
 ((((n:Nat):Int) != ((n:Nat):Int))=true→(Wb false)=(Wb true))∧((((n:Nat):Int) != ((n:Nat):Int))=false→([Ws ao n c,Ws bo n d,Wu [],Wu [],Wb false,Wi 0,Ws ao n c,Wi ((n:Nat):Int),Ws bo n d,Wi ((n:Nat):Int),Wb false,Wu [],Wu [],Wu [],Wu [],Wu [],Wu [],Wu [],Wu [],Wu [],Wu [],Wu [],Wu [],Wu [],Wu [],Wu [],Wu []]=[Ws ao n c,Ws bo n d,Wu [],Wu [],Wb false,Wi 0,Ws ao n c,Wi ((n:Nat):Int),Ws bo n d,Wi ((n:Nat):Int),Wb false,Wu [],Wu [],Wu [],Wu [],Wu [],Wu [],Wu [],Wu [],Wu [],Wu [],Wu [],Wu [],Wu [],Wu [],Wu [],Wu []]∧[Hr false ao 0 2 n 0 [fun b=>Ci (u 0 b),fun b=>Ci (u 1 b)],Hr false bo 0 2 n 0 [fun b=>Ci (u 0 b),fun b=>Ci (u 1 b)]]=[Hr false ao 0 2 n 0 [fun b=>Ci (u 0 b),fun b=>Ci (u 1 b)],Hr false bo 0 2 n 0 [fun b=>Ci (u 0 b),fun b=>Ci (u 1 b)]])∧∀ b:Nat→Value,(Wb true)=(Wb true))):=by kernel_rfl
theorem sEqShareS_ok:SmOK Tryz.prog 54 (sEgS [true,true]):=sEgS_ok Tryz.call54 Tryz.func54 (by kernel_rfl) (by kernel_rfl) (E:={tb:=[(118,sEqShare)]}) ⟨sEqShare_ok,trivial⟩ rfl eqShareB_ok fun ao bo n c d u v hn=>by
 refine @Eq.mpr _ _ (eqShareS_T ao bo n c d u v) ?_
 simp
 try (intros;rfl)
def sEqErrorEntry:Sm:=inlM Tryz.prog {tb:=[]} 300 Tryz.f119
theorem sEqErrorEntry_ok:SmOK Tryz.prog 119 sEqErrorEntry:=inlM_ok mixed (E:={tb:=[]}) trivial Tryz.func119 Tryz.call119 (fun _ _ _=>loopsOK_nil _ _ _)
theorem eqErrorEntryB (ao bo:Option Addr)(n c d j:Nat)(u:Nat→Nat→Int)(v:Nat→Nat→Bool)(g:Nat→Value)(NX:List SV→List Ch→Prop)(kx:Exit→List SV→List Ch→Prop):(exCode Tryz.prog {tb:=[(119,sEqErrorEntry)]} 400 (theLoop Tryz.f58 0) (egH ao bo n c d (.int (j:Int)) g) (egT [true,true,true] ao bo n u v) (loopK NX kx))=(
 (fun a:SV=>(fun b:SV=>(fun h:SV=>(fun k:SV=>(fun l:SV=>(fun m:List SC=>(fun o:SV=>(fun p:Bool=>(fun q:Prop=>(fun r:List (Nat→SC)=>(fun s:Ch=>(fun t:Ch=>(fun w:List SV=>(p=true→ao=ao∧n=n∧q∧ao=ao∧j<n∧bo=bo∧n=n∧q∧bo=bo∧j<n∧∀ x y:Nat,(fun z:Prop=>x=x∧y=y∧(((u 0 j) != (u 0 j))=true→z)∧(((u 0 j) != (u 0 j))=false→x=x∧y=y∧(((u 1 j) != (u 1 j))=true→z)∧(((u 1 j) != (u 1 j))=false→x=x∧y=y∧(((u 2 j) != (u 2 j))=true→z)∧(((u 2 j) != (u 2 j))=false→True∧rng (((j:Nat):Int)+(1:Int))∧NX [b,a,vV (g 2),vV (g 3),fV,l,vV (g 6),vV (g 7),vV (g 8),vV (g 9),vV (g 10),k,b,h,tV,k,l,b,k,rV 0 ao 3 j 0,o,a,k,rV 1 bo 3 j 0,o,tV,fV] [t,s,Hc x 172 m,Hc y 172 m])))) (True∧kx Exit.ret w [t,s,Hc x 172 m,Hc y 172 m]))∧(p=false→kx (Exit.exit 0) [b,a,vV (g 2),vV (g 3),fV,k,vV (g 6),vV (g 7),vV (g 8),vV (g 9),vV (g 10),k,b,h,fV,vV (g 15),vV (g 16),vV (g 17),vV (g 18),vV (g 19),vV (g 20),vV (g 21),vV (g 22),vV (g 23),vV (g 24),vV (g 25),vV (g 26)] [t,s])) [b,a,vV (g 2),vV (g 3),fV,k,vV (g 6),vV (g 7),vV (g 8),vV (g 9),vV (g 10),k,b,h,tV,vV (g 15),vV (g 16),b,k,rV 0 ao 3 j 0,o,a,k,rV 1 bo 3 j 0,o,fV,tV]) (Hr false ao 0 3 n 0 r)) (Hr false bo 0 3 n 0 r)) [fun r=>Ci (u 0 r),fun r=>Ci (u 1 r),fun r=>Ci (u 2 r)]) (0≤((j:Nat):Int)∧((j:Nat):Int)<((n:Nat):Int))) (decide (((j:Nat):Int)<((n:Nat):Int)))) (aV m)) [Ci (u 0 j),Ci (u 1 j),Ci (u 2 j)]) (iV (((j:Nat):Int)+(1:Int)))) (iV ((j:Nat):Int))) (iV ((n:Nat):Int))) (sV 0 ao n c)) (sV 1 bo n d)):=by kernel_rfl
theorem eqErrorEntryB_ok:egB Tryz.f58 {tb:=[(119,sEqErrorEntry)]} [true,true,true]:=by
 intro ao bo n c d j u v g X k hn hj hE
 refine (@Eq.mpr _ _ (eqErrorEntryB ao bo n c d j u v g _ _) ?_)
 dsimp -zeta -proj -iota -eta -failIfUnchanged (etaStruct:=.none) only
 have hjb:rng ((j:Int)+1):=by simp only [rng];omega
 have hge:∀ h:decide ((j:Int)<(n:Int))=false,j=n:=fun h=>by have:=of_decide_eq_false h;omega
 repeat' (first
  | with_reducible exact rfl
  | exact True.intro
  | with_reducible assumption
  | (refine ⟨by omega,?_⟩;show Next _ _ _ _;exact Next.mk (fun g=>egH ao bo n c d (.int ((j+1:Nat):Int)) g) _ ⟨_,rfl,rfl⟩ (by kernel_rfl) fun w hw=>hw.sel [0,1] (by simp))
  | (intro h;have e:=hge h;subst e;show Next _ _ _ _;exact Next.pre (fun g=>egH ao bo j c d (.int (j:Int)) g) (hE rfl _) (by kernel_rfl) fun w hw=>hw)
  | refine And.intro ?_ ?_
  | apply Exists.intro
  | (intro h;exfalso;simp at h;done)
  | (intro h;replace h:=of_decide_eq_true h)
  | intro _
  | omega)
theorem eqErrorEntryS_T (ao bo:Option Addr)(n c d:Nat)(u:Nat→Nat→Int)(v:Nat→Nat→Bool):(exFn Tryz.prog {L:=[(4,egL [true,true,true] ao bo n c d u v)]} 400 Tryz.f58 ([.a (.c (.sl 0 ao n c)),.a (.c (.sl 1 bo n d))]) (egT [true,true,true] ao bo n u v) (fun w _=>w.den=.bool true))=(
 ((((n:Nat):Int) != ((n:Nat):Int))=true→(Wb false)=(Wb true))∧((((n:Nat):Int) != ((n:Nat):Int))=false→([Ws ao n c,Ws bo n d,Wu [],Wu [],Wb false,Wi 0,Ws ao n c,Wi ((n:Nat):Int),Ws bo n d,Wi ((n:Nat):Int),Wb false,Wu [],Wu [],Wu [],Wu [],Wu [],Wu [],Wu [],Wu [],Wu [],Wu [],Wu [],Wu [],Wu [],Wu [],Wu [],Wu []]=[Ws ao n c,Ws bo n d,Wu [],Wu [],Wb false,Wi 0,Ws ao n c,Wi ((n:Nat):Int),Ws bo n d,Wi ((n:Nat):Int),Wb false,Wu [],Wu [],Wu [],Wu [],Wu [],Wu [],Wu [],Wu [],Wu [],Wu [],Wu [],Wu [],Wu [],Wu [],Wu [],Wu []]∧[Hr false ao 0 3 n 0 [fun b=>Ci (u 0 b),fun b=>Ci (u 1 b),fun b=>Ci (u 2 b)],Hr false bo 0 3 n 0 [fun b=>Ci (u 0 b),fun b=>Ci (u 1 b),fun b=>Ci (u 2 b)]]=[Hr false ao 0 3 n 0 [fun b=>Ci (u 0 b),fun b=>Ci (u 1 b),fun b=>Ci (u 2 b)],Hr false bo 0 3 n 0 [fun b=>Ci (u 0 b),fun b=>Ci (u 1 b),fun b=>Ci (u 2 b)]])∧∀ b:Nat→Value,(Wb true)=(Wb true))):=by kernel_rfl
theorem sEqErrorEntryS_ok:SmOK Tryz.prog 58 (sEgS [true,true,true]):=sEgS_ok Tryz.call58 Tryz.func58 (by kernel_rfl) (by kernel_rfl) (E:={tb:=[(119,sEqErrorEntry)]}) ⟨sEqErrorEntry_ok,trivial⟩ rfl eqErrorEntryB_ok fun ao bo n c d u v hn=>by
 refine @Eq.mpr _ _ (eqErrorEntryS_T ao bo n c d u v) ?_
 simp
 try (intros;rfl)
def sEqCommand:Sm:=inlM Tryz.prog {tb:=[]} 300 Tryz.f143
theorem sEqCommand_ok:SmOK Tryz.prog 143 sEqCommand:=inlM_ok mixed (E:={tb:=[]}) trivial Tryz.func143 Tryz.call143 (fun _ _ _=>loopsOK_nil _ _ _)
def sEqEvent:Sm:=inlM Tryz.prog {tb:=[(143,sEqCommand)]} 300 Tryz.f120
theorem sEqEvent_ok:SmOK Tryz.prog 120 sEqEvent:=inlM_ok mixed (E:={tb:=[(143,sEqCommand)]}) ⟨sEqCommand_ok,trivial⟩ Tryz.func120 Tryz.call120 (fun _ _ _=>loopsOK_nil _ _ _)
theorem eqEventB (ao bo:Option Addr)(n c d j:Nat)(u:Nat→Nat→Int)(v:Nat→Nat→Bool)(g:Nat→Value)(NX:List SV→List Ch→Prop)(kx:Exit→List SV→List Ch→Prop):(exCode Tryz.prog {tb:=[(120,sEqEvent)]} 400 (theLoop Tryz.f59 0) (egH ao bo n c d (.int (j:Int)) g) (egT [true,true,true,true,true] ao bo n u v) (loopK NX kx))=(
 (fun a:SV=>(fun b:SV=>(fun h:SV=>(fun k:SV=>(fun l:SV=>(fun m:Bool=>(fun o:List SC=>(fun p:Prop=>(fun q:List SC=>(fun r:SV=>(fun s:List (Nat→SC)=>(fun t:Ch=>(fun w:Ch=>(fun x:List SV=>(m=true→ao=ao∧n=n∧p∧ao=ao∧j<n∧bo=bo∧n=n∧p∧bo=bo∧j<n∧∀ y z:Nat,(fun B:Ch=>(fun C:Ch=>y=y∧z=z∧(((u 0 j) != (u 0 j))=true→True∧kx Exit.ret x [w,t,C,B])∧(((u 0 j) != (u 0 j))=false→y=y∧z=z∧∀ D E:Nat,(fun F:Prop=>D=D∧E=E∧(((u 1 j) != (u 1 j))=true→F)∧(((u 1 j) != (u 1 j))=false→D=D∧E=E∧(((u 2 j) != (u 2 j))=true→F)∧(((u 2 j) != (u 2 j))=false→D=D∧E=E∧(((u 3 j) != (u 3 j))=true→F)∧(((u 3 j) != (u 3 j))=false→D=D∧E=E∧(((u 4 j) != (u 4 j))=true→F)∧(((u 4 j) != (u 4 j))=false→True∧rng (((j:Nat):Int)+(1:Int))∧NX [b,a,vV (g 2),vV (g 3),fV,l,vV (g 6),vV (g 7),vV (g 8),vV (g 9),vV (g 10),k,b,h,tV,k,l,b,k,rV 0 ao 5 j 0,r,a,k,rV 1 bo 5 j 0,r,tV,fV] [w,t,C,B,Hc D 175 o,Hc E 175 o]))))) (True∧kx Exit.ret x [w,t,C,B,Hc D 175 o,Hc E 175 o]))) (Hc y 177 q)) (Hc z 177 q))∧(m=false→kx (Exit.exit 0) [b,a,vV (g 2),vV (g 3),fV,k,vV (g 6),vV (g 7),vV (g 8),vV (g 9),vV (g 10),k,b,h,fV,vV (g 15),vV (g 16),vV (g 17),vV (g 18),vV (g 19),vV (g 20),vV (g 21),vV (g 22),vV (g 23),vV (g 24),vV (g 25),vV (g 26)] [w,t])) [b,a,vV (g 2),vV (g 3),fV,k,vV (g 6),vV (g 7),vV (g 8),vV (g 9),vV (g 10),k,b,h,tV,vV (g 15),vV (g 16),b,k,rV 0 ao 5 j 0,r,a,k,rV 1 bo 5 j 0,r,fV,tV]) (Hr false ao 0 5 n 0 s)) (Hr false bo 0 5 n 0 s)) [fun s=>Ci (u 0 s),fun s=>Ci (u 1 s),fun s=>Ci (u 2 s),fun s=>Ci (u 3 s),fun s=>Ci (u 4 s)]) (aV q)) [Ci (u 0 j),Ci (u 1 j),Ci (u 2 j),Ci (u 3 j),Ci (u 4 j)]) (0≤((j:Nat):Int)∧((j:Nat):Int)<((n:Nat):Int))) [Ci (u 1 j),Ci (u 2 j),Ci (u 3 j),Ci (u 4 j)]) (decide (((j:Nat):Int)<((n:Nat):Int)))) (iV (((j:Nat):Int)+(1:Int)))) (iV ((j:Nat):Int))) (iV ((n:Nat):Int))) (sV 0 ao n c)) (sV 1 bo n d)):=by kernel_rfl
theorem eqEventB_ok:egB Tryz.f59 {tb:=[(120,sEqEvent)]} [true,true,true,true,true]:=by
 intro ao bo n c d j u v g X k hn hj hE
 refine (@Eq.mpr _ _ (eqEventB ao bo n c d j u v g _ _) ?_)
 dsimp -zeta -proj -iota -eta -failIfUnchanged (etaStruct:=.none) only
 have hjb:rng ((j:Int)+1):=by simp only [rng];omega
 have hge:∀ h:decide ((j:Int)<(n:Int))=false,j=n:=fun h=>by have:=of_decide_eq_false h;omega
 repeat' (first
  | with_reducible exact rfl
  | exact True.intro
  | with_reducible assumption
  | (refine ⟨by omega,?_⟩;show Next _ _ _ _;exact Next.mk (fun g=>egH ao bo n c d (.int ((j+1:Nat):Int)) g) _ ⟨_,rfl,rfl⟩ (by kernel_rfl) fun w hw=>hw.sel [0,1] (by simp))
  | (intro h;have e:=hge h;subst e;show Next _ _ _ _;exact Next.pre (fun g=>egH ao bo j c d (.int (j:Int)) g) (hE rfl _) (by kernel_rfl) fun w hw=>hw)
  | refine And.intro ?_ ?_
  | apply Exists.intro
  | (intro h;exfalso;simp at h;done)
  | (intro h;replace h:=of_decide_eq_true h)
  | intro _
  | omega)
theorem eqEventS_T (ao bo:Option Addr)(n c d:Nat)(u:Nat→Nat→Int)(v:Nat→Nat→Bool):(exFn Tryz.prog {L:=[(4,egL [true,true,true,true,true] ao bo n c d u v)]} 400 Tryz.f59 ([.a (.c (.sl 0 ao n c)),.a (.c (.sl 1 bo n d))]) (egT [true,true,true,true,true] ao bo n u v) (fun w _=>w.den=.bool true))=(
 ((((n:Nat):Int) != ((n:Nat):Int))=true→(Wb false)=(Wb true))∧((((n:Nat):Int) != ((n:Nat):Int))=false→([Ws ao n c,Ws bo n d,Wu [],Wu [],Wb false,Wi 0,Ws ao n c,Wi ((n:Nat):Int),Ws bo n d,Wi ((n:Nat):Int),Wb false,Wu [],Wu [],Wu [],Wu [],Wu [],Wu [],Wu [],Wu [],Wu [],Wu [],Wu [],Wu [],Wu [],Wu [],Wu [],Wu []]=[Ws ao n c,Ws bo n d,Wu [],Wu [],Wb false,Wi 0,Ws ao n c,Wi ((n:Nat):Int),Ws bo n d,Wi ((n:Nat):Int),Wb false,Wu [],Wu [],Wu [],Wu [],Wu [],Wu [],Wu [],Wu [],Wu [],Wu [],Wu [],Wu [],Wu [],Wu [],Wu [],Wu []]∧[Hr false ao 0 5 n 0 [fun b=>Ci (u 0 b),fun b=>Ci (u 1 b),fun b=>Ci (u 2 b),fun b=>Ci (u 3 b),fun b=>Ci (u 4 b)],Hr false bo 0 5 n 0 [fun b=>Ci (u 0 b),fun b=>Ci (u 1 b),fun b=>Ci (u 2 b),fun b=>Ci (u 3 b),fun b=>Ci (u 4 b)]]=[Hr false ao 0 5 n 0 [fun b=>Ci (u 0 b),fun b=>Ci (u 1 b),fun b=>Ci (u 2 b),fun b=>Ci (u 3 b),fun b=>Ci (u 4 b)],Hr false bo 0 5 n 0 [fun b=>Ci (u 0 b),fun b=>Ci (u 1 b),fun b=>Ci (u 2 b),fun b=>Ci (u 3 b),fun b=>Ci (u 4 b)]])∧∀ b:Nat→Value,(Wb true)=(Wb true))):=by kernel_rfl
theorem sEqEventS_ok:SmOK Tryz.prog 59 (sEgS [true,true,true,true,true]):=sEgS_ok Tryz.call59 Tryz.func59 (by kernel_rfl) (by kernel_rfl) (E:={tb:=[(120,sEqEvent)]}) ⟨sEqEvent_ok,trivial⟩ rfl eqEventB_ok fun ao bo n c d u v hn=>by
 refine @Eq.mpr _ _ (eqEventS_T ao bo n c d u v) ?_
 simp
 try (intros;rfl)
def sEqReply:Sm:=inlM Tryz.prog {tb:=[]} 300 Tryz.f121
theorem sEqReply_ok:SmOK Tryz.prog 121 sEqReply:=inlM_ok mixed (E:={tb:=[]}) trivial Tryz.func121 Tryz.call121 (fun _ _ _=>loopsOK_nil _ _ _)
theorem eqReplyB (ao bo:Option Addr)(n c d j:Nat)(u:Nat→Nat→Int)(v:Nat→Nat→Bool)(g:Nat→Value)(NX:List SV→List Ch→Prop)(kx:Exit→List SV→List Ch→Prop):(exCode Tryz.prog {tb:=[(121,sEqReply)]} 400 (theLoop Tryz.f60 0) (egH ao bo n c d (.int (j:Int)) g) (egT [true,true,true,true] ao bo n u v) (loopK NX kx))=(
 (fun a:SV=>(fun b:SV=>(fun h:SV=>(fun k:SV=>(fun l:SV=>(fun m:Bool=>(fun o:List SC=>(fun p:SV=>(fun q:Prop=>(fun r:List (Nat→SC)=>(fun s:Ch=>(fun t:Ch=>(fun w:List SV=>(m=true→ao=ao∧n=n∧q∧ao=ao∧j<n∧bo=bo∧n=n∧q∧bo=bo∧j<n∧∀ x y:Nat,(fun z:Prop=>x=x∧y=y∧(((u 0 j) != (u 0 j))=true→z)∧(((u 0 j) != (u 0 j))=false→x=x∧y=y∧(((u 1 j) != (u 1 j))=true→z)∧(((u 1 j) != (u 1 j))=false→x=x∧y=y∧(((u 2 j) != (u 2 j))=true→z)∧(((u 2 j) != (u 2 j))=false→x=x∧y=y∧(((u 3 j) != (u 3 j))=true→z)∧(((u 3 j) != (u 3 j))=false→True∧rng (((j:Nat):Int)+(1:Int))∧NX [b,a,vV (g 2),vV (g 3),fV,l,vV (g 6),vV (g 7),vV (g 8),vV (g 9),vV (g 10),k,b,h,tV,k,l,b,k,rV 0 ao 4 j 0,p,a,k,rV 1 bo 4 j 0,p,tV,fV] [t,s,Hc x 180 o,Hc y 180 o]))))) (True∧kx Exit.ret w [t,s,Hc x 180 o,Hc y 180 o]))∧(m=false→kx (Exit.exit 0) [b,a,vV (g 2),vV (g 3),fV,k,vV (g 6),vV (g 7),vV (g 8),vV (g 9),vV (g 10),k,b,h,fV,vV (g 15),vV (g 16),vV (g 17),vV (g 18),vV (g 19),vV (g 20),vV (g 21),vV (g 22),vV (g 23),vV (g 24),vV (g 25),vV (g 26)] [t,s])) [b,a,vV (g 2),vV (g 3),fV,k,vV (g 6),vV (g 7),vV (g 8),vV (g 9),vV (g 10),k,b,h,tV,vV (g 15),vV (g 16),b,k,rV 0 ao 4 j 0,p,a,k,rV 1 bo 4 j 0,p,fV,tV]) (Hr false ao 0 4 n 0 r)) (Hr false bo 0 4 n 0 r)) [fun r=>Ci (u 0 r),fun r=>Ci (u 1 r),fun r=>Ci (u 2 r),fun r=>Ci (u 3 r)]) (0≤((j:Nat):Int)∧((j:Nat):Int)<((n:Nat):Int))) (aV o)) [Ci (u 0 j),Ci (u 1 j),Ci (u 2 j),Ci (u 3 j)]) (decide (((j:Nat):Int)<((n:Nat):Int)))) (iV (((j:Nat):Int)+(1:Int)))) (iV ((j:Nat):Int))) (iV ((n:Nat):Int))) (sV 0 ao n c)) (sV 1 bo n d)):=by kernel_rfl
theorem eqReplyB_ok:egB Tryz.f60 {tb:=[(121,sEqReply)]} [true,true,true,true]:=by
 intro ao bo n c d j u v g X k hn hj hE
 refine (@Eq.mpr _ _ (eqReplyB ao bo n c d j u v g _ _) ?_)
 dsimp -zeta -proj -iota -eta -failIfUnchanged (etaStruct:=.none) only
 have hjb:rng ((j:Int)+1):=by simp only [rng];omega
 have hge:∀ h:decide ((j:Int)<(n:Int))=false,j=n:=fun h=>by have:=of_decide_eq_false h;omega
 repeat' (first
  | with_reducible exact rfl
  | exact True.intro
  | with_reducible assumption
  | (refine ⟨by omega,?_⟩;show Next _ _ _ _;exact Next.mk (fun g=>egH ao bo n c d (.int ((j+1:Nat):Int)) g) _ ⟨_,rfl,rfl⟩ (by kernel_rfl) fun w hw=>hw.sel [0,1] (by simp))
  | (intro h;have e:=hge h;subst e;show Next _ _ _ _;exact Next.pre (fun g=>egH ao bo j c d (.int (j:Int)) g) (hE rfl _) (by kernel_rfl) fun w hw=>hw)
  | refine And.intro ?_ ?_
  | apply Exists.intro
  | (intro h;exfalso;simp at h;done)
  | (intro h;replace h:=of_decide_eq_true h)
  | intro _
  | omega)
theorem eqReplyS_T (ao bo:Option Addr)(n c d:Nat)(u:Nat→Nat→Int)(v:Nat→Nat→Bool):(exFn Tryz.prog {L:=[(4,egL [true,true,true,true] ao bo n c d u v)]} 400 Tryz.f60 ([.a (.c (.sl 0 ao n c)),.a (.c (.sl 1 bo n d))]) (egT [true,true,true,true] ao bo n u v) (fun w _=>w.den=.bool true))=(
 ((((n:Nat):Int) != ((n:Nat):Int))=true→(Wb false)=(Wb true))∧((((n:Nat):Int) != ((n:Nat):Int))=false→([Ws ao n c,Ws bo n d,Wu [],Wu [],Wb false,Wi 0,Ws ao n c,Wi ((n:Nat):Int),Ws bo n d,Wi ((n:Nat):Int),Wb false,Wu [],Wu [],Wu [],Wu [],Wu [],Wu [],Wu [],Wu [],Wu [],Wu [],Wu [],Wu [],Wu [],Wu [],Wu [],Wu []]=[Ws ao n c,Ws bo n d,Wu [],Wu [],Wb false,Wi 0,Ws ao n c,Wi ((n:Nat):Int),Ws bo n d,Wi ((n:Nat):Int),Wb false,Wu [],Wu [],Wu [],Wu [],Wu [],Wu [],Wu [],Wu [],Wu [],Wu [],Wu [],Wu [],Wu [],Wu [],Wu [],Wu []]∧[Hr false ao 0 4 n 0 [fun b=>Ci (u 0 b),fun b=>Ci (u 1 b),fun b=>Ci (u 2 b),fun b=>Ci (u 3 b)],Hr false bo 0 4 n 0 [fun b=>Ci (u 0 b),fun b=>Ci (u 1 b),fun b=>Ci (u 2 b),fun b=>Ci (u 3 b)]]=[Hr false ao 0 4 n 0 [fun b=>Ci (u 0 b),fun b=>Ci (u 1 b),fun b=>Ci (u 2 b),fun b=>Ci (u 3 b)],Hr false bo 0 4 n 0 [fun b=>Ci (u 0 b),fun b=>Ci (u 1 b),fun b=>Ci (u 2 b),fun b=>Ci (u 3 b)]])∧∀ b:Nat→Value,(Wb true)=(Wb true))):=by kernel_rfl
theorem sEqReplyS_ok:SmOK Tryz.prog 60 (sEgS [true,true,true,true]):=sEgS_ok Tryz.call60 Tryz.func60 (by kernel_rfl) (by kernel_rfl) (E:={tb:=[(121,sEqReply)]}) ⟨sEqReply_ok,trivial⟩ rfl eqReplyB_ok fun ao bo n c d u v hn=>by
 refine @Eq.mpr _ _ (eqReplyS_T ao bo n c d u v) ?_
 simp
 try (intros;rfl)
structure CtD where
 i:Nat→Int
 b:Nat→Bool
 n:Nat→Nat
 g:Nat→Nat→Nat→Int
 h:Nat→Nat→Nat→Bool
 c:CD
 t:TK
def ctS (k:Nat)(x:CtD)(o:Nat→Option Addr)(q:Nat→Nat):List SC:=[.int (x.i 0),.int (x.i 1),.int (x.i 2),.int (x.i 3),.int (x.i 4),.int (x.i 5),.int (x.i 6),.int (x.i 7),.int (x.i 8),.int (x.i 9),.int (x.i 10),.int (x.i 11),.int (x.i 12),.int (x.i 13),.int (x.i 14),.int (x.i 15),.int (x.i 16),.int (x.i 17),.int (x.i 18),.int (x.i 19),.int (x.i 20),.int (x.i 21),.bool (x.b 0),.int (x.i 22),.int (x.i 23),.int (x.i 24),.int (x.i 25),.int (x.i 26),.int (x.i 27),.int (x.i 28),.int (x.i 29),.int (x.i 30),.int (x.i 31),.sl (k+0) (o 0) (x.n 0) (q 0),.int (x.i 32),.int (x.i 33),.int (x.i 34),.int (x.i 35),.int (x.i 36),.int (x.i 37),.int (x.i 38),.sl (k+1) (o 1) (x.n 1) (q 1),.int (x.i 39),.int (x.i 40),.bool (x.b 1),.int (x.i 41),.sl (k+2) (o 2) (x.n 2) (q 2),.int (x.i 42),.sl (k+3) (o 3) (x.n 3) (q 3),.sl (k+4) (o 4) (x.n 4) (q 4),.sl (k+5) (o 5) (x.c.n) (q 5),.sl (k+6) (o 6) (x.n 6) (q 6),.sl (k+7) (o 7) (x.n 7) (q 7),.int (x.i 43),.sl (k+8) (o 8) (x.n 8) (q 8),.sl (k+9) (o 9) (x.n 9) (q 9),.int (x.i 44),.bool (x.b 2),.sl (k+10) (o 10) (x.t.n) (q 10),.sl (k+11) (o 11) (x.n 11) (q 11),.sl (k+12) (o 12) (x.n 12) (q 12),.sl (k+13) (o 13) (x.n 13) (q 13),.sl (k+14) (o 14) (x.n 14) (q 14),.bool (x.b 3),.int (x.i 45),.int (x.i 46),.int (x.i 47),.int (x.i 48),.int (x.i 49),.int (x.i 50),.int (x.i 51),.int (x.i 52),.sl (k+15) (o 15) (x.n 15) (q 15),.sl (k+16) (o 16) (x.n 16) (q 16),.sl (k+17) (o 17) (x.n 17) (q 17)]
def ctV (x:CtD)(o:Nat→Option Addr)(q:Nat→Nat):Value:=.agg #[.int .i64 (x.i 0),.int .i64 (x.i 1),.int .i64 (x.i 2),.int .i64 (x.i 3),.int .i64 (x.i 4),.int .i64 (x.i 5),.int .i64 (x.i 6),.int .i64 (x.i 7),.int .i64 (x.i 8),.int .i64 (x.i 9),.int .i64 (x.i 10),.int .i64 (x.i 11),.int .i64 (x.i 12),.int .i64 (x.i 13),.int .i64 (x.i 14),.int .i64 (x.i 15),.int .i64 (x.i 16),.int .i64 (x.i 17),.int .i64 (x.i 18),.int .i64 (x.i 19),.int .i64 (x.i 20),.int .i64 (x.i 21),.bool (x.b 0),.int .i64 (x.i 22),.int .i64 (x.i 23),.int .i64 (x.i 24),.int .i64 (x.i 25),.int .i64 (x.i 26),.int .i64 (x.i 27),.int .i64 (x.i 28),.int .i64 (x.i 29),.int .i64 (x.i 30),.int .i64 (x.i 31),.slice (o 0) (x.n 0) (q 0),.int .i64 (x.i 32),.int .i64 (x.i 33),.int .i64 (x.i 34),.int .i64 (x.i 35),.int .i64 (x.i 36),.int .i64 (x.i 37),.int .i64 (x.i 38),.slice (o 1) (x.n 1) (q 1),.int .i64 (x.i 39),.int .i64 (x.i 40),.bool (x.b 1),.int .i64 (x.i 41),.slice (o 2) (x.n 2) (q 2),.int .i64 (x.i 42),.slice (o 3) (x.n 3) (q 3),.slice (o 4) (x.n 4) (q 4),.slice (o 5) (x.c.n) (q 5),.slice (o 6) (x.n 6) (q 6),.slice (o 7) (x.n 7) (q 7),.int .i64 (x.i 43),.slice (o 8) (x.n 8) (q 8),.slice (o 9) (x.n 9) (q 9),.int .i64 (x.i 44),.bool (x.b 2),.slice (o 10) (x.t.n) (q 10),.slice (o 11) (x.n 11) (q 11),.slice (o 12) (x.n 12) (q 12),.slice (o 13) (x.n 13) (q 13),.slice (o 14) (x.n 14) (q 14),.bool (x.b 3),.int .i64 (x.i 45),.int .i64 (x.i 46),.int .i64 (x.i 47),.int .i64 (x.i 48),.int .i64 (x.i 49),.int .i64 (x.i 50),.int .i64 (x.i 51),.int .i64 (x.i 52),.slice (o 15) (x.n 15) (q 15),.slice (o 16) (x.n 16) (q 16),.slice (o 17) (x.n 17) (q 17)]
def ctR (k:Nat)(x:CtD)(o:Nat→Option Addr)(q:Nat→Nat)(so:Nat→Option Addr)(sc:Nat→Nat)(uo:Nat→Option Addr)(uc:Nat→Nat)(vo:Nat→Option Addr)(vc:Nat→Nat):List Ch:=[.row ⟨false,o 0,0,1,x.n 0,0,[fun i=>.int (x.g 0 0 i)]⟩,.row ⟨false,o 1,0,1,x.n 1,0,[fun i=>.int (x.g 1 0 i)]⟩,.row ⟨false,o 2,0,2,x.n 2,0,flK (x.g 2) (x.h 2) 0 [false,true]⟩,.row ⟨false,o 3,0,1,x.n 3,0,[fun i=>.int (x.g 3 0 i)]⟩,.row ⟨false,o 4,0,1,x.n 4,0,[fun i=>.int (x.g 4 0 i)]⟩,.row ⟨false,o 5,0,2,x.c.n,0,cellFld (k+18) x.c so sc⟩,.row ⟨false,o 6,0,1,x.n 6,0,[fun i=>.int (x.g 6 0 i)]⟩,.row ⟨false,o 7,0,1,x.n 7,0,[fun i=>.int (x.g 7 0 i)]⟩,.row ⟨false,o 8,0,1,x.n 8,0,[fun i=>.int (x.g 8 0 i)]⟩,.row ⟨false,o 9,0,1,x.n 9,0,[fun i=>.int (x.g 9 0 i)]⟩,.row ⟨false,o 10,0,3,x.t.n,0,trkFld (k+19) (k+20) x.t uo uc vo vc⟩,.row ⟨false,o 11,0,1,x.n 11,0,[fun i=>.int (x.g 11 0 i)]⟩,.row ⟨false,o 12,0,3,x.n 12,0,flK (x.g 12) (x.h 12) 0 [true,true,true]⟩,.row ⟨false,o 13,0,6,x.n 13,0,flK (x.g 13) (x.h 13) 0 [true,true,true,false,true,true]⟩,.row ⟨false,o 14,0,2,x.n 14,0,flK (x.g 14) (x.h 14) 0 [true,true]⟩,.row ⟨false,o 15,0,3,x.n 15,0,flK (x.g 15) (x.h 15) 0 [true,true,true]⟩,.row ⟨false,o 16,0,5,x.n 16,0,flK (x.g 16) (x.h 16) 0 [true,true,true,true,true]⟩,.row ⟨false,o 17,0,4,x.n 17,0,flK (x.g 17) (x.h 17) 0 [true,true,true,true]⟩,.obj false (symRows false 0 x.c so (fun _=>0)),.obj false (symRows false 0 (tkR x.t) uo (fun _=>0)),.obj false (symRows false 0 (tkQ x.t) vo (fun _=>0))]
def ctO (k:Nat)(x:CtD)(o:Nat→Option Addr)(q:Nat→Nat)(so:Nat→Option Addr)(sc:Nat→Nat)(uo:Nat→Option Addr)(uc:Nat→Nat)(vo:Nat→Option Addr)(vc:Nat→Nat):List Ch:=[.row ⟨true,o 0,3,1,x.n 0,q 0,[fun i=>.int (x.g 0 0 i)]⟩,.row ⟨true,o 1,3,1,x.n 1,q 1,[fun i=>.int (x.g 1 0 i)]⟩,.row ⟨true,o 2,194,2,x.n 2,q 2,flK (x.g 2) (x.h 2) 0 [false,true]⟩,.row ⟨true,o 3,3,1,x.n 3,q 3,[fun i=>.int (x.g 3 0 i)]⟩,.row ⟨true,o 4,3,1,x.n 4,q 4,[fun i=>.int (x.g 4 0 i)]⟩,.row ⟨true,o 5,149,2,x.c.n,q 5,cellFld (k+18) x.c so sc⟩,.row ⟨true,o 6,3,1,x.n 6,q 6,[fun i=>.int (x.g 6 0 i)]⟩,.row ⟨true,o 7,3,1,x.n 7,q 7,[fun i=>.int (x.g 7 0 i)]⟩,.row ⟨true,o 8,3,1,x.n 8,q 8,[fun i=>.int (x.g 8 0 i)]⟩,.row ⟨true,o 9,3,1,x.n 9,q 9,[fun i=>.int (x.g 9 0 i)]⟩,.row ⟨true,o 10,98,3,x.t.n,q 10,trkFld (k+19) (k+20) x.t uo uc vo vc⟩,.row ⟨true,o 11,3,1,x.n 11,q 11,[fun i=>.int (x.g 11 0 i)]⟩,.row ⟨true,o 12,165,3,x.n 12,q 12,flK (x.g 12) (x.h 12) 0 [true,true,true]⟩,.row ⟨true,o 13,168,6,x.n 13,q 13,flK (x.g 13) (x.h 13) 0 [true,true,true,false,true,true]⟩,.row ⟨true,o 14,153,2,x.n 14,q 14,flK (x.g 14) (x.h 14) 0 [true,true]⟩,.row ⟨true,o 15,172,3,x.n 15,q 15,flK (x.g 15) (x.h 15) 0 [true,true,true]⟩,.row ⟨true,o 16,177,5,x.n 16,q 16,flK (x.g 16) (x.h 16) 0 [true,true,true,true,true]⟩,.row ⟨true,o 17,180,4,x.n 17,q 17,flK (x.g 17) (x.h 17) 0 [true,true,true,true]⟩,.obj true (symRows true 3 x.c so sc),.obj true (symRows true 3 (tkR x.t) uo uc),.obj true (symRows true 3 (tkQ x.t) vo vc)]
def pickL {α:Type}:List α→α→Nat→α
 | [],d,_=>d
 | a::_,_,0=>a
 | _::r,d,n+1=>pickL r d n
abbrev capCt (x:CtD):Prop:=(x.n 0≤2097152∧x.n 1≤2097152∧x.n 2≤2097152∧x.n 3≤2097152∧x.n 4≤2097152∧x.n 6≤2097152∧x.n 7≤2097152∧x.n 8≤2097152∧x.n 9≤2097152∧x.n 11≤2097152∧x.n 12≤2097152∧x.n 13≤2097152∧x.n 14≤2097152∧x.n 15≤2097152∧x.n 16≤2097152∧x.n 17≤2097152)∧capK x.c∧capT x.t
structure SeenCt (w:World) (x:CtD) (o:Nat→Option Addr) (q:Nat→Nat) (so:Nat→Option Addr) (sc:Nat→Nat) (uo:Nat→Option Addr) (uc:Nat→Nat) (vo:Nat→Option Addr) (vc:Nat→Nat):Prop where
 h:∀ k,∀ c∈ctR k x o q so sc uo uc vo vc,c.own=false∧c.sat w
end Go.Proofs.YtbhfabaofhhkeaaGreat

/-
  FnExactStoredAddr: a part of the walk (merged and squeezed by program: SxPrQ).
-/
import Derived.Test.YtmnccapnjphmfaaGreatZbae
import Derived.Test.YtmnccapnjphmfaaGreatZbah
import Derived.Test.YtmnccapnjphmfaaGreatZbaw
namespace Go.Proofs.YtmnccapnjphmfaaGreat
set_option linter.unusedVariables false
set_option linter.unusedSimpArgs false
open Go.RowKit
set_option maxRecDepth 100000
set_option maxHeartbeats 8000000
abbrev leC (n c:Nat):Prop:=n≤c
def quB (n:Nat)(u:Nat→Nat→Int)(v:Nat→Nat→Bool)(L:Int):Bool:=decide ((n:Int)≤12)&&allB n (fun j=>rqB L (u 0 j) (u 1 j) (u 2 j) (v 3 j) (u 4 j) (u 5 j)&&!(decide (0<j)&&!befB (u 0 (j-1)) (u 5 (j-1)) (u 0 j) (u 5 j))&&ieq (itI n (u 0) (u 0 j)) (j:Int))
def qSH (ao:Option Addr)(n c:Nat)(u:Nat→Nat→Int)(v:Nat→Nat→Bool)(L:Int)(i:SC)(g:Nat→Value):List SV:=hdN [(0,.a (.c (.int L))),(1,.a (.c (.sl 0 ao n c))),(5,.a (.c i))] g 0 50
def qSR (ao:Option Addr)(n c:Nat)(u:Nat→Nat→Int)(v:Nat→Nat→Bool)(L:Int)(j:Nat)(g:Nat→Value):List SV:=hdN [(4,.a (.c (.lit false)))] g 0 50
def qST (ao:Option Addr)(n c:Nat)(u:Nat→Nat→Int)(v:Nat→Nat→Bool)(L:Int):List Ch:=[.row ⟨false,ao,0,6,n,0,flK u v 0 [true,true,true,false,true,true]⟩]
def qSP (ao:Option Addr)(n c:Nat)(u:Nat→Nat→Int)(v:Nat→Nat→Bool)(L:Int)(j:Nat):Bool:=rqB L (u 0 j) (u 1 j) (u 2 j) (v 3 j) (u 4 j) (u 5 j)&&!(decide (0<j)&&!befB (u 0 (j-1)) (u 5 (j-1)) (u 0 j) (u 5 j))&&ieq (itI n (u 0) (u 0 j)) (j:Int)
def sqS (ao:Option Addr)(n c:Nat)(u:Nat→Nat→Int)(v:Nat→Nat→Bool)(L:Int):LSm:=fun ts ch k =>
 (ts.map SV.den=(qSH ao n c u v L (.il 0) (fun d=>(ts.getD d .undef).den)).map SV.den∧selC ch [0]=qST ao n c u v L) ∧
  (∀ g,allB n (qSP ao n c u v L)=true→k (.exit 0) (qSH ao n c u v L (.int (n:Int)) g) (qST ao n c u v L))∧(∀ g j,ltN j n→allB j (qSP ao n c u v L)=true→qSP ao n c u v L j=false→k .ret (qSR ao n c u v L j g) (qST ao n c u v L))
theorem qSB (ao:Option Addr)(n c:Nat)(u:Nat→Nat→Int)(v:Nat→Nat→Bool)(L:Int)(j:Nat)(g:Nat→Value)(NX:List SV→List Ch→Prop)(kx:Exit→List SV→List Ch→Prop):(exCode Tryz.prog {tb:=[(110,sRqB),(111,sBefB),(112,sRqAt)]} 400 (theLoop Tryz.f35 0) (qSH ao n c u v L (.int (j:Int)) g) (qST ao n c u v L) (loopK NX kx))=(
 (fun a:SV=>(fun b:SV=>(fun d:SV=>(fun h:SV=>(fun k:SV=>(fun l:SV=>(fun m:SV=>(fun o:SV=>(fun p:SV=>(fun q:SV=>(fun r:SV=>(fun s:SV=>(fun t:SV=>(fun w:SV=>(fun x:SV=>(fun y:Bool=>(fun z:Nat=>(fun B:SV=>(fun C:Bool=>(fun D:Bool=>(fun E:SV=>(fun F:Bool=>(fun G:SV=>(fun H:SV=>(fun I:Prop=>(fun J:SV=>(fun K:Bool=>(fun M:Bool=>(fun N:SV=>(fun O:SV=>(fun P:List (Nat→SC)=>(fun Q:List Ch=>(fun R:SV=>(C=true→ao=ao∧n=n∧I∧ao=ao∧j<n∧True∧(F=false→(y=true→rng (((j:Nat):Int)-(1:Int))∧ao=ao∧n=n∧(0≤(((j:Nat):Int)-(1:Int))∧(((j:Nat):Int)-(1:Int))<((n:Nat):Int))∧ao=ao∧z<n∧ao=ao∧n=n∧I∧ao=ao∧j<n∧True∧(M=false→ao=ao∧n=n∧I∧ao=ao∧j<n∧ao=ao∧j<n∧∃(S:Nat→Nat→Int) (T:Nat→Nat→Bool),(fun U:SV=>(fun V:Bool=>(fun W:SV=>(ao=ao∧n=n∧P=[fun X=>Ci (S 0 X),fun X=>Ci (S 1 X),fun X=>Ci (S 2 X),fun X=>Cb (T 3 X),fun X=>Ci (S 4 X),fun X=>Ci (S 5 X)])∧lenC n∧True∧(V=true→kx Exit.ret [a,q,l,k,fV,t,h,d,b,t,q,s,tV,o,m,a,q,t,r,J,G,H,fV,t,B,tV,q,t,x,E,R,q,t,r,J,N,O,O,O,fV,q,q,t,r,r,p,U,t,W,tV] Q)∧(V=false→rng (((j:Nat):Int)+(1:Int))∧NX [a,q,l,k,vV (g 4),w,h,d,b,t,q,s,tV,t,w,a,q,t,r,J,G,H,fV,t,B,tV,q,t,x,E,R,q,t,r,J,N,O,O,O,fV,q,q,t,r,r,p,U,t,W,fV] Q)) (bV V)) ((itI n (S 0) (u 0 j)) != ((j:Nat):Int))) (iV (itI n (S 0) (u 0 j))))∧(M=true→kx Exit.ret [a,q,l,k,fV,t,h,d,b,t,q,s,tV,o,m,a,q,t,r,J,G,H,fV,t,B,tV,q,t,x,E,R,q,t,r,J,N,O,O,O,tV,xV,xV,xV,xV,xV,xV,xV,xV,xV,tV] Q))∧(y=false→ao=ao∧n=n∧I∧ao=ao∧j<n∧ao=ao∧j<n∧∃(S:Nat→Nat→Int) (T:Nat→Nat→Bool),(fun U:SV=>(fun V:Bool=>(fun W:SV=>(ao=ao∧n=n∧P=[fun X=>Ci (S 0 X),fun X=>Ci (S 1 X),fun X=>Ci (S 2 X),fun X=>Cb (T 3 X),fun X=>Ci (S 4 X),fun X=>Ci (S 5 X)])∧lenC n∧True∧(V=true→kx Exit.ret [a,q,l,k,fV,t,h,d,b,t,q,s,tV,o,m,a,q,t,r,J,G,H,fV,t,B,fV,xV,xV,xV,xV,xV,xV,xV,xV,xV,xV,xV,fV,fV,fV,q,q,t,r,r,p,U,t,W,tV] Q)∧(V=false→rng (((j:Nat):Int)+(1:Int))∧NX [a,q,l,k,vV (g 4),w,h,d,b,t,q,s,tV,t,w,a,q,t,r,J,G,H,fV,t,B,fV,xV,xV,xV,xV,xV,xV,xV,xV,xV,xV,xV,fV,fV,fV,q,q,t,r,r,p,U,t,W,fV] Q)) (bV V)) ((itI n (S 0) (u 0 j)) != ((j:Nat):Int))) (iV (itI n (S 0) (u 0 j)))))∧(F=true→kx Exit.ret [a,q,l,k,fV,t,h,d,b,t,q,s,tV,o,m,a,q,t,r,J,G,H,tV,xV,xV,xV,xV,xV,xV,xV,xV,xV,xV,xV,xV,xV,xV,xV,tV,tV,xV,xV,xV,xV,xV,xV,xV,xV,xV,tV] Q))∧(C=false→kx (Exit.exit 0) [a,q,l,k,vV (g 4),t,h,d,b,t,q,s,fV,o,m,vV (g 15),vV (g 16),vV (g 17),vV (g 18),vV (g 19),vV (g 20),vV (g 21),vV (g 22),vV (g 23),vV (g 24),vV (g 25),vV (g 26),vV (g 27),vV (g 28),vV (g 29),vV (g 30),vV (g 31),vV (g 32),vV (g 33),vV (g 34),vV (g 35),vV (g 36),vV (g 37),vV (g 38),vV (g 39),vV (g 40),vV (g 41),vV (g 42),vV (g 43),vV (g 44),vV (g 45),vV (g 46),vV (g 47),vV (g 48),vV (g 49)] Q)) (aV [Ci (u 0 z),Ci (u 1 z),Ci (u 2 z),Cb (v 3 z),Ci (u 4 z),Ci (u 5 z)])) [Hr false ao 0 6 n 0 P]) [fun P=>Ci (u 0 P),fun P=>Ci (u 1 P),fun P=>Ci (u 2 P),fun P=>Cb (v 3 P),fun P=>Ci (u 4 P),fun P=>Ci (u 5 P)]) (bV M)) (bV K)) (! K)) (befB (u 0 z) (u 5 z) (u 0 j) (u 5 j))) (aV [Ci (u 0 j),Ci (u 1 j),Ci (u 2 j),Cb (v 3 j),Ci (u 4 j),Ci (u 5 j)])) (0≤((j:Nat):Int)∧((j:Nat):Int)<((n:Nat):Int))) (bV F)) (bV D)) (! D)) (rV 0 ao 6 z 0)) (rqB L (u 0 j) (u 1 j) (u 2 j) (v 3 j) (u 4 j) (u 5 j))) (decide (((j:Nat):Int)<((n:Nat):Int)))) (bV y)) (Int.toNat (((j:Nat):Int)-(1:Int)))) (decide (((j:Nat):Int) > (0:Int)))) (iV (((j:Nat):Int)-(1:Int)))) (iV (((j:Nat):Int)+(1:Int)))) (iV ((j:Nat):Int))) (iV ((n:Nat):Int))) (rV 0 ao 6 j 0)) (sV 0 ao n c)) (iV (u 0 j))) (vV (g 13))) (vV (g 14))) (vV (g 2))) (vV (g 3))) (vV (g 6))) (vV (g 7))) (vV (g 8))) (iV L)):=by kernel_rfl
theorem qS_ok (ao:Option Addr)(n c:Nat)(u:Nat→Nat→Int)(v:Nat→Nat→Bool)(L:Int)(hn:n≤9223372036854775807)(X:Cx):LoopOK Tryz.prog X (theLoop Tryz.f35 0) (sqS ao n c u v L):=by
 intro ts ch k a w hS hT hd hs
 obtain ⟨⟨h1,hch⟩,hk,hr⟩:=hS
 refine loop_ok mixed (E:={tb:=[(110,sRqB),(111,sBefB),(112,sRqAt)]}) ⟨sRqB_ok_rqS,sBefB_ok_bfS,sRqAt_ok,trivial⟩ (loopsOK_nil _ _ _) 400 n (fun j ts ch=>∃ g,allB j (qSP ao n c u v L)=true∧ts=qSH ao n c u v L (.int (j:Int)) g∧ch=qST ao n c u v L) ?_ ?_ hT hd hs
 ·rintro j _ _ ⟨g,hall,rfl,rfl⟩ hj
  refine @Eq.mpr _ _ (qSB ao n c u v L j g _ _) ?_
  dsimp -zeta -proj -iota -eta -failIfUnchanged (etaStruct:=.none) only
  by_cases hlt:j<n
  ·have hjn:(0:Int)≤(j:Int)∧(j:Int)<(n:Int):=⟨by omega,by omega⟩
   clear h1
   have ej:Int.toNat ((j:Int)-1)=j-1:=by omega
   cases hP:qSP ao n c u v L j
   all_goals cases hp0:rqB L (u 0 j) (u 1 j) (u 2 j) (v 3 j) (u 4 j) (u 5 j)
   all_goals by_cases hp1:0<j
   all_goals cases hp2:befB (u 0 (j-1)) (u 5 (j-1)) (u 0 j) (u 5 j)
   all_goals cases hp3:ieq (itI n (u 0) (u 0 j)) (j:Int)
   all_goals have hn3:=ieq_ne hp3
   all_goals (first | (exfalso;simp [qSP,hp0,hp1,hp2,hp3,hn3,ej] at hP;done) | skip)
   all_goals
    repeat' (first
     | with_reducible exact rfl
     | exact True.intro
     | with_reducible assumption
     | (refine ⟨hlt,?_⟩;show Next _ _ _ _;refine Next.mk (fun g=>qSH ao n c u v L (.int ((j+1:Nat):Int)) g) _ ⟨_,allB_succ hall hP,rfl,rfl⟩ rfl fun w hw=>hw.sel [0] (by simp))
     | (refine Next.mk (fun g=>qSR ao n c u v L j g) _ (hr _ j hlt hall hP) rfl fun w hw=>hw.sel [0] (by simp))
     | refine And.intro ?_ ?_
     | (refine fun (h:@Eq Bool _ _)=>?_;exfalso;first | (simp [hp0,hp1,hp2,hp3,hn3,ej] at h;done) | (simp [hp0,hp1,hp2,hp3,hn3,ej] at h;omega))
     | (rw [ej])
     | (simp only [ej])
     | apply Exists.intro
     | intro _
     | omega)
  ·have hjn:n=j:=by omega
   subst hjn
   repeat' (first
    | with_reducible exact rfl
    | exact True.intro
    | (refine Next.mk (fun g=>qSH ao n c u v L (.int (n:Int)) g) _ (hk _ hall) rfl fun w hw=>hw.sel [0] (by simp))
    | refine And.intro ?_ ?_
    | (refine fun (h:@Eq Bool _ _)=>?_;exfalso;first | (simp at h;done) | (simp at h;omega))
    | intro _)
 ·refine Next.mk (fun g=>qSH ao n c u v L (.int ((0:Nat):Int)) g) _ ⟨_,allB_zero _,rfl,rfl⟩ h1 fun w hw=>?_
  rw [← hch]
  exact hw.sel [0] (by simp)
def qKH (ao:Option Addr)(n c:Nat)(u:Nat→Nat→Int)(v:Nat→Nat→Bool)(L:Int)(q be:Nat)(a2:Option Addr)(m d:Nat)(i:SC)(g:Nat→Value):List SV:=hdN [(0,.a (.c (.int L))),(1,.a (.c (.sl 0 ao n c))),(6,.a (.c (.ptr 1 be 0))),(9,.a (.c (.sl 0 ao n c))),(10,.a (.c (.int (n:Int)))),(11,.a (.c (.int (q:Int)))),(36,.a (.c (.sl 2 a2 m d))),(37,.a (.c (.int (m:Int)))),(38,.a (.c i))] g 0 52
def qKR (ao:Option Addr)(n c:Nat)(u:Nat→Nat→Int)(v:Nat→Nat→Bool)(L:Int)(q be:Nat)(a2:Option Addr)(m d:Nat)(j:Nat)(g:Nat→Value):List SV:=hdN [(4,.a (.c (.lit false)))] g 0 52
def qKT (ao:Option Addr)(n c:Nat)(u:Nat→Nat→Int)(v:Nat→Nat→Bool)(L:Int)(q be:Nat)(a2:Option Addr)(m d:Nat):List Ch:=[.row ⟨false,ao,0,6,n,0,flK u v 0 [true,true,true,false,true,true]⟩,.cells be 199 [.int (u 0 q),.int (u 1 q),.int (u 2 q),.bool (v 3 q),.int (u 4 q),.int (u 5 q)],.row ⟨false,a2,0,6,m,0,flK u v 0 [true,true,true,false,true,true]⟩]
def qKP (ao:Option Addr)(n c:Nat)(u:Nat→Nat→Int)(v:Nat→Nat→Bool)(L:Int)(q be:Nat)(a2:Option Addr)(m d:Nat)(j:Nat):Bool:=!ieq (u 0 j) (u 0 q)
def sqK (ao:Option Addr)(n c:Nat)(u:Nat→Nat→Int)(v:Nat→Nat→Bool)(L:Int)(q be:Nat)(a2:Option Addr)(m d:Nat):LSm:=fun ts ch k =>
 (ts.map SV.den=(qKH ao n c u v L q be a2 m d (.il 0) (fun d=>(ts.getD d .undef).den)).map SV.den∧selC ch [0,1,2]=qKT ao n c u v L q be a2 m d) ∧
  (∀ g,allB m (qKP ao n c u v L q be a2 m d)=true→k (.exit 2) (qKH ao n c u v L q be a2 m d (.int (m:Int)) g) (qKT ao n c u v L q be a2 m d))∧(∀ g j,ltN j m→allB j (qKP ao n c u v L q be a2 m d)=true→qKP ao n c u v L q be a2 m d j=false→k .ret (qKR ao n c u v L q be a2 m d j g) (qKT ao n c u v L q be a2 m d))
theorem qKB (ao:Option Addr)(n c:Nat)(u:Nat→Nat→Int)(v:Nat→Nat→Bool)(L:Int)(q be:Nat)(a2:Option Addr)(m d:Nat)(j:Nat)(g:Nat→Value)(NX:List SV→List Ch→Prop)(kx:Exit→List SV→List Ch→Prop):(exCode Tryz.prog {} 400 (theLoop Tryz.f67 1) (qKH ao n c u v L q be a2 m d (.int (j:Int)) g) (qKT ao n c u v L q be a2 m d) (loopK NX kx))=(
 (fun a:SV=>(fun b:SV=>(fun h:SV=>(fun k:SV=>(fun l:SV=>(fun o:SV=>(fun p:Bool=>(fun r:List SC=>(fun s:SV=>(fun t:Ch=>(fun w:List (Nat→SC)=>(fun x:Ch=>(fun y:Ch=>(p=true→a2=a2∧m=m∧(0≤((j:Nat):Int)∧((j:Nat):Int)<((m:Nat):Int))∧a2=a2∧j<m∧∀ z:Nat,(fun B:SV=>z=z∧z=z∧be=be∧(((u 0 j) == (u 0 q))=true→kx Exit.ret [iV L,b,vV (g 2),vV (g 3),fV,vV (g 5),a,vV (g 7),B,b,l,k,vV (g 12),vV (g 13),vV (g 14),vV (g 15),vV (g 16),vV (g 17),vV (g 18),vV (g 19),vV (g 20),vV (g 21),vV (g 22),vV (g 23),vV (g 24),vV (g 25),vV (g 26),vV (g 27),vV (g 28),vV (g 29),vV (g 30),vV (g 31),vV (g 32),vV (g 33),vV (g 34),vV (g 35),sV 2 a2 m d,h,iV ((j:Nat):Int),tV,rV 2 a2 6 j 0,s,B,iV (u 0 j),a,iV (u 0 q),tV,vV (g 47),vV (g 48),vV (g 49),vV (g 50),vV (g 51)] [y,t,x,Hc z 199 r])∧(((u 0 j) == (u 0 q))=false→rng (((j:Nat):Int)+(1:Int))∧NX [iV L,b,vV (g 2),vV (g 3),vV (g 4),vV (g 5),a,vV (g 7),B,b,l,k,vV (g 12),vV (g 13),vV (g 14),vV (g 15),vV (g 16),vV (g 17),vV (g 18),vV (g 19),vV (g 20),vV (g 21),vV (g 22),vV (g 23),vV (g 24),vV (g 25),vV (g 26),vV (g 27),vV (g 28),vV (g 29),vV (g 30),vV (g 31),vV (g 32),vV (g 33),vV (g 34),vV (g 35),sV 2 a2 m d,h,o,tV,rV 2 a2 6 j 0,s,B,iV (u 0 j),a,iV (u 0 q),fV,o,vV (g 48),vV (g 49),vV (g 50),vV (g 51)] [y,t,x,Hc z 199 r])) (pV 3 z 0))∧(p=false→kx (Exit.exit 2) [iV L,b,vV (g 2),vV (g 3),vV (g 4),vV (g 5),a,vV (g 7),vV (g 8),b,l,k,vV (g 12),vV (g 13),vV (g 14),vV (g 15),vV (g 16),vV (g 17),vV (g 18),vV (g 19),vV (g 20),vV (g 21),vV (g 22),vV (g 23),vV (g 24),vV (g 25),vV (g 26),vV (g 27),vV (g 28),vV (g 29),vV (g 30),vV (g 31),vV (g 32),vV (g 33),vV (g 34),vV (g 35),sV 2 a2 m d,h,iV ((j:Nat):Int),fV,vV (g 40),vV (g 41),vV (g 42),vV (g 43),vV (g 44),vV (g 45),vV (g 46),vV (g 47),vV (g 48),vV (g 49),vV (g 50),vV (g 51)] [y,t,x])) (Hr false ao 0 6 n 0 w)) (Hr false a2 0 6 m 0 w)) [fun w=>Ci (u 0 w),fun w=>Ci (u 1 w),fun w=>Ci (u 2 w),fun w=>Cb (v 3 w),fun w=>Ci (u 4 w),fun w=>Ci (u 5 w)]) (Hc be 199 [Ci (u 0 q),Ci (u 1 q),Ci (u 2 q),Cb (v 3 q),Ci (u 4 q),Ci (u 5 q)])) (aV r)) [Ci (u 0 j),Ci (u 1 j),Ci (u 2 j),Cb (v 3 j),Ci (u 4 j),Ci (u 5 j)]) (decide (((j:Nat):Int)<((m:Nat):Int)))) (iV (((j:Nat):Int)+(1:Int)))) (iV ((n:Nat):Int))) (iV ((q:Nat):Int))) (iV ((m:Nat):Int))) (sV 0 ao n c)) (pV 1 be 0)):=by kernel_rfl
theorem qK_ok (ao:Option Addr)(n c:Nat)(u:Nat→Nat→Int)(v:Nat→Nat→Bool)(L:Int)(q be:Nat)(a2:Option Addr)(m d:Nat)(hn:m≤9223372036854775807)(X:Cx):LoopOK Tryz.prog X (theLoop Tryz.f67 1) (sqK ao n c u v L q be a2 m d):=by
 intro ts ch k a w hS hT hd hs
 obtain ⟨⟨h1,hch⟩,hk,hr⟩:=hS
 refine loop_ok mixed (E:={}) trivial (loopsOK_nil _ _ _) 400 m (fun j ts ch=>∃ g,allB j (qKP ao n c u v L q be a2 m d)=true∧ts=qKH ao n c u v L q be a2 m d (.int (j:Int)) g∧ch=qKT ao n c u v L q be a2 m d) ?_ ?_ hT hd hs
 ·rintro j _ _ ⟨g,hall,rfl,rfl⟩ hj
  refine @Eq.mpr _ _ (qKB ao n c u v L q be a2 m d j g _ _) ?_
  dsimp -zeta -proj -iota -eta -failIfUnchanged (etaStruct:=.none) only
  by_cases hlt:j<m
  ·have hjn:(0:Int)≤(j:Int)∧(j:Int)<(m:Int):=⟨by omega,by omega⟩
   clear h1
   cases hP:qKP ao n c u v L q be a2 m d j
   all_goals cases hp0:ieq (u 0 j) (u 0 q)
   all_goals have hn0:=ieq_ne hp0
   all_goals (first | (exfalso;simp [qKP,hp0,hn0] at hP;done) | skip)
   all_goals
    repeat' (first
     | with_reducible exact rfl
     | exact True.intro
     | with_reducible assumption
     | (refine ⟨hlt,?_⟩;show Next _ _ _ _;refine Next.mk (fun g=>qKH ao n c u v L q be a2 m d (.int ((j+1:Nat):Int)) g) _ ⟨_,allB_succ hall hP,rfl,rfl⟩ rfl fun w hw=>hw.sel [0,1,2] (by simp))
     | (refine Next.mk (fun g=>qKR ao n c u v L q be a2 m d j g) _ (hr _ j hlt hall hP) rfl fun w hw=>hw.sel [0,1,2] (by simp))
     | refine And.intro ?_ ?_
     | (refine fun (h:@Eq Bool _ _)=>?_;exfalso;first | (simp [hp0,hn0] at h;done) | (simp [hp0,hn0] at h;omega))
     | apply Exists.intro
     | intro _
     | omega)
  ·have hjn:m=j:=by omega
   subst hjn
   repeat' (first
    | with_reducible exact rfl
    | exact True.intro
    | (refine Next.mk (fun g=>qKH ao n c u v L q be a2 m d (.int (m:Int)) g) _ (hk _ hall) rfl fun w hw=>hw.sel [0,1,2] (by simp))
    | refine And.intro ?_ ?_
    | (refine fun (h:@Eq Bool _ _)=>?_;exfalso;first | (simp at h;done) | (simp at h;omega))
    | intro _)
 ·refine Next.mk (fun g=>qKH ao n c u v L q be a2 m d (.int ((0:Nat):Int)) g) _ ⟨_,allB_zero _,rfl,rfl⟩ h1 fun w hw=>?_
  rw [← hch]
  exact hw.sel [0,1,2] (by simp)
def sqKv (ao:Option Addr)(n c:Nat)(u:Nat→Nat→Int)(v:Nat→Nat→Bool)(L:Int):LSm:=fun ts ch kk=>∃ q be a2 m d,sqK ao n c u v L q be a2 m d ts ch kk∧lenC m
theorem qKv_ok (ao:Option Addr)(n c:Nat)(u:Nat→Nat→Int)(v:Nat→Nat→Bool)(L:Int)(X:Cx):LoopOK Tryz.prog X (theLoop Tryz.f67 1) (sqKv ao n c u v L):=by
 rintro ts ch kk a w ⟨q,be,a2,m,d,h,hi⟩ hT hd hs
 exact qK_ok ao n c u v L q be a2 m d hi X ts ch kk a w h hT hd hs
def qIH (ao:Option Addr)(n c:Nat)(u:Nat→Nat→Int)(v:Nat→Nat→Bool)(L:Int)(i:SC)(g:Nat→Value):List SV:=hdN [(0,.a (.c (.int L))),(1,.a (.c (.sl 0 ao n c))),(9,.a (.c (.sl 0 ao n c))),(10,.a (.c (.int (n:Int)))),(11,.a (.c i))] g 0 52
def qIR (ao:Option Addr)(n c:Nat)(u:Nat→Nat→Int)(v:Nat→Nat→Bool)(L:Int)(j:Nat)(g:Nat→Value):List SV:=hdN [(4,.a (.c (.lit false)))] g 0 52
def qIT (ao:Option Addr)(n c:Nat)(u:Nat→Nat→Int)(v:Nat→Nat→Bool)(L:Int):List Ch:=[.row ⟨false,ao,0,6,n,0,flK u v 0 [true,true,true,false,true,true]⟩]
def qIP (ao:Option Addr)(n c:Nat)(u:Nat→Nat→Int)(v:Nat→Nat→Bool)(L:Int)(j:Nat):Bool:=rqB L (u 0 j) (u 1 j) (u 2 j) (v 3 j) (u 4 j) (u 5 j)&&!(decide (0<j)&&!befB (u 0 (j-1)) (u 5 (j-1)) (u 0 j) (u 5 j))&&allB j (fun k=>!ieq (u 0 k) (u 0 j))
def sqI (ao:Option Addr)(n c:Nat)(u:Nat→Nat→Int)(v:Nat→Nat→Bool)(L:Int):LSm:=fun ts ch k =>
 (ts.map SV.den=(qIH ao n c u v L (.il 0) (fun d=>(ts.getD d .undef).den)).map SV.den∧selC ch [0]=qIT ao n c u v L) ∧
  (∀ g,allB n (qIP ao n c u v L)=true→k (.exit 0) (qIH ao n c u v L (.int (n:Int)) g) (qIT ao n c u v L))∧(∀ g j,ltN j n→allB j (qIP ao n c u v L)=true→qIP ao n c u v L j=false→k .ret (qIR ao n c u v L j g) (qIT ao n c u v L))
theorem qIB (ao:Option Addr)(n c:Nat)(u:Nat→Nat→Int)(v:Nat→Nat→Bool)(L:Int)(j:Nat)(g:Nat→Value)(NX:List SV→List Ch→Prop)(kx:Exit→List SV→List Ch→Prop):(exCode Tryz.prog {tb:=[(144,sRqB),(145,sBefB)],L:=[(7,sqKv ao n c u v L)]} 400 (theLoop Tryz.f67 0) (qIH ao n c u v L (.int (j:Int)) g) (qIT ao n c u v L) (loopK NX kx))=(
 (fun a:Value=>(fun b:Value=>(fun d:Value=>(fun h:Value=>(fun k:Value=>(fun l:SV=>(fun m:Value=>(fun o:Value=>(fun p:SV=>(fun q:SV=>(fun r:Value=>(fun s:Bool=>(fun t:Nat=>(fun w:Value=>(fun x:Bool=>(fun y:Bool=>(fun z:Bool=>(fun B:Value=>(fun C:SV=>(fun D:Value=>(fun E:SV=>(fun F:Prop=>(fun G:List SC=>(fun H:Value=>(fun I:SV=>(fun J:Bool=>(fun K:Bool=>(fun M:Value=>(fun N:Value=>(fun O:SV=>(fun P:List (Nat→SC)=>(fun Q:Ch=>(fun R:List (Nat→SC)=>(fun S:Value=>(x=true→ao=ao∧n=n∧(0≤((j:Nat):Int)∧((j:Nat):Int)<((n:Nat):Int))∧ao=ao∧j<n∧∀ T:Nat,(fun U:Ch=>T=T∧T=T∧True∧(z=false→(s=true→rng (((j:Nat):Int)-(1:Int))∧ao=ao∧n=n∧(0≤(((j:Nat):Int)-(1:Int))∧(((j:Nat):Int)-(1:Int))<((n:Nat):Int))∧ao=ao∧t<n∧T=T∧True∧(K=true→kx Exit.ret [iV L,l,vV (g 2),vV (g 3),fV,q,pV 1 T 0,vV (g 7),vV (g 8),l,p,q,tV,q,rV 0 ao 6 j 0,I,iV L,I,C,E,fV,q,bV s,tV,l,q,iV (((j:Nat):Int)-(1:Int)),rV 0 ao 6 t 0,aV [Ci (u 0 t),Ci (u 1 t),Ci (u 2 t),Cb (v 3 t),Ci (u 4 t),Ci (u 5 t)],I,bV J,O,O,tV,vV (g 34),vV (g 35),vV (g 36),vV (g 37),vV (g 38),vV (g 39),vV (g 40),vV (g 41),vV (g 42),vV (g 43),vV (g 44),vV (g 45),vV (g 46),vV (g 47),vV (g 48),vV (g 49),vV (g 50),vV (g 51)] [Q,U])∧(K=false→F∧∀ V:Option Addr,∃(W X:Nat) (Y:Option Addr) (Z aa:Nat),(fun ab:Ch=>(fun ac:SV=>(fun ad:Ch=>(([b,k,g 2,g 3,g 4,o,Wp T 0,g 7,g 8,k,m,o,d,o,rptrV ao 6 j 0,H,b,H,B,D,h,o,w,d,k,o,r,rptrV ao 6 t 0,S,H,M,N,N,h,k,o,Ws V j c,o,Wi 0,g 39,g 40,g 41,g 42,g 43,g 44,g 45,g 46,g 47,g 48,g 49,g 50,g 51]=[b,k,g 2,g 3,g 4,o,Wp X 0,g 7,g 8,k,m,Wi ((W:Nat):Int),d,o,rptrV ao 6 j 0,H,b,H,B,D,h,o,w,d,k,o,r,rptrV ao 6 t 0,S,H,M,N,N,h,k,o,Ws Y Z aa,Wi ((Z:Nat):Int),Wi 0,g 39,g 40,g 41,g 42,g 43,g 44,g 45,g 46,g 47,g 48,g 49,g 50,g 51]∧[Q,U,Hr false V 0 6 j 0 R]=[Q,ad,ab])∧(∀ af:Nat→Value,(allB Z (qKP ao n c u v L W X Y Z aa))=true→rng (((W:Nat):Int)+(1:Int))∧NX [iV L,l,vV (af 2),vV (af 3),vV (af 4),vV (af 5),pV 1 X 0,vV (af 7),vV (af 8),l,p,ac,vV (af 12),vV (af 13),vV (af 14),vV (af 15),vV (af 16),vV (af 17),vV (af 18),vV (af 19),vV (af 20),vV (af 21),vV (af 22),vV (af 23),vV (af 24),vV (af 25),vV (af 26),vV (af 27),vV (af 28),vV (af 29),vV (af 30),vV (af 31),vV (af 32),vV (af 33),vV (af 34),vV (af 35),sV 2 Y Z aa,iV ((Z:Nat):Int),iV ((Z:Nat):Int),vV (af 39),vV (af 40),vV (af 41),vV (af 42),vV (af 43),vV (af 44),vV (af 45),vV (af 46),vV (af 47),ac,vV (af 49),vV (af 50),vV (af 51)] [Q,ad,ab])∧∀(af:Nat→Value) (ag:Nat),ag<Z→(allB ag (qKP ao n c u v L W X Y Z aa))=true→(qKP ao n c u v L W X Y Z aa ag)=false→kx Exit.ret [vV (af 0),vV (af 1),vV (af 2),vV (af 3),fV,vV (af 5),vV (af 6),vV (af 7),vV (af 8),vV (af 9),vV (af 10),vV (af 11),vV (af 12),vV (af 13),vV (af 14),vV (af 15),vV (af 16),vV (af 17),vV (af 18),vV (af 19),vV (af 20),vV (af 21),vV (af 22),vV (af 23),vV (af 24),vV (af 25),vV (af 26),vV (af 27),vV (af 28),vV (af 29),vV (af 30),vV (af 31),vV (af 32),vV (af 33),vV (af 34),vV (af 35),vV (af 36),vV (af 37),vV (af 38),vV (af 39),vV (af 40),vV (af 41),vV (af 42),vV (af 43),vV (af 44),vV (af 45),vV (af 46),vV (af 47),vV (af 48),vV (af 49),vV (af 50),vV (af 51)] [Q,ad,ab])∧lenC Z) (Hc X 199 [Ci (u 0 W),Ci (u 1 W),Ci (u 2 W),Cb (v 3 W),Ci (u 4 W),Ci (u 5 W)])) (iV (((W:Nat):Int)+(1:Int)))) (Hr false Y 0 6 Z 0 P)))∧(s=false→F∧∀ V:Option Addr,∃(W X:Nat) (Y:Option Addr) (Z aa:Nat),(fun ab:Ch=>(fun ac:SV=>(fun ad:Ch=>(([b,k,g 2,g 3,g 4,o,Wp T 0,g 7,g 8,k,m,o,d,o,rptrV ao 6 j 0,H,b,H,B,D,h,o,w,h,a,a,a,a,a,a,a,a,h,h,k,o,Ws V j c,o,Wi 0,g 39,g 40,g 41,g 42,g 43,g 44,g 45,g 46,g 47,g 48,g 49,g 50,g 51]=[b,k,g 2,g 3,g 4,o,Wp X 0,g 7,g 8,k,m,Wi ((W:Nat):Int),d,o,rptrV ao 6 j 0,H,b,H,B,D,h,o,w,h,a,a,a,a,a,a,a,a,h,h,k,o,Ws Y Z aa,Wi ((Z:Nat):Int),Wi 0,g 39,g 40,g 41,g 42,g 43,g 44,g 45,g 46,g 47,g 48,g 49,g 50,g 51]∧[Q,U,Hr false V 0 6 j 0 R]=[Q,ad,ab])∧(∀ af:Nat→Value,(allB Z (qKP ao n c u v L W X Y Z aa))=true→rng (((W:Nat):Int)+(1:Int))∧NX [iV L,l,vV (af 2),vV (af 3),vV (af 4),vV (af 5),pV 1 X 0,vV (af 7),vV (af 8),l,p,ac,vV (af 12),vV (af 13),vV (af 14),vV (af 15),vV (af 16),vV (af 17),vV (af 18),vV (af 19),vV (af 20),vV (af 21),vV (af 22),vV (af 23),vV (af 24),vV (af 25),vV (af 26),vV (af 27),vV (af 28),vV (af 29),vV (af 30),vV (af 31),vV (af 32),vV (af 33),vV (af 34),vV (af 35),sV 2 Y Z aa,iV ((Z:Nat):Int),iV ((Z:Nat):Int),vV (af 39),vV (af 40),vV (af 41),vV (af 42),vV (af 43),vV (af 44),vV (af 45),vV (af 46),vV (af 47),ac,vV (af 49),vV (af 50),vV (af 51)] [Q,ad,ab])∧∀(af:Nat→Value) (ag:Nat),ag<Z→(allB ag (qKP ao n c u v L W X Y Z aa))=true→(qKP ao n c u v L W X Y Z aa ag)=false→kx Exit.ret [vV (af 0),vV (af 1),vV (af 2),vV (af 3),fV,vV (af 5),vV (af 6),vV (af 7),vV (af 8),vV (af 9),vV (af 10),vV (af 11),vV (af 12),vV (af 13),vV (af 14),vV (af 15),vV (af 16),vV (af 17),vV (af 18),vV (af 19),vV (af 20),vV (af 21),vV (af 22),vV (af 23),vV (af 24),vV (af 25),vV (af 26),vV (af 27),vV (af 28),vV (af 29),vV (af 30),vV (af 31),vV (af 32),vV (af 33),vV (af 34),vV (af 35),vV (af 36),vV (af 37),vV (af 38),vV (af 39),vV (af 40),vV (af 41),vV (af 42),vV (af 43),vV (af 44),vV (af 45),vV (af 46),vV (af 47),vV (af 48),vV (af 49),vV (af 50),vV (af 51)] [Q,ad,ab])∧lenC Z) (Hc X 199 [Ci (u 0 W),Ci (u 1 W),Ci (u 2 W),Cb (v 3 W),Ci (u 4 W),Ci (u 5 W)])) (iV (((W:Nat):Int)+(1:Int)))) (Hr false Y 0 6 Z 0 P)))∧(z=true→kx Exit.ret [iV L,l,vV (g 2),vV (g 3),fV,q,pV 1 T 0,vV (g 7),vV (g 8),l,p,q,tV,q,rV 0 ao 6 j 0,I,iV L,I,C,E,tV,xV,xV,xV,xV,xV,xV,xV,xV,xV,xV,xV,xV,tV,vV (g 34),vV (g 35),vV (g 36),vV (g 37),vV (g 38),vV (g 39),vV (g 40),vV (g 41),vV (g 42),vV (g 43),vV (g 44),vV (g 45),vV (g 46),vV (g 47),vV (g 48),vV (g 49),vV (g 50),vV (g 51)] [Q,U])) (Hc T 199 G))∧(x=false→kx (Exit.exit 0) [iV L,l,vV (g 2),vV (g 3),vV (g 4),vV (g 5),vV (g 6),vV (g 7),vV (g 8),l,p,q,fV,vV (g 13),vV (g 14),vV (g 15),vV (g 16),vV (g 17),vV (g 18),vV (g 19),vV (g 20),vV (g 21),vV (g 22),vV (g 23),vV (g 24),vV (g 25),vV (g 26),vV (g 27),vV (g 28),vV (g 29),vV (g 30),vV (g 31),vV (g 32),vV (g 33),vV (g 34),vV (g 35),vV (g 36),vV (g 37),vV (g 38),vV (g 39),vV (g 40),vV (g 41),vV (g 42),vV (g 43),vV (g 44),vV (g 45),vV (g 46),vV (g 47),vV (g 48),vV (g 49),vV (g 50),vV (g 51)] [Q])) (Wa [Wi (u 0 t),Wi (u 1 t),Wi (u 2 t),Wb (v 3 t),Wi (u 4 t),Wi (u 5 t)])) [fun R=>Ci (u 0 (R+0)),fun R=>Ci (u 1 (R+0)),fun R=>Ci (u 2 (R+0)),fun R=>Cb (v 3 (R+0)),fun R=>Ci (u 4 (R+0)),fun R=>Ci (u 5 (R+0))]) (Hr false ao 0 6 n 0 P)) [fun P=>Ci (u 0 P),fun P=>Ci (u 1 P),fun P=>Ci (u 2 P),fun P=>Cb (v 3 P),fun P=>Ci (u 4 P),fun P=>Ci (u 5 P)]) (bV K)) (Wb K)) (Wb J)) (! J)) (befB (u 0 t) (u 5 t) (u 0 j) (u 5 j))) (aV G)) (Wa [Wi (u 0 j),Wi (u 1 j),Wi (u 2 j),Wb (v 3 j),Wi (u 4 j),Wi (u 5 j)])) [Ci (u 0 j),Ci (u 1 j),Ci (u 2 j),Cb (v 3 j),Ci (u 4 j),Ci (u 5 j)]) (ao=ao∧n=n∧inSub0 ((j:Nat):Int) n∧n≤c)) (bV z)) (Wb z)) (bV y)) (Wb y)) (! y)) (rqB L (u 0 j) (u 1 j) (u 2 j) (v 3 j) (u 4 j) (u 5 j))) (decide (((j:Nat):Int)<((n:Nat):Int)))) (Wb s)) (Int.toNat (((j:Nat):Int)-(1:Int)))) (decide (((j:Nat):Int) > (0:Int)))) (Wi (((j:Nat):Int)-(1:Int)))) (iV ((j:Nat):Int))) (iV ((n:Nat):Int))) (Wi ((j:Nat):Int))) (Wi ((n:Nat):Int))) (sV 0 ao n c)) (Ws ao n c)) (Wb false)) (Wb true)) (Wi L)) (Wu [])):=by kernel_rfl
theorem qI_ok (ao:Option Addr)(n c:Nat)(u:Nat→Nat→Int)(v:Nat→Nat→Bool)(L:Int)(hn:n≤9223372036854775807)(hcp:n≤c)(X:Cx):LoopOK Tryz.prog X (theLoop Tryz.f67 0) (sqI ao n c u v L):=by
 intro ts ch k a w hS hT hd hs
 obtain ⟨⟨h1,hch⟩,hk,hr⟩:=hS
 refine loop_ok mixed (E:={tb:=[(144,sRqB),(145,sBefB)],L:=[(7,sqKv ao n c u v L)]}) ⟨sRqB_ok_rqI,sBefB_ok_bfI,trivial⟩ (body_loop (by kernel_rfl) (by kernel_rfl) (qKv_ok ao n c u v L X)) 400 n (fun j ts ch=>∃ g,allB j (qIP ao n c u v L)=true∧ts=qIH ao n c u v L (.int (j:Int)) g∧ch=qIT ao n c u v L) ?_ ?_ hT hd hs
 ·rintro j _ _ ⟨g,hall,rfl,rfl⟩ hj
  refine @Eq.mpr _ _ (qIB ao n c u v L j g _ _) ?_
  dsimp -zeta -proj -iota -eta -failIfUnchanged (etaStruct:=.none) only
  by_cases hlt:j<n
  ·have hjn:(0:Int)≤(j:Int)∧(j:Int)<(n:Int):=⟨by omega,by omega⟩
   clear h1
   have ej:Int.toNat ((j:Int)-1)=j-1:=by omega
   have etn:Int.toNat (j:Int)=j:=by omega
   cases hP:qIP ao n c u v L j
   all_goals cases hp0:rqB L (u 0 j) (u 1 j) (u 2 j) (v 3 j) (u 4 j) (u 5 j)
   all_goals by_cases hp1:0<j
   all_goals cases hp2:befB (u 0 (j-1)) (u 5 (j-1)) (u 0 j) (u 5 j)
   all_goals cases hp3:allB j (fun k=>!ieq (u 0 k) (u 0 j))
   all_goals (first | (exfalso;simp [qIP,hp0,hp1,hp2,hp3,ej] at hP;done) | skip)
   all_goals
    repeat' (first
     | with_reducible exact rfl
     | exact True.intro
     | with_reducible assumption
     | (refine ⟨hlt,?_⟩;show Next _ _ _ _;refine Next.mk (fun g=>qIH ao n c u v L (.int ((j+1:Nat):Int)) g) _ ⟨_,allB_succ hall hP,rfl,rfl⟩ rfl fun w hw=>hw.sel [0] (by simp))
     | (refine Next.mk (fun g=>qIR ao n c u v L j g) _ (hr _ j hlt hall hP) rfl fun w hw=>hw.sel [0] (by simp))
     | refine And.intro ?_ ?_
     | (refine fun (h:@Eq Bool _ _)=>?_;exfalso;first | (simp [hp0,hp1,hp2,hp3,ej] at h;done) | (simp [hp0,hp1,hp2,hp3,ej] at h;omega))
     | (rw [ej])
     | (simp only [ej])
     | (intro g hx;have h9:allB j (fun k=>!ieq (u 0 k) (u 0 j))=true:=hx;first | (exfalso;rw [hp3] at h9;cases h9;done) | clear h9)
     | (intro g k hk _ hq;exfalso;have h9:(!ieq (u 0 k) (u 0 j))=true:=allB_get hp3 hk;have h8:(!ieq (u 0 k) (u 0 j))=false:=hq;rw [h8] at h9;cases h9)
     | (show @Eq (List _) _ _;exact rfl)
     | apply Exists.intro
     | (show Int.toNat (j:Int)≤_;omega)
     | apply Exists.intro
     | intro _
     | omega)
  ·have hjn:n=j:=by omega
   subst hjn
   repeat' (first
    | with_reducible exact rfl
    | exact True.intro
    | (refine Next.mk (fun g=>qIH ao n c u v L (.int (n:Int)) g) _ (hk _ hall) rfl fun w hw=>hw.sel [0] (by simp))
    | refine And.intro ?_ ?_
    | (refine fun (h:@Eq Bool _ _)=>?_;exfalso;first | (simp at h;done) | (simp at h;omega))
    | intro _)
 ·refine Next.mk (fun g=>qIH ao n c u v L (.int ((0:Nat):Int)) g) _ ⟨_,allB_zero _,rfl,rfl⟩ h1 fun w hw=>?_
  rw [← hch]
  exact hw.sel [0] (by simp)
theorem que_same (n:Nat)(u:Nat→Nat→Int)(v:Nat→Nat→Bool)(L:Int):allB n (fun j=>rqB L (u 0 j) (u 1 j) (u 2 j) (v 3 j) (u 4 j) (u 5 j)&&!(decide (0<j)&&!befB (u 0 (j-1)) (u 5 (j-1)) (u 0 j) (u 5 j))&&allB j (fun k=>!ieq (u 0 k) (u 0 j)))=allB n (fun j=>rqB L (u 0 j) (u 1 j) (u 2 j) (v 3 j) (u 4 j) (u 5 j)&&!(decide (0<j)&&!befB (u 0 (j-1)) (u 5 (j-1)) (u 0 j) (u 5 j))&&ieq (itI n (u 0) (u 0 j)) (j:Int)):=by
 refine allB_congr fun j hj=>?_
 have h1:ieq (itI n (u 0) (u 0 j)) (j:Int)=allB j (fun k=>!ieq (u 0 k) (u 0 j)):=fidx_at (p:=fun k=>ieq (u 0 k) (u 0 j)) hj (beq_self_eq_true _)
 rw [h1]
theorem queI_T (ao:Option Addr)(n c:Nat)(u:Nat→Nat→Int)(v:Nat→Nat→Bool)(L:Int):(exFn Tryz.prog {tb:=[],L:=[(2,sqI ao n c u v L)]} 400 Tryz.f67 ([.a (.c (.int L)),.a (.c (.sl 0 ao n c))]) ([.row ⟨false,ao,0,6,n,0,flK u v 0 [true,true,true,false,true,true]⟩]) (fun y_ _=>y_.den=.bool (quB n u v L)))=(
 (fun b:Value=>(fun d:List Ch=>(fun g:List Value=>(g=g∧d=d)∧(∀ h:Nat→Value,(allB n (qIP ao n c u v L))=true→(Wb (decide (((n:Nat):Int)≤(12:Int))))=(Wb (quB n u v L)))∧∀(h:Nat→Value) (j:Nat),j<n→(allB j (qIP ao n c u v L))=true→(qIP ao n c u v L j)=false→(Wb false)=(Wb (quB n u v L))) [Wi L,Ws ao n c,b,b,Wb false,b,b,b,b,Ws ao n c,Wi ((n:Nat):Int),Wi 0,b,b,b,b,b,b,b,b,b,b,b,b,b,b,b,b,b,b,b,b,b,b,b,b,b,b,b,b,b,b,b,b,b,b,b,b,b,b,b,b]) [Hr false ao 0 6 n 0 [fun d=>Ci (u 0 d),fun d=>Ci (u 1 d),fun d=>Ci (u 2 d),fun d=>Cb (v 3 d),fun d=>Ci (u 4 d),fun d=>Ci (u 5 d)]]) (Wu [])):=by kernel_rfl
theorem queI_any (ao:Option Addr)(n c:Nat)(u:Nat→Nat→Int)(v:Nat→Nat→Bool)(L:Int)(w:World)(hn:n≤9223372036854775807)(hcp:n≤c)(h0:Row.sat w ⟨false,ao,0,6,n,0,flK u v 0 [true,true,true,false,true,true]⟩):Calls Tryz.prog 67 #[.int .i64 L,.slice ao n c] w fun e w'=>e=.returned (.bool (quB n u v L))∧Below w.heap.size w w':=by
 refine fn_ok mixed (E:={tb:=[],L:=[(2,sqI ao n c u v L)]}) trivial Tryz.func67 (first_loop (rest:=[7]) (by kernel_rfl) (by decide) (qI_ok ao n c u v L hn hcp _)) (@Eq.mpr _ _ (queI_T ao n c u v L) ?_) (HS.rows (fun _=>False) [⟨false,ao,0,6,n,0,flK u v 0 [true,true,true,false,true,true]⟩] (by simpa using h0)) (fun v ch' w' hv hs=>⟨by rw [hv],hs.below⟩)
 dsimp -zeta -proj -iota -eta -failIfUnchanged (etaStruct:=.none) only
 clear h0
 have hc1:allB n (fun j=>rqB L (u 0 j) (u 1 j) (u 2 j) (v 3 j) (u 4 j) (u 5 j)&&!(decide (0<j)&&!befB (u 0 (j-1)) (u 5 (j-1)) (u 0 j) (u 5 j))&&allB j (fun k=>!ieq (u 0 k) (u 0 j)))=allB n (fun j=>rqB L (u 0 j) (u 1 j) (u 2 j) (v 3 j) (u 4 j) (u 5 j)&&!(decide (0<j)&&!befB (u 0 (j-1)) (u 5 (j-1)) (u 0 j) (u 5 j))&&ieq (itI n (u 0) (u 0 j)) (j:Int)):=que_same n u v L
 have hrd:quB n u v L=(decide ((n:Int)≤12)&&allB n (fun j=>rqB L (u 0 j) (u 1 j) (u 2 j) (v 3 j) (u 4 j) (u 5 j)&&!(decide (0<j)&&!befB (u 0 (j-1)) (u 5 (j-1)) (u 0 j) (u 5 j))&&ieq (itI n (u 0) (u 0 j)) (j:Int))):=rfl
 by_cases h1:(n:Int)≤12
 ·have hd1:=decide_eq_true h1
  repeat' (first
   | with_reducible exact rfl
   | exact True.intro
   | with_reducible assumption
   | (intro g (ha_:allB n _=true);have e1:allB n (fun j=>rqB L (u 0 j) (u 1 j) (u 2 j) (v 3 j) (u 4 j) (u 5 j)&&!(decide (0<j)&&!befB (u 0 (j-1)) (u 5 (j-1)) (u 0 j) (u 5 j))&&ieq (itI n (u 0) (u 0 j)) (j:Int))=true:=hc1.symm.trans ha_;clear ha_)
   | (intro g j hj ha hP;have e0_:allB n (fun j=>rqB L (u 0 j) (u 1 j) (u 2 j) (v 3 j) (u 4 j) (u 5 j)&&!(decide (0<j)&&!befB (u 0 (j-1)) (u 5 (j-1)) (u 0 j) (u 5 j))&&ieq (itI n (u 0) (u 0 j)) (j:Int))=false:=hc1.symm.trans (allB_no (p:=fun j=>rqB L (u 0 j) (u 1 j) (u 2 j) (v 3 j) (u 4 j) (u 5 j)&&!(decide (0<j)&&!befB (u 0 (j-1)) (u 5 (j-1)) (u 0 j) (u 5 j))&&allB j (fun k=>!ieq (u 0 k) (u 0 j))) hj hP);exact congrArg Value.bool (by rw [hrd,e0_,hd1];rfl))
   | (exact congrArg Value.bool (by rw [hrd,e1,hd1];rfl))
   | (exact congrArg Value.bool (by rw [hrd,e1,Bool.and_true]))
   | (show @Eq (List _) _ _;exact rfl)
   | refine And.intro ?_ ?_
   | apply Exists.intro
   | (refine fun (h:@Eq Bool _ _)=>?_;exfalso;first | (simp [h1] at h;done) | (simp [h1] at h;omega))
   | intro _
   | omega
   | exact rfl)
 ·have hd1:=decide_eq_false h1
  repeat' (first
   | with_reducible exact rfl
   | exact True.intro
   | with_reducible assumption
   | (intro g (ha_:allB n _=true);have e1:allB n (fun j=>rqB L (u 0 j) (u 1 j) (u 2 j) (v 3 j) (u 4 j) (u 5 j)&&!(decide (0<j)&&!befB (u 0 (j-1)) (u 5 (j-1)) (u 0 j) (u 5 j))&&ieq (itI n (u 0) (u 0 j)) (j:Int))=true:=hc1.symm.trans ha_;clear ha_)
   | (intro g j hj ha hP;have e0_:allB n (fun j=>rqB L (u 0 j) (u 1 j) (u 2 j) (v 3 j) (u 4 j) (u 5 j)&&!(decide (0<j)&&!befB (u 0 (j-1)) (u 5 (j-1)) (u 0 j) (u 5 j))&&ieq (itI n (u 0) (u 0 j)) (j:Int))=false:=hc1.symm.trans (allB_no (p:=fun j=>rqB L (u 0 j) (u 1 j) (u 2 j) (v 3 j) (u 4 j) (u 5 j)&&!(decide (0<j)&&!befB (u 0 (j-1)) (u 5 (j-1)) (u 0 j) (u 5 j))&&allB j (fun k=>!ieq (u 0 k) (u 0 j))) hj hP);exact congrArg Value.bool (by rw [hrd,e0_,hd1];rfl))
   | (exact congrArg Value.bool (by rw [hrd,hd1];rfl))
   | (exact congrArg Value.bool (by rw [hrd,e1,Bool.and_true]))
   | (show @Eq (List _) _ _;exact rfl)
   | refine And.intro ?_ ?_
   | apply Exists.intro
   | (refine fun (h:@Eq Bool _ _)=>?_;exfalso;first | (simp [h1] at h;done) | (simp [h1] at h;omega))
   | intro _
   | omega
   | exact rfl)
theorem queS_T (ao:Option Addr)(n c:Nat)(u:Nat→Nat→Int)(v:Nat→Nat→Bool)(L:Int):(exFn Tryz.prog {tb:=[],L:=[(4,sqS ao n c u v L)]} 400 Tryz.f35 ([.a (.c (.int L)),.a (.c (.sl 0 ao n c))]) ([.row ⟨false,ao,0,6,n,0,flK u v 0 [true,true,true,false,true,true]⟩]) (fun y_ _=>y_.den=.bool (quB n u v L)))=(
 (fun b:Value=>(fun d:Value=>(fun g:Bool=>(fun h:List Ch=>(fun j:List Value=>(g=true→(Wb false)=d)∧(g=false→(j=j∧h=h)∧(∀ k:Nat→Value,(allB n (qSP ao n c u v L))=true→(Wb true)=d)∧∀(k:Nat→Value) (l:Nat),l<n→(allB l (qSP ao n c u v L))=true→(qSP ao n c u v L l)=false→(Wb false)=d)) [Wi L,Ws ao n c,b,b,Wb false,Wi 0,Ws ao n c,Wi ((n:Nat):Int),Wb false,b,b,b,b,b,b,b,b,b,b,b,b,b,b,b,b,b,b,b,b,b,b,b,b,b,b,b,b,b,b,b,b,b,b,b,b,b,b,b,b,b]) [Hr false ao 0 6 n 0 [fun h=>Ci (u 0 h),fun h=>Ci (u 1 h),fun h=>Ci (u 2 h),fun h=>Cb (v 3 h),fun h=>Ci (u 4 h),fun h=>Ci (u 5 h)]]) (decide (((n:Nat):Int) > (12:Int)))) (Wb (quB n u v L))) (Wu [])):=by kernel_rfl
theorem queS_any (ao:Option Addr)(n c:Nat)(u:Nat→Nat→Int)(v:Nat→Nat→Bool)(L:Int)(w:World)(hn:n≤9223372036854775807)(hcp:n≤c)(h0:Row.sat w ⟨false,ao,0,6,n,0,flK u v 0 [true,true,true,false,true,true]⟩):Calls Tryz.prog 35 #[.int .i64 L,.slice ao n c] w fun e w'=>e=.returned (.bool (quB n u v L))∧Below w.heap.size w w':=by
 refine fn_ok mixed (E:={tb:=[],L:=[(4,sqS ao n c u v L)]}) trivial Tryz.func35 (one_loop (by kernel_rfl) (by kernel_rfl) (qS_ok ao n c u v L hn _)) (@Eq.mpr _ _ (queS_T ao n c u v L) ?_) (HS.rows (fun _=>False) [⟨false,ao,0,6,n,0,flK u v 0 [true,true,true,false,true,true]⟩] (by simpa using h0)) (fun v ch' w' hv hs=>⟨by rw [hv],hs.below⟩)
 dsimp -zeta -proj -iota -eta -failIfUnchanged (etaStruct:=.none) only
 clear h0
 have hc1:allB n (fun j=>rqB L (u 0 j) (u 1 j) (u 2 j) (v 3 j) (u 4 j) (u 5 j)&&!(decide (0<j)&&!befB (u 0 (j-1)) (u 5 (j-1)) (u 0 j) (u 5 j))&&ieq (itI n (u 0) (u 0 j)) (j:Int))=allB n (fun j=>rqB L (u 0 j) (u 1 j) (u 2 j) (v 3 j) (u 4 j) (u 5 j)&&!(decide (0<j)&&!befB (u 0 (j-1)) (u 5 (j-1)) (u 0 j) (u 5 j))&&ieq (itI n (u 0) (u 0 j)) (j:Int)):=rfl
 have hrd:quB n u v L=(decide ((n:Int)≤12)&&allB n (fun j=>rqB L (u 0 j) (u 1 j) (u 2 j) (v 3 j) (u 4 j) (u 5 j)&&!(decide (0<j)&&!befB (u 0 (j-1)) (u 5 (j-1)) (u 0 j) (u 5 j))&&ieq (itI n (u 0) (u 0 j)) (j:Int))):=rfl
 by_cases h1:(n:Int)≤12
 ·have hd1:=decide_eq_true h1
  repeat' (first
   | with_reducible exact rfl
   | exact True.intro
   | with_reducible assumption
   | (intro g (ha_:allB n _=true);have e1:allB n (fun j=>rqB L (u 0 j) (u 1 j) (u 2 j) (v 3 j) (u 4 j) (u 5 j)&&!(decide (0<j)&&!befB (u 0 (j-1)) (u 5 (j-1)) (u 0 j) (u 5 j))&&ieq (itI n (u 0) (u 0 j)) (j:Int))=true:=hc1.symm.trans ha_;clear ha_)
   | (intro g j hj ha hP;have e0_:allB n (fun j=>rqB L (u 0 j) (u 1 j) (u 2 j) (v 3 j) (u 4 j) (u 5 j)&&!(decide (0<j)&&!befB (u 0 (j-1)) (u 5 (j-1)) (u 0 j) (u 5 j))&&ieq (itI n (u 0) (u 0 j)) (j:Int))=false:=hc1.symm.trans (allB_no (p:=fun j=>rqB L (u 0 j) (u 1 j) (u 2 j) (v 3 j) (u 4 j) (u 5 j)&&!(decide (0<j)&&!befB (u 0 (j-1)) (u 5 (j-1)) (u 0 j) (u 5 j))&&ieq (itI n (u 0) (u 0 j)) (j:Int)) hj hP);exact congrArg Value.bool (by rw [hrd,e0_,hd1];rfl))
   | (exact congrArg Value.bool (by rw [hrd,e1,hd1];rfl))
   | (exact congrArg Value.bool (by rw [hrd,e1,Bool.and_true]))
   | (show @Eq (List _) _ _;exact rfl)
   | refine And.intro ?_ ?_
   | apply Exists.intro
   | (refine fun (h:@Eq Bool _ _)=>?_;exfalso;first | (simp [h1] at h;done) | (simp [h1] at h;omega))
   | intro _
   | omega
   | exact rfl)
 ·have hd1:=decide_eq_false h1
  repeat' (first
   | with_reducible exact rfl
   | exact True.intro
   | with_reducible assumption
   | (intro g (ha_:allB n _=true);have e1:allB n (fun j=>rqB L (u 0 j) (u 1 j) (u 2 j) (v 3 j) (u 4 j) (u 5 j)&&!(decide (0<j)&&!befB (u 0 (j-1)) (u 5 (j-1)) (u 0 j) (u 5 j))&&ieq (itI n (u 0) (u 0 j)) (j:Int))=true:=hc1.symm.trans ha_;clear ha_)
   | (intro g j hj ha hP;have e0_:allB n (fun j=>rqB L (u 0 j) (u 1 j) (u 2 j) (v 3 j) (u 4 j) (u 5 j)&&!(decide (0<j)&&!befB (u 0 (j-1)) (u 5 (j-1)) (u 0 j) (u 5 j))&&ieq (itI n (u 0) (u 0 j)) (j:Int))=false:=hc1.symm.trans (allB_no (p:=fun j=>rqB L (u 0 j) (u 1 j) (u 2 j) (v 3 j) (u 4 j) (u 5 j)&&!(decide (0<j)&&!befB (u 0 (j-1)) (u 5 (j-1)) (u 0 j) (u 5 j))&&ieq (itI n (u 0) (u 0 j)) (j:Int)) hj hP);exact congrArg Value.bool (by rw [hrd,e0_,hd1];rfl))
   | (exact congrArg Value.bool (by rw [hrd,hd1];rfl))
   | (exact congrArg Value.bool (by rw [hrd,e1,Bool.and_true]))
   | (show @Eq (List _) _ _;exact rfl)
   | refine And.intro ?_ ?_
   | apply Exists.intro
   | (refine fun (h:@Eq Bool _ _)=>?_;exfalso;first | (simp [h1] at h;done) | (simp [h1] at h;omega))
   | intro _
   | omega
   | exact rfl)
def sQuOk:Sm:=fun args ch kk =>
 match args with
 | [.a (.c l),.a (.c x)] =>
  match ints [l] with
  | some [L]=>rdf [true,true,true,false,true,true] ch x fun n c u v=>(lenC n∧leC n c)∧kk (.a (.c (.bool (quB n u v L)))) ch []
  | _=>False
 | _=>False
theorem sQuOk_I:SmOK Tryz.prog 67 sQuOk:=by
 refine smB Tryz.call67 fun args ch kk w X h0 hs=>?_
 unfold sQuOk at h0
 split at h0
 ·split at h0
  ·rename_i L hi
   obtain ⟨qL,hi⟩:=ints_cons hi
   obtain ⟨ao,n,c,u,v,em,hr,h0⟩:=rdf_ok h0 hs
   obtain ⟨hn,h0⟩:=h0
   refine ⟨_,h0,?_⟩
   simp only [List.map_cons,List.map_nil,den_a,den_c,SA.den,em,qL]
   exact queI_any ao n c u v L w hn.1 hn.2 hr
  ·exact h0.elim
 ·exact h0.elim
theorem sQuOk_S:SmOK Tryz.prog 35 sQuOk:=by
 refine smB Tryz.call35 fun args ch kk w X h0 hs=>?_
 unfold sQuOk at h0
 split at h0
 ·split at h0
  ·rename_i L hi
   obtain ⟨qL,hi⟩:=ints_cons hi
   obtain ⟨ao,n,c,u,v,em,hr,h0⟩:=rdf_ok h0 hs
   obtain ⟨hn,h0⟩:=h0
   refine ⟨_,h0,?_⟩
   simp only [List.map_cons,List.map_nil,den_a,den_c,SA.den,em,qL]
   exact queS_any ao n c u v L w hn.1 hn.2 hr
  ·exact h0.elim
 ·exact h0.elim
end Go.Proofs.YtmnccapnjphmfaaGreat

/-
  FnExactStoredAddr: a part of the walk (merged and squeezed by program: SxPrE).
-/
import Derived.Test.YtmnccapnjphmfaaGreatZbax
namespace Go.Proofs.YtmnccapnjphmfaaGreat
set_option linter.unusedVariables false
set_option linter.unusedSimpArgs false
open Go.RowKit
set_option maxRecDepth 100000
set_option maxHeartbeats 8000000
def erIn (u:Nat→Nat→Int)(j:Nat):Bool:=allB j (fun k=>!(ieq (u 0 k) (u 0 j)&&ieq (u 1 k) (u 1 j)))
def ersB (n:Nat)(u:Nat→Nat→Int):Bool:=decide ((n:Int)≤6)&&allB n (fun j=>erB (u 0 j) (u 1 j) (u 2 j)&&ieq (erI n u (u 0 j) (u 1 j)) (j:Int))
def eSH (ao:Option Addr)(n c:Nat)(u:Nat→Nat→Int)(v:Nat→Nat→Bool)(i:SC)(g:Nat→Value):List SV:=hdN [(0,.a (.c (.sl 0 ao n c))),(3,.a (.c i))] g 0 35
def eSR (ao:Option Addr)(n c:Nat)(u:Nat→Nat→Int)(v:Nat→Nat→Bool)(j:Nat)(g:Nat→Value):List SV:=hdN [(2,.a (.c (.lit false)))] g 0 35
def eST (ao:Option Addr)(n c:Nat)(u:Nat→Nat→Int)(v:Nat→Nat→Bool):List Ch:=[.row ⟨false,ao,0,3,n,0,flK u v 0 [true,true,true]⟩]
def eSP (ao:Option Addr)(n c:Nat)(u:Nat→Nat→Int)(v:Nat→Nat→Bool)(j:Nat):Bool:=erB (u 0 j) (u 1 j) (u 2 j)&&ieq (erI n u (u 0 j) (u 1 j)) (j:Int)
def seS (ao:Option Addr)(n c:Nat)(u:Nat→Nat→Int)(v:Nat→Nat→Bool):LSm:=fun ts ch k =>
 (ts.map SV.den=(eSH ao n c u v (.il 0) (fun d=>(ts.getD d .undef).den)).map SV.den∧selC ch [0]=eST ao n c u v) ∧
  (∀ g,allB n (eSP ao n c u v)=true→k (.exit 0) (eSH ao n c u v (.int (n:Int)) g) (eST ao n c u v))∧(∀ g j,ltN j n→allB j (eSP ao n c u v)=true→eSP ao n c u v j=false→k .ret (eSR ao n c u v j g) (eST ao n c u v))
theorem eSB (ao:Option Addr)(n c:Nat)(u:Nat→Nat→Int)(v:Nat→Nat→Bool)(j:Nat)(g:Nat→Value)(NX:List SV→List Ch→Prop)(kx:Exit→List SV→List Ch→Prop):(exCode Tryz.prog {tb:=[(113,sErB),(114,sErAt)]} 400 (theLoop Tryz.f41 0) (eSH ao n c u v (.int (j:Int)) g) (eST ao n c u v) (loopK NX kx))=(
 (fun a:SV=>(fun b:SV=>(fun d:SV=>(fun h:SV=>(fun k:Bool=>(fun l:Bool=>(fun m:SV=>(fun o:SV=>(fun p:SV=>(fun q:SV=>(fun r:Bool=>(fun s:Prop=>(fun t:List (Nat→SC)=>(fun w:List Ch=>(r=true→ao=ao∧n=n∧s∧ao=ao∧j<n∧True∧(l=false→ao=ao∧n=n∧s∧ao=ao∧j<n∧ao=ao∧j<n∧ao=ao∧n=n∧s∧ao=ao∧j<n∧ao=ao∧j<n∧∃(x:Nat→Nat→Int) (y:Nat→Nat→Bool),(fun z:SV=>(fun B:Bool=>(fun C:SV=>(ao=ao∧n=n∧t=[fun D=>Ci (x 0 D),fun D=>Ci (x 1 D),fun D=>Ci (x 2 D)])∧lenC n∧True∧(B=true→kx Exit.ret [a,vV (g 1),fV,h,vV (g 4),vV (g 5),vV (g 6),h,a,d,tV,vV (g 11),vV (g 12),a,h,b,q,m,p,fV,a,a,h,b,b,iV (u 0 j),a,h,b,rV 0 ao 3 j 1,iV (u 1 j),z,h,C,tV] w)∧(B=false→rng (((j:Nat):Int)+(1:Int))∧NX [a,vV (g 1),vV (g 2),o,vV (g 4),vV (g 5),vV (g 6),h,a,d,tV,h,o,a,h,b,q,m,p,fV,a,a,h,b,b,iV (u 0 j),a,h,b,rV 0 ao 3 j 1,iV (u 1 j),z,h,C,fV] w)) (bV B)) ((erI n x (u 0 j) (u 1 j)) != ((j:Nat):Int))) (iV (erI n x (u 0 j) (u 1 j))))∧(l=true→kx Exit.ret [a,vV (g 1),fV,h,vV (g 4),vV (g 5),vV (g 6),h,a,d,tV,vV (g 11),vV (g 12),a,h,b,q,m,p,tV,xV,xV,xV,xV,xV,xV,xV,xV,xV,xV,xV,xV,xV,xV,tV] w))∧(r=false→kx (Exit.exit 0) [a,vV (g 1),vV (g 2),h,vV (g 4),vV (g 5),vV (g 6),h,a,d,fV,vV (g 11),vV (g 12),vV (g 13),vV (g 14),vV (g 15),vV (g 16),vV (g 17),vV (g 18),vV (g 19),vV (g 20),vV (g 21),vV (g 22),vV (g 23),vV (g 24),vV (g 25),vV (g 26),vV (g 27),vV (g 28),vV (g 29),vV (g 30),vV (g 31),vV (g 32),vV (g 33),vV (g 34)] w)) [Hr false ao 0 3 n 0 t]) [fun t=>Ci (u 0 t),fun t=>Ci (u 1 t),fun t=>Ci (u 2 t)]) (0≤((j:Nat):Int)∧((j:Nat):Int)<((n:Nat):Int))) (decide (((j:Nat):Int)<((n:Nat):Int)))) (aV [Ci (u 0 j),Ci (u 1 j),Ci (u 2 j)])) (bV l)) (iV (((j:Nat):Int)+(1:Int)))) (bV k)) (! k)) (erB (u 0 j) (u 1 j) (u 2 j))) (iV ((j:Nat):Int))) (iV ((n:Nat):Int))) (rV 0 ao 3 j 0)) (sV 0 ao n c)):=by kernel_rfl
theorem eS_ok (ao:Option Addr)(n c:Nat)(u:Nat→Nat→Int)(v:Nat→Nat→Bool)(hn:n≤9223372036854775807)(X:Cx):LoopOK Tryz.prog X (theLoop Tryz.f41 0) (seS ao n c u v):=by
 intro ts ch k a w hS hT hd hs
 obtain ⟨⟨h1,hch⟩,hk,hr⟩:=hS
 refine loop_ok mixed (E:={tb:=[(113,sErB),(114,sErAt)]}) ⟨sErB_ok_erS,sErAt_ok,trivial⟩ (loopsOK_nil _ _ _) 400 n (fun j ts ch=>∃ g,allB j (eSP ao n c u v)=true∧ts=eSH ao n c u v (.int (j:Int)) g∧ch=eST ao n c u v) ?_ ?_ hT hd hs
 ·rintro j _ _ ⟨g,hall,rfl,rfl⟩ hj
  refine @Eq.mpr _ _ (eSB ao n c u v j g _ _) ?_
  dsimp -zeta -proj -iota -eta -failIfUnchanged (etaStruct:=.none) only
  by_cases hlt:j<n
  ·have hjn:(0:Int)≤(j:Int)∧(j:Int)<(n:Int):=⟨by omega,by omega⟩
   clear h1
   cases hP:eSP ao n c u v j
   all_goals cases hp0:erB (u 0 j) (u 1 j) (u 2 j)
   all_goals cases hp1:ieq (erI n u (u 0 j) (u 1 j)) (j:Int)
   all_goals have hn1:=ieq_ne hp1
   all_goals (first | (exfalso;simp [eSP,hp0,hp1,hn1] at hP;done) | skip)
   all_goals
    repeat' (first
     | with_reducible exact rfl
     | exact True.intro
     | with_reducible assumption
     | (refine ⟨hlt,?_⟩;show Next _ _ _ _;refine Next.mk (fun g=>eSH ao n c u v (.int ((j+1:Nat):Int)) g) _ ⟨_,allB_succ hall hP,rfl,rfl⟩ rfl fun w hw=>hw.sel [0] (by simp))
     | (refine Next.mk (fun g=>eSR ao n c u v j g) _ (hr _ j hlt hall hP) rfl fun w hw=>hw.sel [0] (by simp))
     | refine And.intro ?_ ?_
     | (refine fun (h:@Eq Bool _ _)=>?_;exfalso;first | (simp [hp0,hp1,hn1] at h;done) | (simp [hp0,hp1,hn1] at h;omega))
     | apply Exists.intro
     | intro _
     | omega)
  ·have hjn:n=j:=by omega
   subst hjn
   repeat' (first
    | with_reducible exact rfl
    | exact True.intro
    | (refine Next.mk (fun g=>eSH ao n c u v (.int (n:Int)) g) _ (hk _ hall) rfl fun w hw=>hw.sel [0] (by simp))
    | refine And.intro ?_ ?_
    | (refine fun (h:@Eq Bool _ _)=>?_;exfalso;first | (simp at h;done) | (simp at h;omega))
    | intro _)
 ·refine Next.mk (fun g=>eSH ao n c u v (.int ((0:Nat):Int)) g) _ ⟨_,allB_zero _,rfl,rfl⟩ h1 fun w hw=>?_
  rw [← hch]
  exact hw.sel [0] (by simp)
def eKH (ao:Option Addr)(n c:Nat)(u:Nat→Nat→Int)(v:Nat→Nat→Bool)(q be:Nat)(a2:Option Addr)(m d:Nat)(i:SC)(g:Nat→Value):List SV:=hdN [(0,.a (.c (.sl 0 ao n c))),(4,.a (.c (.ptr 1 be 0))),(7,.a (.c (.sl 0 ao n c))),(8,.a (.c (.int (n:Int)))),(9,.a (.c (.int (q:Int)))),(36,.a (.c (.sl 2 a2 m d))),(37,.a (.c (.int (m:Int)))),(38,.a (.c i))] g 0 59
def eKR (ao:Option Addr)(n c:Nat)(u:Nat→Nat→Int)(v:Nat→Nat→Bool)(q be:Nat)(a2:Option Addr)(m d:Nat)(j:Nat)(g:Nat→Value):List SV:=hdN [(2,.a (.c (.lit false)))] g 0 59
def eKT (ao:Option Addr)(n c:Nat)(u:Nat→Nat→Int)(v:Nat→Nat→Bool)(q be:Nat)(a2:Option Addr)(m d:Nat):List Ch:=[.row ⟨false,ao,0,3,n,0,flK u v 0 [true,true,true]⟩,.cells be 206 [.int (u 0 q),.int (u 1 q),.int (u 2 q)],.row ⟨false,a2,0,3,m,0,flK u v 0 [true,true,true]⟩]
def eKP (ao:Option Addr)(n c:Nat)(u:Nat→Nat→Int)(v:Nat→Nat→Bool)(q be:Nat)(a2:Option Addr)(m d:Nat)(j:Nat):Bool:=!(ieq (u 0 j) (u 0 q)&&ieq (u 1 j) (u 1 q))
def seK (ao:Option Addr)(n c:Nat)(u:Nat→Nat→Int)(v:Nat→Nat→Bool)(q be:Nat)(a2:Option Addr)(m d:Nat):LSm:=fun ts ch k =>
 (ts.map SV.den=(eKH ao n c u v q be a2 m d (.il 0) (fun d=>(ts.getD d .undef).den)).map SV.den∧selC ch [0,1,2]=eKT ao n c u v q be a2 m d) ∧
  (∀ g,allB m (eKP ao n c u v q be a2 m d)=true→k (.exit 2) (eKH ao n c u v q be a2 m d (.int (m:Int)) g) (eKT ao n c u v q be a2 m d))∧(∀ g j,ltN j m→allB j (eKP ao n c u v q be a2 m d)=true→eKP ao n c u v q be a2 m d j=false→k .ret (eKR ao n c u v q be a2 m d j g) (eKT ao n c u v q be a2 m d))
theorem eKB (ao:Option Addr)(n c:Nat)(u:Nat→Nat→Int)(v:Nat→Nat→Bool)(q be:Nat)(a2:Option Addr)(m d:Nat)(j:Nat)(g:Nat→Value)(NX:List SV→List Ch→Prop)(kx:Exit→List SV→List Ch→Prop):(exCode Tryz.prog {} 400 (theLoop Tryz.f73 1) (eKH ao n c u v q be a2 m d (.int (j:Int)) g) (eKT ao n c u v q be a2 m d) (loopK NX kx))=(
 (fun a:SV=>(fun b:SV=>(fun h:SV=>(fun k:SV=>(fun l:SV=>(fun o:SV=>(fun p:SV=>(fun r:SV=>(fun s:SV=>(fun t:SV=>(fun w:SV=>(fun x:SV=>(fun y:SV=>(fun z:SV=>(fun B:SV=>(fun C:SV=>(fun D:SV=>(fun E:SV=>(fun F:SV=>(fun G:SV=>(fun H:SV=>(fun I:SV=>(fun J:SV=>(fun K:SV=>(fun L:SV=>(fun M:SV=>(fun N:SV=>(fun O:SV=>(fun P:SV=>(fun Q:SV=>(fun R:SV=>(fun S:SV=>(fun T:SV=>(fun U:SV=>(fun V:Bool=>(fun W:Bool=>(fun X:SV=>(fun Y:SV=>(fun Z:SV=>(fun aa:SV=>(fun ab:SV=>(fun ac:List SC=>(fun ad:SV=>(fun af:Bool=>(fun ag:Ch=>(fun ah:List (Nat→SC)=>(fun aj:Ch=>(fun ak:Ch=>(af=true→a2=a2∧m=m∧(0≤((j:Nat):Int)∧((j:Nat):Int)<((m:Nat):Int))∧a2=a2∧j<m∧∀ al:Nat,(fun am:SV=>al=al∧be=be∧al=al∧(W=true→be=be∧al=al∧(V=true→kx Exit.ret [T,vV (g 1),fV,vV (g 3),R,vV (g 5),am,T,Z,Y,Q,P,O,N,M,L,K,J,I,H,G,F,E,D,C,B,z,y,x,w,t,s,r,p,o,l,S,X,iV ((j:Nat):Int),tV,U,ad,R,iV (u 0 q),am,iV (u 0 j),aa,tV,pV 1 be 1,iV (u 1 q),pV 3 al 1,iV (u 1 j),bV V,tV,vV (g 54),k,h,b,a] [ak,ag,aj,Hc al 206 ac])∧(V=false→rng (((j:Nat):Int)+(1:Int))∧NX [T,vV (g 1),vV (g 2),vV (g 3),R,vV (g 5),am,T,Z,Y,Q,P,O,N,M,L,K,J,I,H,G,F,E,D,C,B,z,y,x,w,t,s,r,p,o,l,S,X,ab,tV,U,ad,R,iV (u 0 q),am,iV (u 0 j),aa,tV,pV 1 be 1,iV (u 1 q),pV 3 al 1,iV (u 1 j),bV V,fV,ab,k,h,b,a] [ak,ag,aj,Hc al 206 ac]))∧(W=false→rng (((j:Nat):Int)+(1:Int))∧NX [T,vV (g 1),vV (g 2),vV (g 3),R,vV (g 5),am,T,Z,Y,Q,P,O,N,M,L,K,J,I,H,G,F,E,D,C,B,z,y,x,w,t,s,r,p,o,l,S,X,ab,tV,U,ad,R,iV (u 0 q),am,iV (u 0 j),aa,fV,xV,xV,xV,xV,xV,fV,ab,k,h,b,a] [ak,ag,aj,Hc al 206 ac])) (pV 3 al 0))∧(af=false→kx (Exit.exit 2) [T,vV (g 1),vV (g 2),vV (g 3),R,vV (g 5),vV (g 6),T,Z,Y,Q,P,O,N,M,L,K,J,I,H,G,F,E,D,C,B,z,y,x,w,t,s,r,p,o,l,S,X,iV ((j:Nat):Int),fV,vV (g 40),vV (g 41),vV (g 42),vV (g 43),vV (g 44),vV (g 45),vV (g 46),vV (g 47),vV (g 48),vV (g 49),vV (g 50),vV (g 51),vV (g 52),vV (g 53),vV (g 54),k,h,b,a] [ak,ag,aj])) (Hr false ao 0 3 n 0 ah)) (Hr false a2 0 3 m 0 ah)) [fun ah=>Ci (u 0 ah),fun ah=>Ci (u 1 ah),fun ah=>Ci (u 2 ah)]) (Hc be 206 [Ci (u 0 q),Ci (u 1 q),Ci (u 2 q)])) (decide (((j:Nat):Int)<((m:Nat):Int)))) (aV ac)) [Ci (u 0 j),Ci (u 1 j),Ci (u 2 j)]) (iV (((j:Nat):Int)+(1:Int)))) (bV W)) (iV ((n:Nat):Int))) (iV ((q:Nat):Int))) (iV ((m:Nat):Int))) ((u 0 q) == (u 0 j))) ((u 1 q) == (u 1 j))) (rV 2 a2 3 j 0)) (sV 0 ao n c)) (sV 2 a2 m d)) (pV 1 be 0)) (vV (g 10))) (vV (g 11))) (vV (g 12))) (vV (g 13))) (vV (g 14))) (vV (g 15))) (vV (g 16))) (vV (g 17))) (vV (g 18))) (vV (g 19))) (vV (g 20))) (vV (g 21))) (vV (g 22))) (vV (g 23))) (vV (g 24))) (vV (g 25))) (vV (g 26))) (vV (g 27))) (vV (g 28))) (vV (g 29))) (vV (g 30))) (vV (g 31))) (vV (g 32))) (vV (g 33))) (vV (g 34))) (vV (g 35))) (vV (g 55))) (vV (g 56))) (vV (g 57))) (vV (g 58))):=by kernel_rfl
theorem eK_ok (ao:Option Addr)(n c:Nat)(u:Nat→Nat→Int)(v:Nat→Nat→Bool)(q be:Nat)(a2:Option Addr)(m d:Nat)(hn:m≤9223372036854775807)(X:Cx):LoopOK Tryz.prog X (theLoop Tryz.f73 1) (seK ao n c u v q be a2 m d):=by
 intro ts ch k a w hS hT hd hs
 obtain ⟨⟨h1,hch⟩,hk,hr⟩:=hS
 refine loop_ok mixed (E:={}) trivial (loopsOK_nil _ _ _) 400 m (fun j ts ch=>∃ g,allB j (eKP ao n c u v q be a2 m d)=true∧ts=eKH ao n c u v q be a2 m d (.int (j:Int)) g∧ch=eKT ao n c u v q be a2 m d) ?_ ?_ hT hd hs
 ·rintro j _ _ ⟨g,hall,rfl,rfl⟩ hj
  refine @Eq.mpr _ _ (eKB ao n c u v q be a2 m d j g _ _) ?_
  dsimp -zeta -proj -iota -eta -failIfUnchanged (etaStruct:=.none) only
  by_cases hlt:j<m
  ·have hjn:(0:Int)≤(j:Int)∧(j:Int)<(m:Int):=⟨by omega,by omega⟩
   clear h1
   have hcm0:(u 0 q == u 0 j)=(u 0 j == u 0 q):=by rw [Bool.eq_iff_iff];simp;omega
   have hcm1:(u 1 q == u 1 j)=(u 1 j == u 1 q):=by rw [Bool.eq_iff_iff];simp;omega
   cases hP:eKP ao n c u v q be a2 m d j
   all_goals cases hp0:ieq (u 0 j) (u 0 q)
   all_goals cases hp1:ieq (u 1 j) (u 1 q)
   all_goals have hn0:=ieq_ne hp0
   all_goals have hn1:=ieq_ne hp1
   all_goals (first | (exfalso;simp [eKP,hp0,hp1,hn0,hn1,hcm0,hcm1] at hP;done) | skip)
   all_goals
    repeat' (first
     | with_reducible exact rfl
     | exact True.intro
     | with_reducible assumption
     | (refine ⟨hlt,?_⟩;show Next _ _ _ _;refine Next.mk (fun g=>eKH ao n c u v q be a2 m d (.int ((j+1:Nat):Int)) g) _ ⟨_,allB_succ hall hP,rfl,rfl⟩ rfl fun w hw=>hw.sel [0,1,2] (by simp))
     | (refine Next.mk (fun g=>eKR ao n c u v q be a2 m d j g) _ (hr _ j hlt hall hP) rfl fun w hw=>hw.sel [0,1,2] (by simp))
     | refine And.intro ?_ ?_
     | (refine fun (h:@Eq Bool _ _)=>?_;exfalso;first | (simp [hp0,hp1,hn0,hn1,hcm0,hcm1] at h;done) | (simp [hp0,hp1,hn0,hn1,hcm0,hcm1] at h;omega))
     | apply Exists.intro
     | intro _
     | omega)
  ·have hjn:m=j:=by omega
   subst hjn
   repeat' (first
    | with_reducible exact rfl
    | exact True.intro
    | (refine Next.mk (fun g=>eKH ao n c u v q be a2 m d (.int (m:Int)) g) _ (hk _ hall) rfl fun w hw=>hw.sel [0,1,2] (by simp))
    | refine And.intro ?_ ?_
    | (refine fun (h:@Eq Bool _ _)=>?_;exfalso;first | (simp at h;done) | (simp at h;omega))
    | intro _)
 ·refine Next.mk (fun g=>eKH ao n c u v q be a2 m d (.int ((0:Nat):Int)) g) _ ⟨_,allB_zero _,rfl,rfl⟩ h1 fun w hw=>?_
  rw [← hch]
  exact hw.sel [0,1,2] (by simp)
def seKv (ao:Option Addr)(n c:Nat)(u:Nat→Nat→Int)(v:Nat→Nat→Bool):LSm:=fun ts ch kk=>∃ q be a2 m d,seK ao n c u v q be a2 m d ts ch kk∧lenC m
theorem eKv_ok (ao:Option Addr)(n c:Nat)(u:Nat→Nat→Int)(v:Nat→Nat→Bool)(X:Cx):LoopOK Tryz.prog X (theLoop Tryz.f73 1) (seKv ao n c u v):=by
 rintro ts ch kk a w ⟨q,be,a2,m,d,h,hi⟩ hT hd hs
 exact eK_ok ao n c u v q be a2 m d hi X ts ch kk a w h hT hd hs
def eIH (ao:Option Addr)(n c:Nat)(u:Nat→Nat→Int)(v:Nat→Nat→Bool)(i:SC)(g:Nat→Value):List SV:=hdN [(0,.a (.c (.sl 0 ao n c))),(7,.a (.c (.sl 0 ao n c))),(8,.a (.c (.int (n:Int)))),(9,.a (.c i))] g 0 59
def eIR (ao:Option Addr)(n c:Nat)(u:Nat→Nat→Int)(v:Nat→Nat→Bool)(j:Nat)(g:Nat→Value):List SV:=hdN [(2,.a (.c (.lit false)))] g 0 59
def eIT (ao:Option Addr)(n c:Nat)(u:Nat→Nat→Int)(v:Nat→Nat→Bool):List Ch:=[.row ⟨false,ao,0,3,n,0,flK u v 0 [true,true,true]⟩]
def eIP (ao:Option Addr)(n c:Nat)(u:Nat→Nat→Int)(v:Nat→Nat→Bool)(j:Nat):Bool:=btw (u 0 j) 0 1023&&(ieq (u 1 j) 1 || ieq (u 1 j) 2)&&btw (u 2 j) 1 999&&erIn u j
def seI (ao:Option Addr)(n c:Nat)(u:Nat→Nat→Int)(v:Nat→Nat→Bool):LSm:=fun ts ch k =>
 (ts.map SV.den=(eIH ao n c u v (.il 0) (fun d=>(ts.getD d .undef).den)).map SV.den∧selC ch [0]=eIT ao n c u v) ∧
  (∀ g,allB n (eIP ao n c u v)=true→k (.exit 0) (eIH ao n c u v (.int (n:Int)) g) (eIT ao n c u v))∧(∀ g j,ltN j n→allB j (eIP ao n c u v)=true→eIP ao n c u v j=false→k .ret (eIR ao n c u v j g) (eIT ao n c u v))
theorem eIB (ao:Option Addr)(n c:Nat)(u:Nat→Nat→Int)(v:Nat→Nat→Bool)(j:Nat)(g:Nat→Value)(NX:List SV→List Ch→Prop)(kx:Exit→List SV→List Ch→Prop):(exCode Tryz.prog {tb:=[(61,sBtw)],L:=[(7,seKv ao n c u v)]} 400 (theLoop Tryz.f73 0) (eIH ao n c u v (.int (j:Int)) g) (eIT ao n c u v) (loopK NX kx))=(
 (fun a:Value=>(fun b:Value=>(fun d:SV=>(fun h:SV=>(fun k:SV=>(fun l:Value=>(fun m:SV=>(fun o:SV=>(fun p:SV=>(fun q:SV=>(fun r:SV=>(fun s:SV=>(fun t:SV=>(fun w:SV=>(fun x:SV=>(fun y:SV=>(fun z:SV=>(fun B:SV=>(fun C:SV=>(fun D:SV=>(fun E:SV=>(fun F:SV=>(fun G:SV=>(fun H:SV=>(fun I:SV=>(fun J:SV=>(fun K:SV=>(fun M:SV=>(fun N:SV=>(fun O:SV=>(fun P:SV=>(fun Q:Value=>(fun R:Value=>(fun S:Value=>(fun T:SV=>(fun U:SV=>(fun V:SV=>(fun W:SV=>(fun X:Value=>(fun Y:Value=>(fun Z:SV=>(fun aa:SV=>(fun ab:Bool=>(fun ac:Bool=>(fun ad:Value=>(fun af:Value=>(fun ag:SV=>(fun ah:SV=>(fun aj:Bool=>(fun ak:Bool=>(fun al:Bool=>(fun am:Value=>(fun an:SV=>(fun ap:Bool=>(fun aq:Value=>(fun ar:SV=>(fun au:List SC=>(fun av:Value=>(fun aw:SV=>(fun ax:Value=>(fun ay:SV=>(fun az:Value=>(fun aA:SV=>(fun aB:Bool=>(fun aC:Prop=>(fun aD:List (Nat→SC)=>(fun aE:List (Nat→SC)=>(fun aF:Ch=>(aB=true→ao=ao∧n=n∧(0≤((j:Nat):Int)∧((j:Nat):Int)<((n:Nat):Int))∧ao=ao∧j<n∧∀ aG:Nat,(fun aH:Value=>(fun aI:Value=>(fun aJ:SV=>(fun aK:SV=>(fun aL:Ch=>aG=aG∧aG=aG∧(ap=false→aG=aG∧(ac=true→aG=aG∧(ab=false→aG=aG∧(al=true→kx Exit.ret [V,k,fV,aa,aK,h,d,V,Z,aa,tV,aa,W,aA,aK,U,ar,ay,fV,aJ,T,ah,tV,aJ,T,ag,ag,ag,fV,pV 1 aG 2,iV (u 2 j),an,aw,tV,P,O,N,M,K,J,I,H,G,F,E,D,C,B,z,y,x,w,t,s,r,q,p,o,m] [aF,aL])∧(al=false→aC∧∀ aM:Option Addr,∃(aN aO:Nat) (aP:Option Addr) (aQ aR:Nat),(fun aS:Ch=>(fun aT:SV=>(fun aU:Ch=>(([l,g 1,g 2,Y,aI,g 5,g 6,l,X,Y,a,Y,rptrV ao 3 j 0,az,aI,S,aq,ax,b,aH,R,af,a,aH,R,ad,ad,ad,b,Wp aG 2,Q,am,av,b,l,Y,Ws aM j c,Y,Wi 0,g 39,g 40,g 41,g 42,g 43,g 44,g 45,g 46,g 47,g 48,g 49,g 50,g 51,g 52,g 53,g 54,g 55,g 56,g 57,g 58]=[l,g 1,g 2,Y,Wp aO 0,g 5,g 6,l,X,Wi ((aN:Nat):Int),a,Y,rptrV ao 3 j 0,az,aI,S,aq,ax,b,aH,R,af,a,aH,R,ad,ad,ad,b,Wp aG 2,Q,am,av,b,l,Y,Ws aP aQ aR,Wi ((aQ:Nat):Int),Wi 0,g 39,g 40,g 41,g 42,g 43,g 44,g 45,g 46,g 47,g 48,g 49,g 50,g 51,g 52,g 53,g 54,g 55,g 56,g 57,g 58]∧[aF,aL,Hr false aM 0 3 j 0 aE]=[aF,aU,aS])∧(∀ aW:Nat→Value,(allB aQ (eKP ao n c u v aN aO aP aQ aR))=true→rng (((aN:Nat):Int)+(1:Int))∧NX [V,vV (aW 1),vV (aW 2),vV (aW 3),pV 1 aO 0,vV (aW 5),vV (aW 6),V,Z,aT,vV (aW 10),vV (aW 11),vV (aW 12),vV (aW 13),vV (aW 14),vV (aW 15),vV (aW 16),vV (aW 17),vV (aW 18),vV (aW 19),vV (aW 20),vV (aW 21),vV (aW 22),vV (aW 23),vV (aW 24),vV (aW 25),vV (aW 26),vV (aW 27),vV (aW 28),vV (aW 29),vV (aW 30),vV (aW 31),vV (aW 32),vV (aW 33),vV (aW 34),vV (aW 35),sV 2 aP aQ aR,iV ((aQ:Nat):Int),iV ((aQ:Nat):Int),vV (aW 39),vV (aW 40),vV (aW 41),vV (aW 42),vV (aW 43),vV (aW 44),vV (aW 45),vV (aW 46),vV (aW 47),vV (aW 48),vV (aW 49),vV (aW 50),vV (aW 51),vV (aW 52),vV (aW 53),vV (aW 54),aT,vV (aW 56),vV (aW 57),vV (aW 58)] [aF,aU,aS])∧∀(aW:Nat→Value) (aX:Nat),aX<aQ→(allB aX (eKP ao n c u v aN aO aP aQ aR))=true→(eKP ao n c u v aN aO aP aQ aR aX)=false→kx Exit.ret [vV (aW 0),vV (aW 1),fV,vV (aW 3),vV (aW 4),vV (aW 5),vV (aW 6),vV (aW 7),vV (aW 8),vV (aW 9),vV (aW 10),vV (aW 11),vV (aW 12),vV (aW 13),vV (aW 14),vV (aW 15),vV (aW 16),vV (aW 17),vV (aW 18),vV (aW 19),vV (aW 20),vV (aW 21),vV (aW 22),vV (aW 23),vV (aW 24),vV (aW 25),vV (aW 26),vV (aW 27),vV (aW 28),vV (aW 29),vV (aW 30),vV (aW 31),vV (aW 32),vV (aW 33),vV (aW 34),vV (aW 35),vV (aW 36),vV (aW 37),vV (aW 38),vV (aW 39),vV (aW 40),vV (aW 41),vV (aW 42),vV (aW 43),vV (aW 44),vV (aW 45),vV (aW 46),vV (aW 47),vV (aW 48),vV (aW 49),vV (aW 50),vV (aW 51),vV (aW 52),vV (aW 53),vV (aW 54),vV (aW 55),vV (aW 56),vV (aW 57),vV (aW 58)] [aF,aU,aS])∧lenC aQ) (Hc aO 206 [Ci (u 0 aN),Ci (u 1 aN),Ci (u 2 aN)])) (iV (((aN:Nat):Int)+(1:Int)))) (Hr false aP 0 3 aQ 0 aD)))∧(ab=true→kx Exit.ret [V,k,fV,aa,aK,h,d,V,Z,aa,tV,aa,W,aA,aK,U,ar,ay,fV,aJ,T,ah,tV,aJ,T,ag,ag,ag,tV,xV,xV,xV,xV,tV,P,O,N,M,K,J,I,H,G,F,E,D,C,B,z,y,x,w,t,s,r,q,p,o,m] [aF,aL]))∧(ac=false→aG=aG∧(al=true→kx Exit.ret [V,k,fV,aa,aK,h,d,V,Z,aa,tV,aa,W,aA,aK,U,ar,ay,fV,aJ,T,ah,fV,xV,xV,xV,fV,fV,fV,pV 1 aG 2,iV (u 2 j),an,aw,tV,P,O,N,M,K,J,I,H,G,F,E,D,C,B,z,y,x,w,t,s,r,q,p,o,m] [aF,aL])∧(al=false→aC∧∀ aM:Option Addr,∃(aN aO:Nat) (aP:Option Addr) (aQ aR:Nat),(fun aS:Ch=>(fun aT:SV=>(fun aU:Ch=>(([l,g 1,g 2,Y,aI,g 5,g 6,l,X,Y,a,Y,rptrV ao 3 j 0,az,aI,S,aq,ax,b,aH,R,af,b,Wu [],Wu [],Wu [],b,b,b,Wp aG 2,Q,am,av,b,l,Y,Ws aM j c,Y,Wi 0,g 39,g 40,g 41,g 42,g 43,g 44,g 45,g 46,g 47,g 48,g 49,g 50,g 51,g 52,g 53,g 54,g 55,g 56,g 57,g 58]=[l,g 1,g 2,Y,Wp aO 0,g 5,g 6,l,X,Wi ((aN:Nat):Int),a,Y,rptrV ao 3 j 0,az,aI,S,aq,ax,b,aH,R,af,b,Wu [],Wu [],Wu [],b,b,b,Wp aG 2,Q,am,av,b,l,Y,Ws aP aQ aR,Wi ((aQ:Nat):Int),Wi 0,g 39,g 40,g 41,g 42,g 43,g 44,g 45,g 46,g 47,g 48,g 49,g 50,g 51,g 52,g 53,g 54,g 55,g 56,g 57,g 58]∧[aF,aL,Hr false aM 0 3 j 0 aE]=[aF,aU,aS])∧(∀ aW:Nat→Value,(allB aQ (eKP ao n c u v aN aO aP aQ aR))=true→rng (((aN:Nat):Int)+(1:Int))∧NX [V,vV (aW 1),vV (aW 2),vV (aW 3),pV 1 aO 0,vV (aW 5),vV (aW 6),V,Z,aT,vV (aW 10),vV (aW 11),vV (aW 12),vV (aW 13),vV (aW 14),vV (aW 15),vV (aW 16),vV (aW 17),vV (aW 18),vV (aW 19),vV (aW 20),vV (aW 21),vV (aW 22),vV (aW 23),vV (aW 24),vV (aW 25),vV (aW 26),vV (aW 27),vV (aW 28),vV (aW 29),vV (aW 30),vV (aW 31),vV (aW 32),vV (aW 33),vV (aW 34),vV (aW 35),sV 2 aP aQ aR,iV ((aQ:Nat):Int),iV ((aQ:Nat):Int),vV (aW 39),vV (aW 40),vV (aW 41),vV (aW 42),vV (aW 43),vV (aW 44),vV (aW 45),vV (aW 46),vV (aW 47),vV (aW 48),vV (aW 49),vV (aW 50),vV (aW 51),vV (aW 52),vV (aW 53),vV (aW 54),aT,vV (aW 56),vV (aW 57),vV (aW 58)] [aF,aU,aS])∧∀(aW:Nat→Value) (aX:Nat),aX<aQ→(allB aX (eKP ao n c u v aN aO aP aQ aR))=true→(eKP ao n c u v aN aO aP aQ aR aX)=false→kx Exit.ret [vV (aW 0),vV (aW 1),fV,vV (aW 3),vV (aW 4),vV (aW 5),vV (aW 6),vV (aW 7),vV (aW 8),vV (aW 9),vV (aW 10),vV (aW 11),vV (aW 12),vV (aW 13),vV (aW 14),vV (aW 15),vV (aW 16),vV (aW 17),vV (aW 18),vV (aW 19),vV (aW 20),vV (aW 21),vV (aW 22),vV (aW 23),vV (aW 24),vV (aW 25),vV (aW 26),vV (aW 27),vV (aW 28),vV (aW 29),vV (aW 30),vV (aW 31),vV (aW 32),vV (aW 33),vV (aW 34),vV (aW 35),vV (aW 36),vV (aW 37),vV (aW 38),vV (aW 39),vV (aW 40),vV (aW 41),vV (aW 42),vV (aW 43),vV (aW 44),vV (aW 45),vV (aW 46),vV (aW 47),vV (aW 48),vV (aW 49),vV (aW 50),vV (aW 51),vV (aW 52),vV (aW 53),vV (aW 54),vV (aW 55),vV (aW 56),vV (aW 57),vV (aW 58)] [aF,aU,aS])∧lenC aQ) (Hc aO 206 [Ci (u 0 aN),Ci (u 1 aN),Ci (u 2 aN)])) (iV (((aN:Nat):Int)+(1:Int)))) (Hr false aP 0 3 aQ 0 aD))))∧(ap=true→kx Exit.ret [V,k,fV,aa,aK,h,d,V,Z,aa,tV,aa,W,aA,aK,U,ar,ay,tV,xV,xV,xV,xV,xV,xV,xV,xV,tV,tV,xV,xV,xV,xV,tV,P,O,N,M,K,J,I,H,G,F,E,D,C,B,z,y,x,w,t,s,r,q,p,o,m] [aF,aL])) (Hc aG 206 au)) (pV 1 aG 0)) (pV 1 aG 1)) (Wp aG 0)) (Wp aG 1))∧(aB=false→kx (Exit.exit 0) [V,k,vV (g 2),vV (g 3),vV (g 4),h,d,V,Z,aa,fV,vV (g 11),vV (g 12),vV (g 13),vV (g 14),vV (g 15),vV (g 16),vV (g 17),vV (g 18),vV (g 19),vV (g 20),vV (g 21),vV (g 22),vV (g 23),vV (g 24),vV (g 25),vV (g 26),vV (g 27),vV (g 28),vV (g 29),vV (g 30),vV (g 31),vV (g 32),vV (g 33),P,O,N,M,K,J,I,H,G,F,E,D,C,B,z,y,x,w,t,s,r,q,p,o,m] [aF])) (Hr false ao 0 3 n 0 aD)) [fun aE=>Ci (u 0 (aE+0)),fun aE=>Ci (u 1 (aE+0)),fun aE=>Ci (u 2 (aE+0))]) [fun aD=>Ci (u 0 aD),fun aD=>Ci (u 1 aD),fun aD=>Ci (u 2 aD)]) (ao=ao∧n=n∧inSub0 ((j:Nat):Int) n∧n≤c)) (decide (((j:Nat):Int)<((n:Nat):Int)))) (aV au)) (Wa [S,R,Q])) (bV ap)) (Wb ap)) (bV al)) (Wb al)) [Ci (u 0 j),Ci (u 1 j),Ci (u 2 j)]) (bV ak)) (Wb ak)) (! ak)) (bV aj)) (Wb aj)) (! aj)) (btw (u 0 j) (0:Int) (1023:Int))) (btw (u 2 j) (1:Int) (999:Int))) (bV ac)) (bV ab)) (Wb ac)) (Wb ab)) ((u 1 j) != (1:Int))) ((u 1 j) != (2:Int))) (iV ((j:Nat):Int))) (iV ((n:Nat):Int))) (Wi ((j:Nat):Int))) (Wi ((n:Nat):Int))) (rV 0 ao 3 j 0)) (sV 0 ao n c)) (iV (u 0 j))) (iV (u 1 j))) (Wi (u 0 j))) (Wi (u 1 j))) (Wi (u 2 j))) (vV (g 34))) (vV (g 35))) (vV (g 36))) (vV (g 37))) (vV (g 38))) (vV (g 39))) (vV (g 40))) (vV (g 41))) (vV (g 42))) (vV (g 43))) (vV (g 44))) (vV (g 45))) (vV (g 46))) (vV (g 47))) (vV (g 48))) (vV (g 49))) (vV (g 50))) (vV (g 51))) (vV (g 52))) (vV (g 53))) (vV (g 54))) (vV (g 55))) (vV (g 56))) (vV (g 57))) (vV (g 58))) (Ws ao n c)) (vV (g 1))) (vV (g 5))) (vV (g 6))) (Wb false)) (Wb true)):=by kernel_rfl
theorem eI_ok (ao:Option Addr)(n c:Nat)(u:Nat→Nat→Int)(v:Nat→Nat→Bool)(hn:n≤9223372036854775807)(hcp:n≤c)(X:Cx):LoopOK Tryz.prog X (theLoop Tryz.f73 0) (seI ao n c u v):=by
 intro ts ch k a w hS hT hd hs
 obtain ⟨⟨h1,hch⟩,hk,hr⟩:=hS
 refine loop_ok mixed (E:={tb:=[(61,sBtw)],L:=[(7,seKv ao n c u v)]}) ⟨sBtwI_ok,trivial⟩ (body_loop (by kernel_rfl) (by kernel_rfl) (eKv_ok ao n c u v X)) 400 n (fun j ts ch=>∃ g,allB j (eIP ao n c u v)=true∧ts=eIH ao n c u v (.int (j:Int)) g∧ch=eIT ao n c u v) ?_ ?_ hT hd hs
 ·rintro j _ _ ⟨g,hall,rfl,rfl⟩ hj
  refine @Eq.mpr _ _ (eIB ao n c u v j g _ _) ?_
  dsimp -zeta -proj -iota -eta -failIfUnchanged (etaStruct:=.none) only
  by_cases hlt:j<n
  ·have hjn:(0:Int)≤(j:Int)∧(j:Int)<(n:Int):=⟨by omega,by omega⟩
   clear h1
   have etn:Int.toNat (j:Int)=j:=by omega
   cases hP:eIP ao n c u v j
   all_goals cases hp0:btw (u 0 j) 0 1023
   all_goals cases hp1:ieq (u 1 j) 1
   all_goals cases hp2:ieq (u 1 j) 2
   all_goals cases hp3:btw (u 2 j) 1 999
   all_goals cases hp4:erIn u j
   all_goals have hn1:=ieq_ne hp1
   all_goals have hn2:=ieq_ne hp2
   all_goals (first | (exfalso;simp [eIP,hp0,hp1,hp2,hp3,hp4,hn1,hn2] at hP;done) | skip)
   all_goals
    repeat' (first
     | with_reducible exact rfl
     | exact True.intro
     | with_reducible assumption
     | (refine ⟨hlt,?_⟩;show Next _ _ _ _;refine Next.mk (fun g=>eIH ao n c u v (.int ((j+1:Nat):Int)) g) _ ⟨_,allB_succ hall hP,rfl,rfl⟩ rfl fun w hw=>hw.sel [0] (by simp))
     | (refine Next.mk (fun g=>eIR ao n c u v j g) _ (hr _ j hlt hall hP) rfl fun w hw=>hw.sel [0] (by simp))
     | refine And.intro ?_ ?_
     | (refine fun (h:@Eq Bool _ _)=>?_;exfalso;first | (simp [hp0,hp1,hp2,hp3,hp4,hn1,hn2] at h;done) | (simp [hp0,hp1,hp2,hp3,hp4,hn1,hn2] at h;omega))
     | (intro g hx;have h9:erIn u j=true:=hx;first | (exfalso;rw [hp4] at h9;cases h9;done) | clear h9)
     | (intro g k hk _ hq;exfalso;have h9:(!(ieq (u 0 k) (u 0 j)&&ieq (u 1 k) (u 1 j)))=true:=allB_get (p:=fun k=>!(ieq (u 0 k) (u 0 j)&&ieq (u 1 k) (u 1 j))) hp4 hk;have h8:(!(ieq (u 0 k) (u 0 j)&&ieq (u 1 k) (u 1 j)))=false:=hq;rw [h8] at h9;cases h9)
     | (show @Eq (List _) _ _;exact rfl)
     | apply Exists.intro
     | (show Int.toNat (j:Int)≤_;omega)
     | apply Exists.intro
     | intro _
     | omega)
  ·have hjn:n=j:=by omega
   subst hjn
   repeat' (first
    | with_reducible exact rfl
    | exact True.intro
    | (refine Next.mk (fun g=>eIH ao n c u v (.int (n:Int)) g) _ (hk _ hall) rfl fun w hw=>hw.sel [0] (by simp))
    | refine And.intro ?_ ?_
    | (refine fun (h:@Eq Bool _ _)=>?_;exfalso;first | (simp at h;done) | (simp at h;omega))
    | intro _)
 ·refine Next.mk (fun g=>eIH ao n c u v (.int ((0:Nat):Int)) g) _ ⟨_,allB_zero _,rfl,rfl⟩ h1 fun w hw=>?_
  rw [← hch]
  exact hw.sel [0] (by simp)
theorem ers_same (n:Nat)(u:Nat→Nat→Int):allB n (fun j=>erB (u 0 j) (u 1 j) (u 2 j)&&erIn u j)=allB n (fun j=>erB (u 0 j) (u 1 j) (u 2 j)&&ieq (erI n u (u 0 j) (u 1 j)) (j:Int)):=by
 refine allB_congr fun j hj=>?_
 have h1:ieq (erI n u (u 0 j) (u 1 j)) (j:Int)=erIn u j:=fidx_at (p:=fun k=>ieq (u 0 k) (u 0 j)&&ieq (u 1 k) (u 1 j)) hj (by simp [ieq])
 rw [h1]
theorem ersI_T (ao:Option Addr)(n c:Nat)(u:Nat→Nat→Int)(v:Nat→Nat→Bool):(exFn Tryz.prog {tb:=[],L:=[(2,seI ao n c u v)]} 400 Tryz.f73 ([.a (.c (.sl 0 ao n c))]) ([.row ⟨false,ao,0,3,n,0,flK u v 0 [true,true,true]⟩]) (fun y_ _=>y_.den=.bool (ersB n u)))=(
 (fun b:Value=>(fun d:List Ch=>(fun g:List Value=>(g=g∧d=d)∧(∀ h:Nat→Value,(allB n (eIP ao n c u v))=true→(Wb (decide (((n:Nat):Int)≤(6:Int))))=(Wb (ersB n u)))∧∀(h:Nat→Value) (j:Nat),j<n→(allB j (eIP ao n c u v))=true→(eIP ao n c u v j)=false→(Wb false)=(Wb (ersB n u))) [Ws ao n c,b,Wb false,b,b,b,b,Ws ao n c,Wi ((n:Nat):Int),Wi 0,b,b,b,b,b,b,b,b,b,b,b,b,b,b,b,b,b,b,b,b,b,b,b,b,b,b,b,b,b,b,b,b,b,b,b,b,b,b,b,b,b,b,b,b,b,b,b,b,b]) [Hr false ao 0 3 n 0 [fun d=>Ci (u 0 d),fun d=>Ci (u 1 d),fun d=>Ci (u 2 d)]]) (Wu [])):=by kernel_rfl
theorem ersI_any (ao:Option Addr)(n c:Nat)(u:Nat→Nat→Int)(v:Nat→Nat→Bool)(w:World)(hn:n≤9223372036854775807)(hcp:n≤c)(h0:Row.sat w ⟨false,ao,0,3,n,0,flK u v 0 [true,true,true]⟩):Calls Tryz.prog 73 #[.slice ao n c] w fun e w'=>e=.returned (.bool (ersB n u))∧Below w.heap.size w w':=by
 refine fn_ok mixed (E:={tb:=[],L:=[(2,seI ao n c u v)]}) trivial Tryz.func73 (first_loop (rest:=[7]) (by kernel_rfl) (by decide) (eI_ok ao n c u v hn hcp _)) (@Eq.mpr _ _ (ersI_T ao n c u v) ?_) (HS.rows (fun _=>False) [⟨false,ao,0,3,n,0,flK u v 0 [true,true,true]⟩] (by simpa using h0)) (fun v ch' w' hv hs=>⟨by rw [hv],hs.below⟩)
 dsimp -zeta -proj -iota -eta -failIfUnchanged (etaStruct:=.none) only
 clear h0
 have hc1:allB n (fun j=>erB (u 0 j) (u 1 j) (u 2 j)&&erIn u j)=allB n (fun j=>erB (u 0 j) (u 1 j) (u 2 j)&&ieq (erI n u (u 0 j) (u 1 j)) (j:Int)):=ers_same n u
 have hrd:ersB n u=(decide ((n:Int)≤6)&&allB n (fun j=>erB (u 0 j) (u 1 j) (u 2 j)&&ieq (erI n u (u 0 j) (u 1 j)) (j:Int))):=rfl
 by_cases h1:(n:Int)≤6
 ·have hd1:=decide_eq_true h1
  repeat' (first
   | with_reducible exact rfl
   | exact True.intro
   | with_reducible assumption
   | (intro g (ha_:allB n _=true);have e1:allB n (fun j=>erB (u 0 j) (u 1 j) (u 2 j)&&ieq (erI n u (u 0 j) (u 1 j)) (j:Int))=true:=hc1.symm.trans ha_;clear ha_)
   | (intro g j hj ha hP;have e0_:allB n (fun j=>erB (u 0 j) (u 1 j) (u 2 j)&&ieq (erI n u (u 0 j) (u 1 j)) (j:Int))=false:=hc1.symm.trans (allB_no (p:=fun j=>erB (u 0 j) (u 1 j) (u 2 j)&&erIn u j) hj hP);exact congrArg Value.bool (by rw [hrd,e0_,hd1];rfl))
   | (exact congrArg Value.bool (by rw [hrd,e1,hd1];rfl))
   | (exact congrArg Value.bool (by rw [hrd,e1,Bool.and_true]))
   | (show @Eq (List _) _ _;exact rfl)
   | refine And.intro ?_ ?_
   | apply Exists.intro
   | (refine fun (h:@Eq Bool _ _)=>?_;exfalso;first | (simp [h1] at h;done) | (simp [h1] at h;omega))
   | intro _
   | omega
   | exact rfl)
 ·have hd1:=decide_eq_false h1
  repeat' (first
   | with_reducible exact rfl
   | exact True.intro
   | with_reducible assumption
   | (intro g (ha_:allB n _=true);have e1:allB n (fun j=>erB (u 0 j) (u 1 j) (u 2 j)&&ieq (erI n u (u 0 j) (u 1 j)) (j:Int))=true:=hc1.symm.trans ha_;clear ha_)
   | (intro g j hj ha hP;have e0_:allB n (fun j=>erB (u 0 j) (u 1 j) (u 2 j)&&ieq (erI n u (u 0 j) (u 1 j)) (j:Int))=false:=hc1.symm.trans (allB_no (p:=fun j=>erB (u 0 j) (u 1 j) (u 2 j)&&erIn u j) hj hP);exact congrArg Value.bool (by rw [hrd,e0_,hd1];rfl))
   | (exact congrArg Value.bool (by rw [hrd,hd1];rfl))
   | (exact congrArg Value.bool (by rw [hrd,e1,Bool.and_true]))
   | (show @Eq (List _) _ _;exact rfl)
   | refine And.intro ?_ ?_
   | apply Exists.intro
   | (refine fun (h:@Eq Bool _ _)=>?_;exfalso;first | (simp [h1] at h;done) | (simp [h1] at h;omega))
   | intro _
   | omega
   | exact rfl)
theorem ersS_T (ao:Option Addr)(n c:Nat)(u:Nat→Nat→Int)(v:Nat→Nat→Bool):(exFn Tryz.prog {tb:=[],L:=[(4,seS ao n c u v)]} 400 Tryz.f41 ([.a (.c (.sl 0 ao n c))]) ([.row ⟨false,ao,0,3,n,0,flK u v 0 [true,true,true]⟩]) (fun y_ _=>y_.den=.bool (ersB n u)))=(
 ((decide (((n:Nat):Int) > (6:Int)))=true→(Wb false)=(Wb (ersB n u)))∧((decide (((n:Nat):Int) > (6:Int)))=false→([Ws ao n c,Wu [],Wb false,Wi 0,Ws ao n c,Wi ((n:Nat):Int),Wb false,Wu [],Wu [],Wu [],Wu [],Wu [],Wu [],Wu [],Wu [],Wu [],Wu [],Wu [],Wu [],Wu [],Wu [],Wu [],Wu [],Wu [],Wu [],Wu [],Wu [],Wu [],Wu [],Wu [],Wu [],Wu [],Wu [],Wu [],Wu []]=[Ws ao n c,Wu [],Wb false,Wi 0,Ws ao n c,Wi ((n:Nat):Int),Wb false,Wu [],Wu [],Wu [],Wu [],Wu [],Wu [],Wu [],Wu [],Wu [],Wu [],Wu [],Wu [],Wu [],Wu [],Wu [],Wu [],Wu [],Wu [],Wu [],Wu [],Wu [],Wu [],Wu [],Wu [],Wu [],Wu [],Wu [],Wu []]∧[Hr false ao 0 3 n 0 [fun b=>Ci (u 0 b),fun b=>Ci (u 1 b),fun b=>Ci (u 2 b)]]=[Hr false ao 0 3 n 0 [fun b=>Ci (u 0 b),fun b=>Ci (u 1 b),fun b=>Ci (u 2 b)]])∧(∀ b:Nat→Value,(allB n (eSP ao n c u v))=true→(Wb true)=(Wb (ersB n u)))∧∀(b:Nat→Value) (d:Nat),d<n→(allB d (eSP ao n c u v))=true→(eSP ao n c u v d)=false→(Wb false)=(Wb (ersB n u)))):=by kernel_rfl
theorem ersS_any (ao:Option Addr)(n c:Nat)(u:Nat→Nat→Int)(v:Nat→Nat→Bool)(w:World)(hn:n≤9223372036854775807)(hcp:n≤c)(h0:Row.sat w ⟨false,ao,0,3,n,0,flK u v 0 [true,true,true]⟩):Calls Tryz.prog 41 #[.slice ao n c] w fun e w'=>e=.returned (.bool (ersB n u))∧Below w.heap.size w w':=by
 refine fn_ok mixed (E:={tb:=[],L:=[(4,seS ao n c u v)]}) trivial Tryz.func41 (one_loop (by kernel_rfl) (by kernel_rfl) (eS_ok ao n c u v hn _)) (@Eq.mpr _ _ (ersS_T ao n c u v) ?_) (HS.rows (fun _=>False) [⟨false,ao,0,3,n,0,flK u v 0 [true,true,true]⟩] (by simpa using h0)) (fun v ch' w' hv hs=>⟨by rw [hv],hs.below⟩)
 clear h0
 have hc1:allB n (fun j=>erB (u 0 j) (u 1 j) (u 2 j)&&ieq (erI n u (u 0 j) (u 1 j)) (j:Int))=allB n (fun j=>erB (u 0 j) (u 1 j) (u 2 j)&&ieq (erI n u (u 0 j) (u 1 j)) (j:Int)):=rfl
 have hrd:ersB n u=(decide ((n:Int)≤6)&&allB n (fun j=>erB (u 0 j) (u 1 j) (u 2 j)&&ieq (erI n u (u 0 j) (u 1 j)) (j:Int))):=rfl
 by_cases h1:(n:Int)≤6
 ·have hd1:=decide_eq_true h1
  repeat' (first
   | with_reducible exact rfl
   | exact True.intro
   | with_reducible assumption
   | (intro g (ha_:allB n _=true);have e1:allB n (fun j=>erB (u 0 j) (u 1 j) (u 2 j)&&ieq (erI n u (u 0 j) (u 1 j)) (j:Int))=true:=hc1.symm.trans ha_;clear ha_)
   | (intro g j hj ha hP;have e0_:allB n (fun j=>erB (u 0 j) (u 1 j) (u 2 j)&&ieq (erI n u (u 0 j) (u 1 j)) (j:Int))=false:=hc1.symm.trans (allB_no (p:=fun j=>erB (u 0 j) (u 1 j) (u 2 j)&&ieq (erI n u (u 0 j) (u 1 j)) (j:Int)) hj hP);exact congrArg Value.bool (by rw [hrd,e0_,hd1];rfl))
   | (exact congrArg Value.bool (by rw [hrd,e1,hd1];rfl))
   | (exact congrArg Value.bool (by rw [hrd,e1,Bool.and_true]))
   | (show @Eq (List _) _ _;exact rfl)
   | refine And.intro ?_ ?_
   | apply Exists.intro
   | (refine fun (h:@Eq Bool _ _)=>?_;exfalso;first | (simp [h1] at h;done) | (simp [h1] at h;omega))
   | intro _
   | omega
   | exact rfl)
 ·have hd1:=decide_eq_false h1
  repeat' (first
   | with_reducible exact rfl
   | exact True.intro
   | with_reducible assumption
   | (intro g (ha_:allB n _=true);have e1:allB n (fun j=>erB (u 0 j) (u 1 j) (u 2 j)&&ieq (erI n u (u 0 j) (u 1 j)) (j:Int))=true:=hc1.symm.trans ha_;clear ha_)
   | (intro g j hj ha hP;have e0_:allB n (fun j=>erB (u 0 j) (u 1 j) (u 2 j)&&ieq (erI n u (u 0 j) (u 1 j)) (j:Int))=false:=hc1.symm.trans (allB_no (p:=fun j=>erB (u 0 j) (u 1 j) (u 2 j)&&ieq (erI n u (u 0 j) (u 1 j)) (j:Int)) hj hP);exact congrArg Value.bool (by rw [hrd,e0_,hd1];rfl))
   | (exact congrArg Value.bool (by rw [hrd,hd1];rfl))
   | (exact congrArg Value.bool (by rw [hrd,e1,Bool.and_true]))
   | (show @Eq (List _) _ _;exact rfl)
   | refine And.intro ?_ ?_
   | apply Exists.intro
   | (refine fun (h:@Eq Bool _ _)=>?_;exfalso;first | (simp [h1] at h;done) | (simp [h1] at h;omega))
   | intro _
   | omega
   | exact rfl)
def sErOk:Sm:=fun args ch kk =>
 match args with
 | [.a (.c x)] =>
  rdf [true,true,true] ch x fun n c u v=>(lenC n∧leC n c)∧kk (.a (.c (.bool (ersB n u)))) ch []
 | _=>False
theorem sErOk_I:SmOK Tryz.prog 73 sErOk:=by
 refine smB Tryz.call73 fun args ch kk w X h0 hs=>?_
 unfold sErOk at h0
 split at h0
 ·obtain ⟨ao,n,c,u,v,em,hr,h0⟩:=rdf_ok h0 hs
  obtain ⟨hn,h0⟩:=h0
  refine ⟨_,h0,?_⟩
  simp only [List.map_cons,List.map_nil,den_a,den_c,SA.den,em]
  exact ersI_any ao n c u v w hn.1 hn.2 hr
 ·exact h0.elim
theorem sErOk_S:SmOK Tryz.prog 41 sErOk:=by
 refine smB Tryz.call41 fun args ch kk w X h0 hs=>?_
 unfold sErOk at h0
 split at h0
 ·obtain ⟨ao,n,c,u,v,em,hr,h0⟩:=rdf_ok h0 hs
  obtain ⟨hn,h0⟩:=h0
  refine ⟨_,h0,?_⟩
  simp only [List.map_cons,List.map_nil,den_a,den_c,SA.den,em]
  exact ersS_any ao n c u v w hn.1 hn.2 hr
 ·exact h0.elim
end Go.Proofs.YtmnccapnjphmfaaGreat

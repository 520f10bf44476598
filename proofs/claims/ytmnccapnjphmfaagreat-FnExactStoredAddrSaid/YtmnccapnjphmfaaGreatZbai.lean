/-
  FnExactStoredAddr: a part of the walk (merged and squeezed by program: SxPrT).
-/
import Derived.Test.YtmnccapnjphmfaaGreatZbae
import Derived.Test.YtmnccapnjphmfaaGreatZbah
namespace Go.Proofs.YtmnccapnjphmfaaGreat
set_option linter.unusedVariables false
set_option linter.unusedSimpArgs false
open Go.RowKit
set_option maxRecDepth 100000
set_option maxHeartbeats 8000000
abbrev eqN (m n:Nat):Prop:=m=n
def trkB (n:Nat)(f:Nat→Int)(m:Nat)(qf:Nat→Int)(sp:Int):Bool:=btw (n:Int) 1 16&&ieq (m:Int) (n:Int)&&btw sp 0 100000&&allB n (fun j=>btw (f j) (-1) 15&&btw (qf j) sp 100000&&!(decide (f j<0)&&!ieq (qf j) 0)&&allB j (fun k=>!(decide (0≤f j)&&ieq (f k) (f j))))
def tkIH (ao:Option Addr)(n c:Nat)(f:Nat→Int)(bo:Option Addr)(m d:Nat)(qf:Nat→Int)(sp:Int)(bt:Nat)(i:SC)(g:Nat→Value):List SV:=hdN [(1,.a (.c (.ptr 2 bt 0))),(26,.a (.c (.sl 0 ao n c))),(27,.a (.c (.int (n:Int)))),(28,.a (.c i))] g 0 72
def tkIR (ao:Option Addr)(n c:Nat)(f:Nat→Int)(bo:Option Addr)(m d:Nat)(qf:Nat→Int)(sp:Int)(bt:Nat)(j:Nat)(g:Nat→Value):List SV:=hdN [(2,.a (.c (.lit false)))] g 0 72
def tkIT (ao:Option Addr)(n c:Nat)(f:Nat→Int)(bo:Option Addr)(m d:Nat)(qf:Nat→Int)(sp:Int)(bt:Nat):List Ch:=[.row ⟨false,ao,0,1,n,0,[fun i=>.int (f i)]⟩,.row ⟨false,bo,0,1,m,0,[fun i=>.int (qf i)]⟩,.cells bt 194 [.sl 0 ao n c,.sl 1 bo m d,.int sp]]
def tkIP (ao:Option Addr)(n c:Nat)(f:Nat→Int)(bo:Option Addr)(m d:Nat)(qf:Nat→Int)(sp:Int)(bt:Nat)(j:Nat):Bool:=btw (f j) (-1) 15&&btw (qf j) sp 100000&&!(ieq (f j) (-1)&&!ieq (qf j) 0)&&(ieq (f j) (-1) || ieq (itI n f (f j)) (j:Int))
def stkI (ao:Option Addr)(n c:Nat)(f:Nat→Int)(bo:Option Addr)(m d:Nat)(qf:Nat→Int)(sp:Int)(bt:Nat):LSm:=fun ts ch k =>
 (ts.map SV.den=(tkIH ao n c f bo m d qf sp bt (.il 0) (fun d=>(ts.getD d .undef).den)).map SV.den∧selC ch [0,1,2]=tkIT ao n c f bo m d qf sp bt) ∧
  (∀ g,allB n (tkIP ao n c f bo m d qf sp bt)=true→k (.exit 0) (tkIH ao n c f bo m d qf sp bt (.int (n:Int)) g) (tkIT ao n c f bo m d qf sp bt))∧(∀ g j,ltN j n→allB j (tkIP ao n c f bo m d qf sp bt)=true→tkIP ao n c f bo m d qf sp bt j=false→k .ret (tkIR ao n c f bo m d qf sp bt j g) (tkIT ao n c f bo m d qf sp bt))
theorem tkIB (ao:Option Addr)(n c:Nat)(f:Nat→Int)(bo:Option Addr)(m d:Nat)(qf:Nat→Int)(sp:Int)(bt:Nat)(j:Nat)(g:Nat→Value)(NX:List SV→List Ch→Prop)(kx:Exit→List SV→List Ch→Prop):(exCode Tryz.prog {tb:=[(61,sBtw),(181,sItIx)]} 400 (theLoop Tryz.f141 0) (tkIH ao n c f bo m d qf sp bt (.int (j:Int)) g) (tkIT ao n c f bo m d qf sp bt) (loopK NX kx))=(
 (fun a:SV=>(fun b:SV=>(fun h:SV=>(fun k:SV=>(fun l:SV=>(fun o:SV=>(fun p:SV=>(fun q:SV=>(fun r:SV=>(fun s:SV=>(fun t:SV=>(fun u:SV=>(fun v:SV=>(fun w:SV=>(fun x:SV=>(fun y:SV=>(fun z:SV=>(fun B:SV=>(fun C:SV=>(fun D:SV=>(fun E:SV=>(fun F:SV=>(fun G:SV=>(fun H:SV=>(fun I:SV=>(fun J:SV=>(fun K:SV=>(fun L:SV=>(fun M:SV=>(fun N:SV=>(fun O:SV=>(fun P:SV=>(fun Q:SV=>(fun R:SV=>(fun S:Bool=>(fun T:Bool=>(fun U:Bool=>(fun V:SV=>(fun W:SV=>(fun X:List (Nat→SC)=>(fun Y:SV=>(fun Z:SV=>(fun aa:SV=>(fun ab:Bool=>(fun ac:Bool=>(fun ad:Bool=>(fun af:SV=>(fun ag:SV=>(fun ah:Bool=>(fun aj:SV=>(fun ak:SV=>(fun al:SV=>(fun am:Bool=>(fun an:Prop=>(fun ap:List Ch=>(am=true→ao=ao∧n=n∧(0≤((j:Nat):Int)∧((j:Nat):Int)<((n:Nat):Int))∧ao=ao∧j<n∧True∧(ah=false→bt=bt∧bo=bo∧m=m∧an∧bo=bo∧j<m∧bt=bt∧True∧(ad=false→(U=true→bt=bt∧bo=bo∧m=m∧an∧bo=bo∧j<m∧(T=false→(S=true→bt=bt∧∃ aq:Nat→Int,(fun ar:Int=>(fun au:Bool=>(fun av:SV=>(ao=ao∧n=n∧X=[fun aw=>Ci (aq aw)])∧lenC n∧True∧(au=true→kx Exit.ret [r,N,fV,W,q,p,o,l,k,h,M,L,K,J,I,H,G,F,E,D,C,B,z,y,x,w,P,V,W,tV,W,R,q,q,aj,al,fV,v,O,W,Q,u,t,a,af,ak,ak,fV,q,aa,tV,v,O,W,Q,u,Z,Z,Z,fV,q,Y,tV,N,P,q,iV ar,W,av,av,tV,s] ap)∧(au=false→rng (((j:Nat):Int)+(1:Int))∧NX [r,N,b,W,q,p,o,l,k,h,M,L,K,J,I,H,G,F,E,D,C,B,z,y,x,w,P,V,ag,tV,W,R,q,q,aj,al,fV,v,O,W,Q,u,t,a,af,ak,ak,fV,q,aa,tV,v,O,W,Q,u,Z,Z,Z,fV,q,Y,tV,N,P,q,iV ar,W,av,av,fV,ag] ap)) (bV au)) (ar != ((j:Nat):Int))) (itI n aq (f j)))∧(S=false→rng (((j:Nat):Int)+(1:Int))∧NX [r,N,b,W,q,p,o,l,k,h,M,L,K,J,I,H,G,F,E,D,C,B,z,y,x,w,P,V,ag,tV,W,R,q,q,aj,al,fV,v,O,W,Q,u,t,a,af,ak,ak,fV,q,aa,tV,v,O,W,Q,u,Z,Z,Z,fV,q,Y,fV,xV,xV,xV,xV,xV,xV,fV,fV,ag] ap))∧(T=true→kx Exit.ret [r,N,fV,W,q,p,o,l,k,h,M,L,K,J,I,H,G,F,E,D,C,B,z,y,x,w,P,V,W,tV,W,R,q,q,aj,al,fV,v,O,W,Q,u,t,a,af,ak,ak,fV,q,aa,tV,v,O,W,Q,u,Z,Z,Z,tV,xV,xV,xV,xV,xV,xV,xV,xV,xV,xV,tV,s] ap))∧(U=false→(S=true→bt=bt∧∃ aq:Nat→Int,(fun ar:Int=>(fun au:Bool=>(fun av:SV=>(ao=ao∧n=n∧X=[fun aw=>Ci (aq aw)])∧lenC n∧True∧(au=true→kx Exit.ret [r,N,fV,W,q,p,o,l,k,h,M,L,K,J,I,H,G,F,E,D,C,B,z,y,x,w,P,V,W,tV,W,R,q,q,aj,al,fV,v,O,W,Q,u,t,a,af,ak,ak,fV,q,aa,fV,xV,xV,xV,xV,xV,xV,fV,fV,fV,q,Y,tV,N,P,q,iV ar,W,av,av,tV,s] ap)∧(au=false→rng (((j:Nat):Int)+(1:Int))∧NX [r,N,b,W,q,p,o,l,k,h,M,L,K,J,I,H,G,F,E,D,C,B,z,y,x,w,P,V,ag,tV,W,R,q,q,aj,al,fV,v,O,W,Q,u,t,a,af,ak,ak,fV,q,aa,fV,xV,xV,xV,xV,xV,xV,fV,fV,fV,q,Y,tV,N,P,q,iV ar,W,av,av,fV,ag] ap)) (bV au)) (ar != ((j:Nat):Int))) (itI n aq (f j)))∧(S=false→rng (((j:Nat):Int)+(1:Int))∧NX [r,N,b,W,q,p,o,l,k,h,M,L,K,J,I,H,G,F,E,D,C,B,z,y,x,w,P,V,ag,tV,W,R,q,q,aj,al,fV,v,O,W,Q,u,t,a,af,ak,ak,fV,q,aa,fV,xV,xV,xV,xV,xV,xV,fV,fV,fV,q,Y,fV,xV,xV,xV,xV,xV,xV,fV,fV,ag] ap)))∧(ad=true→kx Exit.ret [r,N,fV,W,q,p,o,l,k,h,M,L,K,J,I,H,G,F,E,D,C,B,z,y,x,w,P,V,W,tV,W,R,q,q,aj,al,fV,v,O,W,Q,u,t,a,af,ak,ak,tV,xV,xV,xV,xV,xV,xV,xV,xV,xV,xV,tV,tV,xV,xV,xV,xV,xV,xV,xV,xV,xV,xV,tV,s] ap))∧(ah=true→kx Exit.ret [r,N,fV,W,q,p,o,l,k,h,M,L,K,J,I,H,G,F,E,D,C,B,z,y,x,w,P,V,W,tV,W,R,q,q,aj,al,tV,xV,xV,xV,xV,xV,xV,xV,xV,xV,tV,tV,xV,xV,xV,xV,xV,xV,xV,xV,xV,xV,tV,tV,xV,xV,xV,xV,xV,xV,xV,xV,xV,xV,tV,s] ap))∧(am=false→kx (Exit.exit 0) [r,N,b,vV (g 3),vV (g 4),p,o,l,k,h,M,L,K,J,I,H,G,F,E,D,C,B,z,y,x,w,P,V,W,fV,vV (g 30),vV (g 31),vV (g 32),vV (g 33),vV (g 34),vV (g 35),vV (g 36),vV (g 37),vV (g 38),vV (g 39),vV (g 40),vV (g 41),vV (g 42),vV (g 43),vV (g 44),vV (g 45),vV (g 46),vV (g 47),vV (g 48),vV (g 49),vV (g 50),vV (g 51),vV (g 52),vV (g 53),vV (g 54),vV (g 55),vV (g 56),vV (g 57),vV (g 58),vV (g 59),vV (g 60),vV (g 61),vV (g 62),vV (g 63),vV (g 64),vV (g 65),vV (g 66),vV (g 67),vV (g 68),vV (g 69),vV (g 70),s] ap)) [Hr false ao 0 1 n 0 X,Hr false bo 0 1 m 0 [fun ap=>Ci (qf ap)],Hc bt 194 [Cs 0 ao n c,Cs 1 bo m d,Ci sp]]) (0≤((j:Nat):Int)∧((j:Nat):Int)<((m:Nat):Int))) (decide (((j:Nat):Int)<((n:Nat):Int)))) (bV ah)) (bV ad)) (bV ac)) (! ac)) (iV (((j:Nat):Int)+(1:Int)))) (bV ab)) (! ab)) (btw (f j) ((-1):Int) (15:Int))) (btw (qf j) sp (100000:Int))) (bV U)) (bV T)) (bV S)) [fun X=>Ci (f X)]) (iV ((j:Nat):Int))) (iV ((n:Nat):Int))) ((f j) == ((-1):Int))) ((qf j) != (0:Int))) ((f j) != ((-1):Int))) (rV 0 ao 1 j 0)) (rV 1 bo 1 j 0)) (sV 0 ao n c)) (sV 1 bo m d)) (pV 2 bt 0)) (vV (g 10))) (vV (g 11))) (vV (g 12))) (vV (g 13))) (vV (g 14))) (vV (g 15))) (vV (g 16))) (vV (g 17))) (vV (g 18))) (vV (g 19))) (vV (g 20))) (vV (g 21))) (vV (g 22))) (vV (g 23))) (vV (g 24))) (vV (g 25))) (pV 2 bt 1)) (iV (qf j))) (pV 2 bt 2)) (vV (g 71))) (vV (g 0))) (iV (f j))) (vV (g 5))) (vV (g 6))) (vV (g 7))) (vV (g 8))) (vV (g 9))) (vV (g 2))) (iV sp)):=by kernel_rfl
theorem tkI_ok (ao:Option Addr)(n c:Nat)(f:Nat→Int)(bo:Option Addr)(m d:Nat)(qf:Nat→Int)(sp:Int)(bt:Nat)(hn:n≤9223372036854775807)(hm:m=n)(X:Cx):LoopOK Tryz.prog X (theLoop Tryz.f141 0) (stkI ao n c f bo m d qf sp bt):=by
 intro ts ch k a w hS hT hd hs
 obtain ⟨⟨h1,hch⟩,hk,hr⟩:=hS
 refine loop_ok mixed (E:={tb:=[(61,sBtw),(181,sItIx)]}) ⟨sBtwI_ok,sItIx_ok,trivial⟩ (loopsOK_nil _ _ _) 400 n (fun j ts ch=>∃ g,allB j (tkIP ao n c f bo m d qf sp bt)=true∧ts=tkIH ao n c f bo m d qf sp bt (.int (j:Int)) g∧ch=tkIT ao n c f bo m d qf sp bt) ?_ ?_ hT hd hs
 ·rintro j _ _ ⟨g,hall,rfl,rfl⟩ hj
  refine @Eq.mpr _ _ (tkIB ao n c f bo m d qf sp bt j g _ _) ?_
  dsimp -zeta -proj -iota -eta -failIfUnchanged (etaStruct:=.none) only
  by_cases hlt:j<n
  ·have hjn:(0:Int)≤(j:Int)∧(j:Int)<(n:Int):=⟨by omega,by omega⟩
   clear h1
   cases hP:tkIP ao n c f bo m d qf sp bt j
   all_goals cases hp0:btw (f j) (-1) 15
   all_goals cases hp1:btw (qf j) sp 100000
   all_goals cases hp2:ieq (f j) (-1)
   all_goals cases hp3:ieq (qf j) 0
   all_goals cases hp4:ieq (itI n f (f j)) (j:Int)
   all_goals have hn2:=ieq_ne hp2
   all_goals have hn3:=ieq_ne hp3
   all_goals have hn4:=ieq_ne hp4
   all_goals (first | (exfalso;simp [tkIP,hp0,hp1,hp2,hp3,hp4,hn2,hn3,hn4] at hP;done) | skip)
   all_goals
    repeat' (first
     | with_reducible exact rfl
     | exact True.intro
     | with_reducible assumption
     | (refine ⟨hlt,?_⟩;show Next _ _ _ _;refine Next.mk (fun g=>tkIH ao n c f bo m d qf sp bt (.int ((j+1:Nat):Int)) g) _ ⟨_,allB_succ hall hP,rfl,rfl⟩ rfl fun w hw=>hw.sel [0,1,2] (by simp))
     | (refine Next.mk (fun g=>tkIR ao n c f bo m d qf sp bt j g) _ (hr _ j hlt hall hP) rfl fun w hw=>hw.sel [0,1,2] (by simp))
     | refine And.intro ?_ ?_
     | (refine fun (h:@Eq Bool _ _)=>?_;exfalso;first | (simp [hp0,hp1,hp2,hp3,hp4,hn2,hn3,hn4] at h;done) | (simp [hp0,hp1,hp2,hp3,hp4,hn2,hn3,hn4] at h;omega))
     | apply Exists.intro
     | intro _
     | omega)
  ·have hjn:n=j:=by omega
   subst hjn
   repeat' (first
    | with_reducible exact rfl
    | exact True.intro
    | (refine Next.mk (fun g=>tkIH ao n c f bo m d qf sp bt (.int (n:Int)) g) _ (hk _ hall) rfl fun w hw=>hw.sel [0,1,2] (by simp))
    | refine And.intro ?_ ?_
    | (refine fun (h:@Eq Bool _ _)=>?_;exfalso;first | (simp at h;done) | (simp at h;omega))
    | intro _)
 ·refine Next.mk (fun g=>tkIH ao n c f bo m d qf sp bt (.int ((0:Nat):Int)) g) _ ⟨_,allB_zero _,rfl,rfl⟩ h1 fun w hw=>?_
  rw [← hch]
  exact hw.sel [0,1,2] (by simp)
def stkIw (ao:Option Addr)(n c:Nat)(f:Nat→Int)(bo:Option Addr)(m d:Nat)(qf:Nat→Int)(sp:Int):LSm:=fun ts ch kk=>∃ bt,stkI ao n c f bo m d qf sp bt ts ch kk
theorem tkIw_ok (ao:Option Addr)(n c:Nat)(f:Nat→Int)(bo:Option Addr)(m d:Nat)(qf:Nat→Int)(sp:Int)(hn:n≤9223372036854775807)(hm:m=n)(X:Cx):LoopOK Tryz.prog X (theLoop Tryz.f141 0) (stkIw ao n c f bo m d qf sp):=by
 rintro ts ch kk a w ⟨bt,h⟩ hT hd hs
 exact tkI_ok ao n c f bo m d qf sp bt hn hm X ts ch kk a w h hT hd hs
def tkKH (ao:Option Addr)(n c:Nat)(f:Nat→Int)(bo:Option Addr)(m d:Nat)(qf:Nat→Int)(sp:Int)(bt q:Nat)(i:SC)(g:Nat→Value):List SV:=hdN [(1,.a (.c (.ptr 2 bt 0))),(3,.a (.c (.int (q:Int)))),(4,.a (.c i))] g 0 90
def tkKR (ao:Option Addr)(n c:Nat)(f:Nat→Int)(bo:Option Addr)(m d:Nat)(qf:Nat→Int)(sp:Int)(bt q:Nat)(j:Nat)(g:Nat→Value):List SV:=hdN [(2,.a (.c (.lit false)))] g 0 90
def tkKT (ao:Option Addr)(n c:Nat)(f:Nat→Int)(bo:Option Addr)(m d:Nat)(qf:Nat→Int)(sp:Int)(bt q:Nat):List Ch:=[.row ⟨false,ao,0,1,n,0,[fun i=>.int (f i)]⟩,.row ⟨false,bo,0,1,m,0,[fun i=>.int (qf i)]⟩,.cells bt 194 [.sl 0 ao n c,.sl 1 bo m d,.int sp]]
def tkKP (ao:Option Addr)(n c:Nat)(f:Nat→Int)(bo:Option Addr)(m d:Nat)(qf:Nat→Int)(sp:Int)(bt q:Nat)(j:Nat):Bool:=!(decide (0≤f q)&&ieq (f j) (f q))
def stkK (ao:Option Addr)(n c:Nat)(f:Nat→Int)(bo:Option Addr)(m d:Nat)(qf:Nat→Int)(sp:Int)(bt q:Nat):LSm:=fun ts ch k =>
 (ts.map SV.den=(tkKH ao n c f bo m d qf sp bt q (.il 0) (fun d=>(ts.getD d .undef).den)).map SV.den∧selC ch [0,1,2]=tkKT ao n c f bo m d qf sp bt q) ∧
  (∀ g,allB q (tkKP ao n c f bo m d qf sp bt q)=true→k (.exit 2) (tkKH ao n c f bo m d qf sp bt q (.int (q:Int)) g) (tkKT ao n c f bo m d qf sp bt q))∧(∀ g j,ltN j q→allB j (tkKP ao n c f bo m d qf sp bt q)=true→tkKP ao n c f bo m d qf sp bt q j=false→k .ret (tkKR ao n c f bo m d qf sp bt q j g) (tkKT ao n c f bo m d qf sp bt q))
theorem tkKB (ao:Option Addr)(n c:Nat)(f:Nat→Int)(bo:Option Addr)(m d:Nat)(qf:Nat→Int)(sp:Int)(bt q:Nat)(j:Nat)(g:Nat→Value)(NX:List SV→List Ch→Prop)(kx:Exit→List SV→List Ch→Prop):(exCode Tryz.prog {} 400 (theLoop Tryz.f107 1) (tkKH ao n c f bo m d qf sp bt q (.int (j:Int)) g) (tkKT ao n c f bo m d qf sp bt q) (loopK NX kx))=(
 (fun a:SV=>(fun b:SV=>(fun h:SV=>(fun k:SV=>(fun l:SV=>(fun o:SV=>(fun p:SV=>(fun r:SV=>(fun s:SV=>(fun t:SV=>(fun u:SV=>(fun v:SV=>(fun w:SV=>(fun x:SV=>(fun y:SV=>(fun z:SV=>(fun B:SV=>(fun C:SV=>(fun D:SV=>(fun E:SV=>(fun F:SV=>(fun G:SV=>(fun H:SV=>(fun I:SV=>(fun J:SV=>(fun K:SV=>(fun L:SV=>(fun M:SV=>(fun N:SV=>(fun O:SV=>(fun P:SV=>(fun Q:SV=>(fun R:SV=>(fun S:SV=>(fun T:SV=>(fun U:SV=>(fun V:SV=>(fun W:SV=>(fun X:SV=>(fun Y:SV=>(fun Z:SV=>(fun aa:SV=>(fun ab:SV=>(fun ac:SV=>(fun ad:SV=>(fun af:SV=>(fun ag:SV=>(fun ah:SV=>(fun aj:SV=>(fun ak:SV=>(fun al:SV=>(fun am:SV=>(fun an:SV=>(fun ap:SV=>(fun aq:SV=>(fun ar:SV=>(fun au:SV=>(fun av:SV=>(fun aw:SV=>(fun ax:SV=>(fun ay:Bool=>(fun az:SV=>(fun aA:SV=>(fun aB:Bool=>(fun aC:SV=>(fun aD:SV=>(fun aE:Bool=>(fun aF:Prop=>(fun aG:List Ch=>(aE=true→bt=bt∧ao=ao∧n=n∧aF∧ao=ao∧q<n∧(aB=true→bt=bt∧ao=ao∧n=n∧(0≤((j:Nat):Int)∧((j:Nat):Int)<((n:Nat):Int))∧ao=ao∧j<n∧bt=bt∧ao=ao∧n=n∧aF∧ao=ao∧q<n∧(ay=true→kx Exit.ret [vV (g 0),av,fV,aA,az,vV (g 5),vV (g 6),vV (g 7),vV (g 8),vV (g 9),au,ar,aq,ap,an,am,al,ak,aj,ah,ag,af,ad,ac,ab,aa,Z,Y,X,W,V,U,T,S,R,Q,P,O,N,M,L,K,J,I,H,G,F,E,D,C,B,z,y,x,w,v,u,t,s,r,p,o,l,k,h,b,az,aA,tV,vV (g 69),vV (g 70),av,aw,aA,ax,a,aC,tV,av,aw,az,rV 0 ao 1 j 0,iV (f j),av,aw,aA,ax,a,bV ay,tV] aG)∧(ay=false→rng (((j:Nat):Int)+(1:Int))∧NX [vV (g 0),av,vV (g 2),aA,aD,vV (g 5),vV (g 6),vV (g 7),vV (g 8),vV (g 9),au,ar,aq,ap,an,am,al,ak,aj,ah,ag,af,ad,ac,ab,aa,Z,Y,X,W,V,U,T,S,R,Q,P,O,N,M,L,K,J,I,H,G,F,E,D,C,B,z,y,x,w,v,u,t,s,r,p,o,l,k,h,b,az,aA,tV,az,aD,av,aw,aA,ax,a,aC,tV,av,aw,az,rV 0 ao 1 j 0,iV (f j),av,aw,aA,ax,a,bV ay,fV] aG))∧(aB=false→rng (((j:Nat):Int)+(1:Int))∧NX [vV (g 0),av,vV (g 2),aA,aD,vV (g 5),vV (g 6),vV (g 7),vV (g 8),vV (g 9),au,ar,aq,ap,an,am,al,ak,aj,ah,ag,af,ad,ac,ab,aa,Z,Y,X,W,V,U,T,S,R,Q,P,O,N,M,L,K,J,I,H,G,F,E,D,C,B,z,y,x,w,v,u,t,s,r,p,o,l,k,h,b,az,aA,tV,az,aD,av,aw,aA,ax,a,aC,fV,xV,xV,xV,xV,xV,xV,xV,xV,xV,xV,xV,fV] aG))∧(aE=false→kx (Exit.exit 2) [vV (g 0),av,vV (g 2),aA,az,vV (g 5),vV (g 6),vV (g 7),vV (g 8),vV (g 9),au,ar,aq,ap,an,am,al,ak,aj,ah,ag,af,ad,ac,ab,aa,Z,Y,X,W,V,U,T,S,R,Q,P,O,N,M,L,K,J,I,H,G,F,E,D,C,B,z,y,x,w,v,u,t,s,r,p,o,l,k,h,b,az,aA,fV,vV (g 69),vV (g 70),vV (g 71),vV (g 72),vV (g 73),vV (g 74),vV (g 75),vV (g 76),vV (g 77),vV (g 78),vV (g 79),vV (g 80),vV (g 81),vV (g 82),vV (g 83),vV (g 84),vV (g 85),vV (g 86),vV (g 87),vV (g 88),vV (g 89)] aG)) [Hr false ao 0 1 n 0 [fun aG=>Ci (f aG)],Hr false bo 0 1 m 0 [fun aG=>Ci (qf aG)],Hc bt 194 [Cs 0 ao n c,Cs 1 bo m d,Ci sp]]) (0≤((q:Nat):Int)∧((q:Nat):Int)<((n:Nat):Int))) (decide (((j:Nat):Int)<((q:Nat):Int)))) (iV (((j:Nat):Int)+(1:Int)))) (bV aB)) (decide ((f q) ≥ (0:Int)))) (iV ((q:Nat):Int))) (iV ((j:Nat):Int))) ((f j) == (f q))) (rV 0 ao 1 q 0)) (sV 0 ao n c)) (pV 2 bt 0)) (vV (g 10))) (vV (g 11))) (vV (g 12))) (vV (g 13))) (vV (g 14))) (vV (g 15))) (vV (g 16))) (vV (g 17))) (vV (g 18))) (vV (g 19))) (vV (g 20))) (vV (g 21))) (vV (g 22))) (vV (g 23))) (vV (g 24))) (vV (g 25))) (vV (g 26))) (vV (g 27))) (vV (g 28))) (vV (g 29))) (vV (g 30))) (vV (g 31))) (vV (g 32))) (vV (g 33))) (vV (g 34))) (vV (g 35))) (vV (g 36))) (vV (g 37))) (vV (g 38))) (vV (g 39))) (vV (g 40))) (vV (g 41))) (vV (g 42))) (vV (g 43))) (vV (g 44))) (vV (g 45))) (vV (g 46))) (vV (g 47))) (vV (g 48))) (vV (g 49))) (vV (g 50))) (vV (g 51))) (vV (g 52))) (vV (g 53))) (vV (g 54))) (vV (g 55))) (vV (g 56))) (vV (g 57))) (vV (g 58))) (vV (g 59))) (vV (g 60))) (vV (g 61))) (vV (g 62))) (vV (g 63))) (vV (g 64))) (vV (g 65))) (iV (f q))):=by kernel_rfl
theorem tkK_ok (ao:Option Addr)(n c:Nat)(f:Nat→Int)(bo:Option Addr)(m d:Nat)(qf:Nat→Int)(sp:Int)(bt q:Nat)(hn:n≤9223372036854775807)(hm:m=n)(hi:q<n)(X:Cx):LoopOK Tryz.prog X (theLoop Tryz.f107 1) (stkK ao n c f bo m d qf sp bt q):=by
 intro ts ch k a w hS hT hd hs
 obtain ⟨⟨h1,hch⟩,hk,hr⟩:=hS
 refine loop_ok mixed (E:={}) trivial (loopsOK_nil _ _ _) 400 q (fun j ts ch=>∃ g,allB j (tkKP ao n c f bo m d qf sp bt q)=true∧ts=tkKH ao n c f bo m d qf sp bt q (.int (j:Int)) g∧ch=tkKT ao n c f bo m d qf sp bt q) ?_ ?_ hT hd hs
 ·rintro j _ _ ⟨g,hall,rfl,rfl⟩ hj
  refine @Eq.mpr _ _ (tkKB ao n c f bo m d qf sp bt q j g _ _) ?_
  dsimp -zeta -proj -iota -eta -failIfUnchanged (etaStruct:=.none) only
  by_cases hlt:j<q
  ·have hjn:(0:Int)≤(j:Int)∧(j:Int)<(q:Int):=⟨by omega,by omega⟩
   clear h1
   cases hP:tkKP ao n c f bo m d qf sp bt q j
   all_goals by_cases hp0:0≤f q
   all_goals cases hp1:ieq (f j) (f q)
   all_goals have hn1:=ieq_ne hp1
   all_goals (first | (exfalso;simp [tkKP,hp0,hp1,hn1] at hP;done) | skip)
   all_goals
    repeat' (first
     | with_reducible exact rfl
     | exact True.intro
     | with_reducible assumption
     | (refine ⟨hlt,?_⟩;show Next _ _ _ _;refine Next.mk (fun g=>tkKH ao n c f bo m d qf sp bt q (.int ((j+1:Nat):Int)) g) _ ⟨_,allB_succ hall hP,rfl,rfl⟩ rfl fun w hw=>hw.sel [0,1,2] (by simp))
     | (refine Next.mk (fun g=>tkKR ao n c f bo m d qf sp bt q j g) _ (hr _ j hlt hall hP) rfl fun w hw=>hw.sel [0,1,2] (by simp))
     | refine And.intro ?_ ?_
     | (refine fun (h:@Eq Bool _ _)=>?_;exfalso;first | (simp [hp0,hp1,hn1] at h;done) | (simp [hp0,hp1,hn1] at h;omega))
     | apply Exists.intro
     | intro _
     | omega)
  ·have hjn:q=j:=by omega
   subst hjn
   repeat' (first
    | with_reducible exact rfl
    | exact True.intro
    | (refine Next.mk (fun g=>tkKH ao n c f bo m d qf sp bt q (.int (q:Int)) g) _ (hk _ hall) rfl fun w hw=>hw.sel [0,1,2] (by simp))
    | refine And.intro ?_ ?_
    | (refine fun (h:@Eq Bool _ _)=>?_;exfalso;first | (simp at h;done) | (simp at h;omega))
    | intro _)
 ·refine Next.mk (fun g=>tkKH ao n c f bo m d qf sp bt q (.int ((0:Nat):Int)) g) _ ⟨_,allB_zero _,rfl,rfl⟩ h1 fun w hw=>?_
  rw [← hch]
  exact hw.sel [0,1,2] (by simp)
def stkKv (ao:Option Addr)(n c:Nat)(f:Nat→Int)(bo:Option Addr)(m d:Nat)(qf:Nat→Int)(sp:Int)(bt:Nat):LSm:=fun ts ch kk=>∃ q,stkK ao n c f bo m d qf sp bt q ts ch kk∧ltN q n
theorem tkKv_ok (ao:Option Addr)(n c:Nat)(f:Nat→Int)(bo:Option Addr)(m d:Nat)(qf:Nat→Int)(sp:Int)(bt:Nat)(hn:n≤9223372036854775807)(hm:m=n)(X:Cx):LoopOK Tryz.prog X (theLoop Tryz.f107 1) (stkKv ao n c f bo m d qf sp bt):=by
 rintro ts ch kk a w ⟨q,h,hi⟩ hT hd hs
 exact tkK_ok ao n c f bo m d qf sp bt q hn hm hi X ts ch kk a w h hT hd hs
def tkSH (ao:Option Addr)(n c:Nat)(f:Nat→Int)(bo:Option Addr)(m d:Nat)(qf:Nat→Int)(sp:Int)(bt:Nat)(i:SC)(g:Nat→Value):List SV:=hdN [(1,.a (.c (.ptr 2 bt 0))),(3,.a (.c i))] g 0 90
def tkSR (ao:Option Addr)(n c:Nat)(f:Nat→Int)(bo:Option Addr)(m d:Nat)(qf:Nat→Int)(sp:Int)(bt:Nat)(j:Nat)(g:Nat→Value):List SV:=hdN [(2,.a (.c (.lit false)))] g 0 90
def tkST (ao:Option Addr)(n c:Nat)(f:Nat→Int)(bo:Option Addr)(m d:Nat)(qf:Nat→Int)(sp:Int)(bt:Nat):List Ch:=[.row ⟨false,ao,0,1,n,0,[fun i=>.int (f i)]⟩,.row ⟨false,bo,0,1,m,0,[fun i=>.int (qf i)]⟩,.cells bt 194 [.sl 0 ao n c,.sl 1 bo m d,.int sp]]
def tkSP (ao:Option Addr)(n c:Nat)(f:Nat→Int)(bo:Option Addr)(m d:Nat)(qf:Nat→Int)(sp:Int)(bt:Nat)(j:Nat):Bool:=btw (f j) (-1) 15&&btw (qf j) sp 100000&&!(decide (f j<0)&&!ieq (qf j) 0)&&allB j (tkKP ao n c f bo m d qf sp bt j)
def stkS (ao:Option Addr)(n c:Nat)(f:Nat→Int)(bo:Option Addr)(m d:Nat)(qf:Nat→Int)(sp:Int)(bt:Nat):LSm:=fun ts ch k =>
 (ts.map SV.den=(tkSH ao n c f bo m d qf sp bt (.il 0) (fun d=>(ts.getD d .undef).den)).map SV.den∧selC ch [0,1,2]=tkST ao n c f bo m d qf sp bt) ∧
  (∀ g,allB n (tkSP ao n c f bo m d qf sp bt)=true→k (.exit 0) (tkSH ao n c f bo m d qf sp bt (.int (n:Int)) g) (tkST ao n c f bo m d qf sp bt))∧(∀ g j,ltN j n→allB j (tkSP ao n c f bo m d qf sp bt)=true→tkSP ao n c f bo m d qf sp bt j=false→k .ret (tkSR ao n c f bo m d qf sp bt j g) (tkST ao n c f bo m d qf sp bt))
theorem tkSB (ao:Option Addr)(n c:Nat)(f:Nat→Int)(bo:Option Addr)(m d:Nat)(qf:Nat→Int)(sp:Int)(bt:Nat)(j:Nat)(g:Nat→Value)(NX:List SV→List Ch→Prop)(kx:Exit→List SV→List Ch→Prop):(exCode Tryz.prog {tb:=[(28,sBtw)],L:=[(9,stkKv ao n c f bo m d qf sp bt)]} 400 (theLoop Tryz.f107 0) (tkSH ao n c f bo m d qf sp bt (.int (j:Int)) g) (tkST ao n c f bo m d qf sp bt) (loopK NX kx))=(
 (fun a:Value=>(fun b:Value=>(fun h:Value=>(fun k:Value=>(fun l:Value=>(fun o:Value=>(fun p:Value=>(fun q:Value=>(fun r:Value=>(fun s:SV=>(fun t:SV=>(fun u:SV=>(fun v:SV=>(fun w:SV=>(fun x:SV=>(fun y:SV=>(fun z:SV=>(fun B:SV=>(fun C:SV=>(fun D:SV=>(fun E:SV=>(fun F:SV=>(fun G:SV=>(fun H:SV=>(fun I:SV=>(fun J:SV=>(fun K:SV=>(fun M:SV=>(fun N:SV=>(fun O:SV=>(fun P:SV=>(fun Q:SV=>(fun R:SV=>(fun S:SV=>(fun T:SV=>(fun U:SV=>(fun V:SV=>(fun W:SV=>(fun X:SV=>(fun Y:SV=>(fun Z:SV=>(fun aa:SV=>(fun ab:SV=>(fun ac:SV=>(fun ad:SV=>(fun af:SV=>(fun ag:SV=>(fun ah:SV=>(fun aj:SV=>(fun ak:SV=>(fun al:SV=>(fun am:SV=>(fun an:SV=>(fun ap:SV=>(fun aq:Bool=>(fun ar:Value=>(fun au:Value=>(fun av:SV=>(fun aw:SV=>(fun ax:Value=>(fun ay:Bool=>(fun az:Bool=>(fun aA:Bool=>(fun aB:Value=>(fun aC:Bool=>(fun aD:Value=>(fun aE:SV=>(fun aF:Bool=>(fun aG:Value=>(fun aH:SV=>(fun aI:Value=>(fun aJ:SV=>(fun aK:Value=>(fun aL:SV=>(fun aM:Bool=>(fun aN:Prop=>(fun aO:Prop=>(fun aP:List Ch=>bt=bt∧(aM=true→bt=bt∧ao=ao∧n=n∧aO∧ao=ao∧j<n∧True∧(aF=false→bt=bt∧bo=bo∧m=m∧aN∧bo=bo∧j<m∧bt=bt∧True∧(aC=false→bt=bt∧ao=ao∧n=n∧aO∧ao=ao∧j<n∧(ay=true→bt=bt∧bo=bo∧m=m∧aN∧bo=bo∧j<m∧(aq=true→kx Exit.ret [vV (g 0),al,fV,aw,vV (g 4),vV (g 5),vV (g 6),vV (g 7),vV (g 8),vV (g 9),ak,aj,ah,ag,af,ad,ac,ab,aa,Z,Y,X,W,V,U,aw,al,am,av,tV,T,S,al,am,aw,ap,iV (f j),aH,aL,fV,pV 2 bt 1,sV 1 bo m d,aw,an,iV (qf j),pV 2 bt 2,iV sp,aE,aJ,aJ,fV,al,am,aw,ap,iV (f j),bV ay,tV,pV 2 bt 1,sV 1 bo m d,aw,an,iV (qf j),bV aq,bV aq,tV,R,Q,P,O,N,M,K,J,I,H,G,F,E,D,C,B,z,y,x,w,v,u,t,s] aP)∧(aq=false→∃ aQ:Nat,(fun aR:SV=>(([g 0,k,g 2,au,Wi 0,g 5,g 6,g 7,g 8,g 9,g 10,g 11,g 12,g 13,g 14,g 15,g 16,g 17,g 18,g 19,g 20,g 21,g 22,g 23,g 24,au,k,r,ar,h,g 30,g 31,k,r,au,rptrV ao 1 j 0,o,aG,aK,l,b,q,au,rptrV bo 1 j 0,p,Wp bt 2,Wi sp,aD,aI,aI,l,k,r,au,rptrV ao 1 j 0,o,aB,h,b,q,au,rptrV bo 1 j 0,p,ax,ax,l,g 66,g 67,g 68,g 69,g 70,g 71,g 72,g 73,g 74,g 75,g 76,g 77,g 78,g 79,g 80,g 81,g 82,g 83,g 84,g 85,g 86,g 87,g 88,g 89]=[g 0,k,g 2,Wi ((aQ:Nat):Int),Wi 0,g 5,g 6,g 7,g 8,g 9,g 10,g 11,g 12,g 13,g 14,g 15,g 16,g 17,g 18,g 19,g 20,g 21,g 22,g 23,g 24,au,k,r,ar,h,g 30,g 31,k,r,au,rptrV ao 1 j 0,o,aG,aK,l,b,q,au,rptrV bo 1 j 0,p,Wp bt 2,Wi sp,aD,aI,aI,l,k,r,au,rptrV ao 1 j 0,o,aB,h,b,q,au,rptrV bo 1 j 0,p,ax,ax,l,g 66,g 67,g 68,g 69,g 70,g 71,g 72,g 73,g 74,g 75,g 76,g 77,g 78,g 79,g 80,g 81,g 82,g 83,g 84,g 85,g 86,g 87,g 88,g 89]∧aP=aP)∧(∀ aS:Nat→Value,(allB aQ (tkKP ao n c f bo m d qf sp bt aQ))=true→rng (((aQ:Nat):Int)+(1:Int))∧NX [vV (aS 0),al,vV (aS 2),aR,iV ((aQ:Nat):Int),vV (aS 5),vV (aS 6),vV (aS 7),vV (aS 8),vV (aS 9),vV (aS 10),vV (aS 11),vV (aS 12),vV (aS 13),vV (aS 14),vV (aS 15),vV (aS 16),vV (aS 17),vV (aS 18),vV (aS 19),vV (aS 20),vV (aS 21),vV (aS 22),vV (aS 23),vV (aS 24),vV (aS 25),vV (aS 26),vV (aS 27),vV (aS 28),vV (aS 29),iV ((aQ:Nat):Int),aR,vV (aS 32),vV (aS 33),vV (aS 34),vV (aS 35),vV (aS 36),vV (aS 37),vV (aS 38),vV (aS 39),vV (aS 40),vV (aS 41),vV (aS 42),vV (aS 43),vV (aS 44),vV (aS 45),vV (aS 46),vV (aS 47),vV (aS 48),vV (aS 49),vV (aS 50),vV (aS 51),vV (aS 52),vV (aS 53),vV (aS 54),vV (aS 55),vV (aS 56),vV (aS 57),vV (aS 58),vV (aS 59),vV (aS 60),vV (aS 61),vV (aS 62),vV (aS 63),vV (aS 64),vV (aS 65),vV (aS 66),vV (aS 67),vV (aS 68),vV (aS 69),vV (aS 70),vV (aS 71),vV (aS 72),vV (aS 73),vV (aS 74),vV (aS 75),vV (aS 76),vV (aS 77),vV (aS 78),vV (aS 79),vV (aS 80),vV (aS 81),vV (aS 82),vV (aS 83),vV (aS 84),vV (aS 85),vV (aS 86),vV (aS 87),vV (aS 88),vV (aS 89)] aP)∧∀(aS:Nat→Value) (aT:Nat),aT<aQ→(allB aT (tkKP ao n c f bo m d qf sp bt aQ))=true→(tkKP ao n c f bo m d qf sp bt aQ aT)=false→kx Exit.ret [vV (aS 0),vV (aS 1),fV,vV (aS 3),vV (aS 4),vV (aS 5),vV (aS 6),vV (aS 7),vV (aS 8),vV (aS 9),vV (aS 10),vV (aS 11),vV (aS 12),vV (aS 13),vV (aS 14),vV (aS 15),vV (aS 16),vV (aS 17),vV (aS 18),vV (aS 19),vV (aS 20),vV (aS 21),vV (aS 22),vV (aS 23),vV (aS 24),vV (aS 25),vV (aS 26),vV (aS 27),vV (aS 28),vV (aS 29),vV (aS 30),vV (aS 31),vV (aS 32),vV (aS 33),vV (aS 34),vV (aS 35),vV (aS 36),vV (aS 37),vV (aS 38),vV (aS 39),vV (aS 40),vV (aS 41),vV (aS 42),vV (aS 43),vV (aS 44),vV (aS 45),vV (aS 46),vV (aS 47),vV (aS 48),vV (aS 49),vV (aS 50),vV (aS 51),vV (aS 52),vV (aS 53),vV (aS 54),vV (aS 55),vV (aS 56),vV (aS 57),vV (aS 58),vV (aS 59),vV (aS 60),vV (aS 61),vV (aS 62),vV (aS 63),vV (aS 64),vV (aS 65),vV (aS 66),vV (aS 67),vV (aS 68),vV (aS 69),vV (aS 70),vV (aS 71),vV (aS 72),vV (aS 73),vV (aS 74),vV (aS 75),vV (aS 76),vV (aS 77),vV (aS 78),vV (aS 79),vV (aS 80),vV (aS 81),vV (aS 82),vV (aS 83),vV (aS 84),vV (aS 85),vV (aS 86),vV (aS 87),vV (aS 88),vV (aS 89)] aP)∧aQ<n) (iV (((aQ:Nat):Int)+(1:Int)))))∧(ay=false→∃ aQ:Nat,(fun aR:SV=>(([g 0,k,g 2,au,Wi 0,g 5,g 6,g 7,g 8,g 9,g 10,g 11,g 12,g 13,g 14,g 15,g 16,g 17,g 18,g 19,g 20,g 21,g 22,g 23,g 24,au,k,r,ar,h,g 30,g 31,k,r,au,rptrV ao 1 j 0,o,aG,aK,l,b,q,au,rptrV bo 1 j 0,p,Wp bt 2,Wi sp,aD,aI,aI,l,k,r,au,rptrV ao 1 j 0,o,aB,l,a,a,a,a,a,a,l,l,g 66,g 67,g 68,g 69,g 70,g 71,g 72,g 73,g 74,g 75,g 76,g 77,g 78,g 79,g 80,g 81,g 82,g 83,g 84,g 85,g 86,g 87,g 88,g 89]=[g 0,k,g 2,Wi ((aQ:Nat):Int),Wi 0,g 5,g 6,g 7,g 8,g 9,g 10,g 11,g 12,g 13,g 14,g 15,g 16,g 17,g 18,g 19,g 20,g 21,g 22,g 23,g 24,au,k,r,ar,h,g 30,g 31,k,r,au,rptrV ao 1 j 0,o,aG,aK,l,b,q,au,rptrV bo 1 j 0,p,Wp bt 2,Wi sp,aD,aI,aI,l,k,r,au,rptrV ao 1 j 0,o,aB,l,a,a,a,a,a,a,l,l,g 66,g 67,g 68,g 69,g 70,g 71,g 72,g 73,g 74,g 75,g 76,g 77,g 78,g 79,g 80,g 81,g 82,g 83,g 84,g 85,g 86,g 87,g 88,g 89]∧aP=aP)∧(∀ aS:Nat→Value,(allB aQ (tkKP ao n c f bo m d qf sp bt aQ))=true→rng (((aQ:Nat):Int)+(1:Int))∧NX [vV (aS 0),al,vV (aS 2),aR,iV ((aQ:Nat):Int),vV (aS 5),vV (aS 6),vV (aS 7),vV (aS 8),vV (aS 9),vV (aS 10),vV (aS 11),vV (aS 12),vV (aS 13),vV (aS 14),vV (aS 15),vV (aS 16),vV (aS 17),vV (aS 18),vV (aS 19),vV (aS 20),vV (aS 21),vV (aS 22),vV (aS 23),vV (aS 24),vV (aS 25),vV (aS 26),vV (aS 27),vV (aS 28),vV (aS 29),iV ((aQ:Nat):Int),aR,vV (aS 32),vV (aS 33),vV (aS 34),vV (aS 35),vV (aS 36),vV (aS 37),vV (aS 38),vV (aS 39),vV (aS 40),vV (aS 41),vV (aS 42),vV (aS 43),vV (aS 44),vV (aS 45),vV (aS 46),vV (aS 47),vV (aS 48),vV (aS 49),vV (aS 50),vV (aS 51),vV (aS 52),vV (aS 53),vV (aS 54),vV (aS 55),vV (aS 56),vV (aS 57),vV (aS 58),vV (aS 59),vV (aS 60),vV (aS 61),vV (aS 62),vV (aS 63),vV (aS 64),vV (aS 65),vV (aS 66),vV (aS 67),vV (aS 68),vV (aS 69),vV (aS 70),vV (aS 71),vV (aS 72),vV (aS 73),vV (aS 74),vV (aS 75),vV (aS 76),vV (aS 77),vV (aS 78),vV (aS 79),vV (aS 80),vV (aS 81),vV (aS 82),vV (aS 83),vV (aS 84),vV (aS 85),vV (aS 86),vV (aS 87),vV (aS 88),vV (aS 89)] aP)∧∀(aS:Nat→Value) (aT:Nat),aT<aQ→(allB aT (tkKP ao n c f bo m d qf sp bt aQ))=true→(tkKP ao n c f bo m d qf sp bt aQ aT)=false→kx Exit.ret [vV (aS 0),vV (aS 1),fV,vV (aS 3),vV (aS 4),vV (aS 5),vV (aS 6),vV (aS 7),vV (aS 8),vV (aS 9),vV (aS 10),vV (aS 11),vV (aS 12),vV (aS 13),vV (aS 14),vV (aS 15),vV (aS 16),vV (aS 17),vV (aS 18),vV (aS 19),vV (aS 20),vV (aS 21),vV (aS 22),vV (aS 23),vV (aS 24),vV (aS 25),vV (aS 26),vV (aS 27),vV (aS 28),vV (aS 29),vV (aS 30),vV (aS 31),vV (aS 32),vV (aS 33),vV (aS 34),vV (aS 35),vV (aS 36),vV (aS 37),vV (aS 38),vV (aS 39),vV (aS 40),vV (aS 41),vV (aS 42),vV (aS 43),vV (aS 44),vV (aS 45),vV (aS 46),vV (aS 47),vV (aS 48),vV (aS 49),vV (aS 50),vV (aS 51),vV (aS 52),vV (aS 53),vV (aS 54),vV (aS 55),vV (aS 56),vV (aS 57),vV (aS 58),vV (aS 59),vV (aS 60),vV (aS 61),vV (aS 62),vV (aS 63),vV (aS 64),vV (aS 65),vV (aS 66),vV (aS 67),vV (aS 68),vV (aS 69),vV (aS 70),vV (aS 71),vV (aS 72),vV (aS 73),vV (aS 74),vV (aS 75),vV (aS 76),vV (aS 77),vV (aS 78),vV (aS 79),vV (aS 80),vV (aS 81),vV (aS 82),vV (aS 83),vV (aS 84),vV (aS 85),vV (aS 86),vV (aS 87),vV (aS 88),vV (aS 89)] aP)∧aQ<n) (iV (((aQ:Nat):Int)+(1:Int)))))∧(aC=true→kx Exit.ret [vV (g 0),al,fV,aw,vV (g 4),vV (g 5),vV (g 6),vV (g 7),vV (g 8),vV (g 9),ak,aj,ah,ag,af,ad,ac,ab,aa,Z,Y,X,W,V,U,aw,al,am,av,tV,T,S,al,am,aw,ap,iV (f j),aH,aL,fV,pV 2 bt 1,sV 1 bo m d,aw,an,iV (qf j),pV 2 bt 2,iV sp,aE,aJ,aJ,tV,xV,xV,xV,xV,xV,xV,xV,xV,xV,xV,xV,xV,xV,xV,tV,R,Q,P,O,N,M,K,J,I,H,G,F,E,D,C,B,z,y,x,w,v,u,t,s] aP))∧(aF=true→kx Exit.ret [vV (g 0),al,fV,aw,vV (g 4),vV (g 5),vV (g 6),vV (g 7),vV (g 8),vV (g 9),ak,aj,ah,ag,af,ad,ac,ab,aa,Z,Y,X,W,V,U,aw,al,am,av,tV,T,S,al,am,aw,ap,iV (f j),aH,aL,tV,xV,xV,xV,xV,xV,xV,xV,xV,xV,tV,tV,xV,xV,xV,xV,xV,xV,xV,xV,xV,xV,xV,xV,xV,xV,tV,R,Q,P,O,N,M,K,J,I,H,G,F,E,D,C,B,z,y,x,w,v,u,t,s] aP))∧(aM=false→kx (Exit.exit 0) [vV (g 0),al,vV (g 2),aw,vV (g 4),vV (g 5),vV (g 6),vV (g 7),vV (g 8),vV (g 9),ak,aj,ah,ag,af,ad,ac,ab,aa,Z,Y,X,W,V,U,aw,al,am,av,fV,T,S,vV (g 32),vV (g 33),vV (g 34),vV (g 35),vV (g 36),vV (g 37),vV (g 38),vV (g 39),vV (g 40),vV (g 41),vV (g 42),vV (g 43),vV (g 44),vV (g 45),vV (g 46),vV (g 47),vV (g 48),vV (g 49),vV (g 50),vV (g 51),vV (g 52),vV (g 53),vV (g 54),vV (g 55),vV (g 56),vV (g 57),vV (g 58),vV (g 59),vV (g 60),vV (g 61),vV (g 62),vV (g 63),vV (g 64),vV (g 65),R,Q,P,O,N,M,K,J,I,H,G,F,E,D,C,B,z,y,x,w,v,u,t,s] aP)) [Hr false ao 0 1 n 0 [fun aP=>Ci (f aP)],Hr false bo 0 1 m 0 [fun aP=>Ci (qf aP)],Hc bt 194 [Cs 0 ao n c,Cs 1 bo m d,Ci sp]]) (0≤((j:Nat):Int)∧((j:Nat):Int)<((n:Nat):Int))) (0≤((j:Nat):Int)∧((j:Nat):Int)<((m:Nat):Int))) (decide (((j:Nat):Int)<((n:Nat):Int)))) (bV aF)) (Wb aF)) (bV aC)) (Wb aC)) (bV aA)) (Wb aA)) (! aA)) (bV az)) (Wb az)) (! az)) (Wb ay)) (btw (f j) ((-1):Int) (15:Int))) (btw (qf j) sp (100000:Int))) (decide ((f j)<(0:Int)))) (Wb aq)) (iV ((j:Nat):Int))) (iV ((n:Nat):Int))) (Wi ((j:Nat):Int))) (Wi ((n:Nat):Int))) ((qf j) != (0:Int))) (rV 0 ao 1 j 0)) (rV 1 bo 1 j 0)) (sV 0 ao n c)) (pV 2 bt 0)) (vV (g 10))) (vV (g 11))) (vV (g 12))) (vV (g 13))) (vV (g 14))) (vV (g 15))) (vV (g 16))) (vV (g 17))) (vV (g 18))) (vV (g 19))) (vV (g 20))) (vV (g 21))) (vV (g 22))) (vV (g 23))) (vV (g 24))) (vV (g 30))) (vV (g 31))) (vV (g 66))) (vV (g 67))) (vV (g 68))) (vV (g 69))) (vV (g 70))) (vV (g 71))) (vV (g 72))) (vV (g 73))) (vV (g 74))) (vV (g 75))) (vV (g 76))) (vV (g 77))) (vV (g 78))) (vV (g 79))) (vV (g 80))) (vV (g 81))) (vV (g 82))) (vV (g 83))) (vV (g 84))) (vV (g 85))) (vV (g 86))) (vV (g 87))) (vV (g 88))) (vV (g 89))) (Ws ao n c)) (Ws bo m d)) (Wi (qf j))) (Wi (f j))) (Wb false)) (Wp bt 0)) (Wb true)) (Wp bt 1)) (Wu [])):=by kernel_rfl
theorem tkS_ok (ao:Option Addr)(n c:Nat)(f:Nat→Int)(bo:Option Addr)(m d:Nat)(qf:Nat→Int)(sp:Int)(bt:Nat)(hn:n≤9223372036854775807)(hm:m=n)(X:Cx):LoopOK Tryz.prog X (theLoop Tryz.f107 0) (stkS ao n c f bo m d qf sp bt):=by
 intro ts ch k a w hS hT hd hs
 obtain ⟨⟨h1,hch⟩,hk,hr⟩:=hS
 refine loop_ok mixed (E:={tb:=[(28,sBtw)],L:=[(9,stkKv ao n c f bo m d qf sp bt)]}) ⟨sBtwS_ok,trivial⟩ (body_loop (by kernel_rfl) (by kernel_rfl) (tkKv_ok ao n c f bo m d qf sp bt hn hm X)) 400 n (fun j ts ch=>∃ g,allB j (tkSP ao n c f bo m d qf sp bt)=true∧ts=tkSH ao n c f bo m d qf sp bt (.int (j:Int)) g∧ch=tkST ao n c f bo m d qf sp bt) ?_ ?_ hT hd hs
 ·rintro j _ _ ⟨g,hall,rfl,rfl⟩ hj
  refine @Eq.mpr _ _ (tkSB ao n c f bo m d qf sp bt j g _ _) ?_
  dsimp -zeta -proj -iota -eta -failIfUnchanged (etaStruct:=.none) only
  by_cases hlt:j<n
  ·have hjn:(0:Int)≤(j:Int)∧(j:Int)<(n:Int):=⟨by omega,by omega⟩
   clear h1
   cases hP:tkSP ao n c f bo m d qf sp bt j
   all_goals cases hp0:btw (f j) (-1) 15
   all_goals cases hp1:btw (qf j) sp 100000
   all_goals by_cases hp2:f j<0
   all_goals cases hp3:ieq (qf j) 0
   all_goals cases hp4:allB j (tkKP ao n c f bo m d qf sp bt j)
   all_goals have hn3:=ieq_ne hp3
   all_goals (first | (exfalso;simp [tkSP,hp0,hp1,hp2,hp3,hp4,hn3] at hP;done) | skip)
   all_goals
    repeat' (first
     | with_reducible exact rfl
     | exact True.intro
     | with_reducible assumption
     | (refine ⟨hlt,?_⟩;show Next _ _ _ _;refine Next.mk (fun g=>tkSH ao n c f bo m d qf sp bt (.int ((j+1:Nat):Int)) g) _ ⟨_,allB_succ hall hP,rfl,rfl⟩ rfl fun w hw=>hw.sel [0,1,2] (by simp))
     | (refine Next.mk (fun g=>tkSR ao n c f bo m d qf sp bt j g) _ (hr _ j hlt hall hP) rfl fun w hw=>hw.sel [0,1,2] (by simp))
     | refine And.intro ?_ ?_
     | (refine fun (h:@Eq Bool _ _)=>?_;exfalso;first | (simp [hp0,hp1,hp2,hp3,hp4,hn3] at h;done) | (simp [hp0,hp1,hp2,hp3,hp4,hn3] at h;omega))
     | (intro g k hk _ hq;exfalso;rw [allB_get hp4 hk] at hq;cases hq)
     | (show @Eq (List _) _ _;exact rfl)
     | apply Exists.intro
     | apply Exists.intro
     | intro _
     | omega)
  ·have hjn:n=j:=by omega
   subst hjn
   repeat' (first
    | with_reducible exact rfl
    | exact True.intro
    | (refine Next.mk (fun g=>tkSH ao n c f bo m d qf sp bt (.int (n:Int)) g) _ (hk _ hall) rfl fun w hw=>hw.sel [0,1,2] (by simp))
    | refine And.intro ?_ ?_
    | (refine fun (h:@Eq Bool _ _)=>?_;exfalso;first | (simp at h;done) | (simp at h;omega))
    | intro _)
 ·refine Next.mk (fun g=>tkSH ao n c f bo m d qf sp bt (.int ((0:Nat):Int)) g) _ ⟨_,allB_zero _,rfl,rfl⟩ h1 fun w hw=>?_
  rw [← hch]
  exact hw.sel [0,1,2] (by simp)
def stkSw (ao:Option Addr)(n c:Nat)(f:Nat→Int)(bo:Option Addr)(m d:Nat)(qf:Nat→Int)(sp:Int):LSm:=fun ts ch kk=>∃ bt,stkS ao n c f bo m d qf sp bt ts ch kk
theorem tkSw_ok (ao:Option Addr)(n c:Nat)(f:Nat→Int)(bo:Option Addr)(m d:Nat)(qf:Nat→Int)(sp:Int)(hn:n≤9223372036854775807)(hm:m=n)(X:Cx):LoopOK Tryz.prog X (theLoop Tryz.f107 0) (stkSw ao n c f bo m d qf sp):=by
 rintro ts ch kk a w ⟨bt,h⟩ hT hd hs
 exact tkS_ok ao n c f bo m d qf sp bt hn hm X ts ch kk a w h hT hd hs
theorem trk_same (n:Nat)(f:Nat→Int)(qf:Nat→Int)(sp:Int):allB n (fun j=>btw (f j) (-1) 15&&btw (qf j) sp 100000&&!(ieq (f j) (-1)&&!ieq (qf j) 0)&&(ieq (f j) (-1) || ieq (itI n f (f j)) (j:Int)))=allB n (fun j=>btw (f j) (-1) 15&&btw (qf j) sp 100000&&!(decide (f j<0)&&!ieq (qf j) 0)&&allB j (fun k=>!(decide (0≤f j)&&ieq (f k) (f j)))):=by
 refine allB_congr fun j hj=>?_
 have h1:ieq (itI n f (f j)) (j:Int)=allB j (fun k=>!ieq (f k) (f j)):=fidx_at (p:=fun k=>ieq (f k) (f j)) hj (beq_self_eq_true _)
 rw [h1]
 cases h2:btw (f j) (-1) 15
 ·simp
 ·simp only [btw,Bool.and_eq_true,decide_eq_true_eq] at h2
  cases h3:ieq (f j) (-1)
  ·have h4:¬ f j<0:=by simp [ieq] at h3;omega
   have h5:(0:Int)≤f j:=by omega
   simp [h4,h5]
  ·have h4:f j<0:=by simp [ieq] at h3;omega
   have h5:¬ (0:Int)≤f j:=by omega
   have h6:allB j (fun _=>true)=true:=List.all_eq_true.2 fun _ _=>rfl
   simp [h4,h5,h6]
def stkqI (ao:Option Addr)(n c:Nat)(f:Nat→Int)(bo:Option Addr)(m d:Nat)(qf:Nat→Int)(sp:Int):LSm:=fun ts ch kk=>eqN m n∧stkIw ao n c f bo m d qf sp ts ch kk
theorem tkqI_ok (ao:Option Addr)(n c:Nat)(f:Nat→Int)(bo:Option Addr)(m d:Nat)(qf:Nat→Int)(sp:Int)(hn:n≤9223372036854775807)(X:Cx):LoopOK Tryz.prog X (theLoop Tryz.f141 0) (stkqI ao n c f bo m d qf sp):=by
 rintro ts ch kk a w ⟨hm,h⟩ hT hd hs
 exact tkIw_ok ao n c f bo m d qf sp hn hm X ts ch kk a w h hT hd hs
theorem trkI_T (ao:Option Addr)(n c:Nat)(f:Nat→Int)(bo:Option Addr)(m d:Nat)(qf:Nat→Int)(sp:Int):(exFn Tryz.prog {tb:=[(61,sBtw)],L:=[(4,stkqI ao n c f bo m d qf sp)]} 400 Tryz.f141 ([.a (.agg [.sl 0 ao n c,.sl 1 bo m d,.int sp])]) ([.row ⟨false,ao,0,1,n,0,[fun i=>.int (f i)]⟩,.row ⟨false,bo,0,1,m,0,[fun i=>.int (qf i)]⟩]) (fun y_ _=>y_.den=.bool (trkB n f m qf sp)))=(
 (fun b:Value=>(fun g:Value=>(fun h:Value=>(fun j:Value=>(fun k:Value=>(fun l:Bool=>(fun o:Bool=>(fun p:Value=>(fun q:List SC=>(fun r:Value=>(fun s:Bool=>(fun t:Value=>(fun u:Bool=>(fun v:Ch=>(fun w:Ch=>(fun x:Value=>(fun y:Bool=>(fun z:Value=>(fun B:Value=>∀ C:Nat,(fun D:Value=>C=C∧(y=false→C=C∧C=C∧(s=false→C=C∧(o=true→g=k)∧(o=false→C=C∧eqN m n∧∃ E:Nat,([r,D,g,b,b,D,h,j,z,B,g,Wp C 1,Ws bo m d,Wi ((m:Nat):Int),D,h,j,x,x,g,Wp C 2,Wi sp,p,t,g,D,h,j,Wi 0,b,b,b,b,b,b,b,b,b,b,b,b,b,b,b,b,b,b,b,b,b,b,b,b,b,b,b,b,b,b,b,b,b,b,b,b,b,b,b,b,b,b,b]=[r,Wp E 0,g,b,b,D,h,j,z,B,g,Wp C 1,Ws bo m d,Wi ((m:Nat):Int),D,h,j,x,x,g,Wp C 2,Wi sp,p,t,g,D,h,j,Wi 0,b,b,b,b,b,b,b,b,b,b,b,b,b,b,b,b,b,b,b,b,b,b,b,b,b,b,b,b,b,b,b,b,b,b,b,b,b,b,b,b,b,b,b]∧[v,w,Hc C 194 q]=[v,w,Hc E 194 q])∧(∀ F:Nat→Value,(allB n (tkIP ao n c f bo m d qf sp E))=true→(Wb true)=k)∧∀(F:Nat→Value) (G:Nat),G<n→(allB G (tkIP ao n c f bo m d qf sp E))=true→(tkIP ao n c f bo m d qf sp E G)=false→g=k))∧(s=true→g=k))∧(y=true→g=k)) (Wp C 0)) (Wb y)) (Wb u)) (! u)) (Wb s)) (Hr false bo 0 1 m 0 [fun w=>Ci (qf w)])) (Hr false ao 0 1 n 0 [fun v=>Ci (f v)])) (btw ((n:Nat):Int) (1:Int) (16:Int))) (Wb o)) (((m:Nat):Int) != ((n:Nat):Int))) (Wa [h,Ws bo m d,Wi sp])) [Cs 0 ao n c,Cs 1 bo m d,Ci sp]) (Wb l)) (! l)) (btw sp (0:Int) (100000:Int))) (Wb (trkB n f m qf sp))) (Wi ((n:Nat):Int))) (Ws ao n c)) (Wb false)) (Wu [])):=by kernel_rfl
theorem trkI_any (ao:Option Addr)(n c:Nat)(f:Nat→Int)(bo:Option Addr)(m d:Nat)(qf:Nat→Int)(sp:Int)(w:World)(hn:n≤9223372036854775807)(hm0:m≤9223372036854775807)(h0:Row.sat w ⟨false,ao,0,1,n,0,[fun i=>.int (f i)]⟩)(h1:Row.sat w ⟨false,bo,0,1,m,0,[fun i=>.int (qf i)]⟩):Calls Tryz.prog 141 #[.agg #[.slice ao n c,.slice bo m d,.int .i64 sp]] w fun e w'=>e=.returned (.bool (trkB n f m qf sp))∧Below w.heap.size w w':=by
 refine fn_ok mixed (E:={tb:=[(61,sBtw)],L:=[(4,stkqI ao n c f bo m d qf sp)]}) ⟨sBtwI_ok,trivial⟩ Tryz.func141 (one_loop (by kernel_rfl) (by kernel_rfl) (tkqI_ok ao n c f bo m d qf sp hn _)) (@Eq.mpr _ _ (trkI_T ao n c f bo m d qf sp) ?_) (HS.rows (fun _=>False) [⟨false,ao,0,1,n,0,[fun i=>.int (f i)]⟩,⟨false,bo,0,1,m,0,[fun i=>.int (qf i)]⟩] (by simpa using ⟨h0,h1⟩)) (fun v ch' w' hv hs=>⟨by rw [hv],hs.below⟩)
 dsimp -zeta -proj -iota -eta -failIfUnchanged (etaStruct:=.none) only
 clear h0 h1
 have hc1:allB n (fun j=>btw (f j) (-1) 15&&btw (qf j) sp 100000&&!(ieq (f j) (-1)&&!ieq (qf j) 0)&&(ieq (f j) (-1) || ieq (itI n f (f j)) (j:Int)))=allB n (fun j=>btw (f j) (-1) 15&&btw (qf j) sp 100000&&!(decide (f j<0)&&!ieq (qf j) 0)&&allB j (fun k=>!(decide (0≤f j)&&ieq (f k) (f j)))):=trk_same n f qf sp
 cases h1:btw (n:Int) 1 16
 ·have hok:trkB n f m qf sp=false:=by simp [trkB,h1]
  repeat' (first
   | with_reducible exact rfl
   | exact True.intro
   | with_reducible assumption
   | (simp only [hok];done)
   | refine And.intro ?_ ?_
   | apply Exists.intro
   | (refine fun (h:@Eq Bool _ _)=>?_;exfalso;first | (simp [h1] at h;done) | (simp [h1] at h;omega))
   | intro _
   | omega
   | exact rfl)
 ·by_cases h2:m=n
  ·subst h2
   cases h3:btw sp 0 100000
   ·have hok:trkB m f m qf sp=false:=by simp [trkB,h3]
    repeat' (first
     | with_reducible exact rfl
     | exact True.intro
     | with_reducible assumption
     | (simp only [hok];done)
     | refine And.intro ?_ ?_
     | apply Exists.intro
     | (refine fun (h:@Eq Bool _ _)=>?_;exfalso;first | (simp [h1,h3] at h;done) | (simp [h1,h3] at h;omega))
     | intro _
     | omega
     | exact rfl)
   ·have hrd:trkB m f m qf sp=allB m (fun j=>btw (f j) (-1) 15&&btw (qf j) sp 100000&&!(decide (f j<0)&&!ieq (qf j) 0)&&allB j (fun k=>!(decide (0≤f j)&&ieq (f k) (f j)))):=by simp [trkB,h1,h3]
    repeat' (first
     | with_reducible exact rfl
     | exact True.intro
     | with_reducible assumption
     | (intro g (ha_:allB m _=true);have e1:allB m (fun j=>btw (f j) (-1) 15&&btw (qf j) sp 100000&&!(decide (f j<0)&&!ieq (qf j) 0)&&allB j (fun k=>!(decide (0≤f j)&&ieq (f k) (f j))))=true:=hc1.symm.trans ha_;clear ha_)
     | (intro g j hj ha hP;have e0_:allB m (fun j=>btw (f j) (-1) 15&&btw (qf j) sp 100000&&!(decide (f j<0)&&!ieq (qf j) 0)&&allB j (fun k=>!(decide (0≤f j)&&ieq (f k) (f j))))=false:=hc1.symm.trans (allB_no (p:=fun j=>btw (f j) (-1) 15&&btw (qf j) sp 100000&&!(ieq (f j) (-1)&&!ieq (qf j) 0)&&(ieq (f j) (-1) || ieq (itI m f (f j)) (j:Int))) hj hP);exact congrArg Value.bool (by rw [hrd,e0_]))
     | (exact congrArg Value.bool (by rw [hrd,e1]))
     | (show @Eq (List _) _ _;exact rfl)
     | refine And.intro ?_ ?_
     | apply Exists.intro
     | (refine fun (h:@Eq Bool _ _)=>?_;exfalso;first | (simp [h1,h3] at h;done) | (simp [h1,h3] at h;omega))
     | intro _
     | omega
     | exact rfl)
  ·have hne:¬ (m:Int)=(n:Int):=by omega
   have hok:trkB n f m qf sp=false:=by simp [trkB,ieq,hne]
   repeat' (first
    | with_reducible exact rfl
    | exact True.intro
    | with_reducible assumption
    | (simp only [hok];done)
    | refine And.intro ?_ ?_
    | apply Exists.intro
    | (refine fun (h:@Eq Bool _ _)=>?_;exfalso;first | (simp [h1,hne] at h;done) | (simp [h1,hne] at h;omega))
    | intro _
    | omega
    | exact rfl)
def stkqS (ao:Option Addr)(n c:Nat)(f:Nat→Int)(bo:Option Addr)(m d:Nat)(qf:Nat→Int)(sp:Int):LSm:=fun ts ch kk=>eqN m n∧stkSw ao n c f bo m d qf sp ts ch kk
theorem tkqS_ok (ao:Option Addr)(n c:Nat)(f:Nat→Int)(bo:Option Addr)(m d:Nat)(qf:Nat→Int)(sp:Int)(hn:n≤9223372036854775807)(X:Cx):LoopOK Tryz.prog X (theLoop Tryz.f107 0) (stkqS ao n c f bo m d qf sp):=by
 rintro ts ch kk a w ⟨hm,h⟩ hT hd hs
 exact tkSw_ok ao n c f bo m d qf sp hn hm X ts ch kk a w h hT hd hs
theorem trkS_T (ao:Option Addr)(n c:Nat)(f:Nat→Int)(bo:Option Addr)(m d:Nat)(qf:Nat→Int)(sp:Int):(exFn Tryz.prog {tb:=[(28,sBtw)],L:=[(4,stkqS ao n c f bo m d qf sp)]} 400 Tryz.f107 ([.a (.agg [.sl 0 ao n c,.sl 1 bo m d,.int sp])]) ([.row ⟨false,ao,0,1,n,0,[fun i=>.int (f i)]⟩,.row ⟨false,bo,0,1,m,0,[fun i=>.int (qf i)]⟩]) (fun y_ _=>y_.den=.bool (trkB n f m qf sp)))=(
 (fun b:Value=>(fun g:Value=>(fun h:Value=>(fun j:Value=>(fun k:Value=>(fun l:Bool=>(fun o:Bool=>(fun p:Value=>(fun q:List SC=>(fun r:Value=>(fun s:Bool=>(fun t:Value=>(fun u:Bool=>(fun v:Ch=>(fun w:Ch=>(fun x:Value=>(fun y:Bool=>(fun z:Value=>(fun B:Value=>∀ C:Nat,(fun D:Value=>C=C∧(y=false→C=C∧C=C∧(s=false→C=C∧(o=true→g=k)∧(o=false→eqN m n∧∃ E:Nat,([r,D,g,Wi 0,b,D,h,j,z,B,g,D,h,j,Wp C 1,Ws bo m d,Wi ((m:Nat):Int),x,x,g,Wp C 2,Wi sp,p,t,g,b,b,b,b,b,b,b,b,b,b,b,b,b,b,b,b,b,b,b,b,b,b,b,b,b,b,b,b,b,b,b,b,b,b,b,b,b,b,b,b,b,b,b,b,b,b,b,b,b,b,b,b,b,b,b,b,b,b,b,b,b,b,b,b,b]=[r,Wp E 0,g,Wi 0,b,D,h,j,z,B,g,D,h,j,Wp C 1,Ws bo m d,Wi ((m:Nat):Int),x,x,g,Wp C 2,Wi sp,p,t,g,b,b,b,b,b,b,b,b,b,b,b,b,b,b,b,b,b,b,b,b,b,b,b,b,b,b,b,b,b,b,b,b,b,b,b,b,b,b,b,b,b,b,b,b,b,b,b,b,b,b,b,b,b,b,b,b,b,b,b,b,b,b,b,b,b]∧[v,w,Hc C 194 q]=[v,w,Hc E 194 q])∧(∀ F:Nat→Value,(allB n (tkSP ao n c f bo m d qf sp E))=true→(Wb true)=k)∧∀(F:Nat→Value) (G:Nat),G<n→(allB G (tkSP ao n c f bo m d qf sp E))=true→(tkSP ao n c f bo m d qf sp E G)=false→g=k))∧(s=true→g=k))∧(y=true→g=k)) (Wp C 0)) (Wb y)) (Wb u)) (! u)) (Wb s)) (Hr false bo 0 1 m 0 [fun w=>Ci (qf w)])) (Hr false ao 0 1 n 0 [fun v=>Ci (f v)])) (btw ((n:Nat):Int) (1:Int) (16:Int))) (Wb o)) (((n:Nat):Int) != ((m:Nat):Int))) (Wa [h,Ws bo m d,Wi sp])) [Cs 0 ao n c,Cs 1 bo m d,Ci sp]) (Wb l)) (! l)) (btw sp (0:Int) (100000:Int))) (Wb (trkB n f m qf sp))) (Wi ((n:Nat):Int))) (Ws ao n c)) (Wb false)) (Wu [])):=by kernel_rfl
theorem trkS_any (ao:Option Addr)(n c:Nat)(f:Nat→Int)(bo:Option Addr)(m d:Nat)(qf:Nat→Int)(sp:Int)(w:World)(hn:n≤9223372036854775807)(hm0:m≤9223372036854775807)(h0:Row.sat w ⟨false,ao,0,1,n,0,[fun i=>.int (f i)]⟩)(h1:Row.sat w ⟨false,bo,0,1,m,0,[fun i=>.int (qf i)]⟩):Calls Tryz.prog 107 #[.agg #[.slice ao n c,.slice bo m d,.int .i64 sp]] w fun e w'=>e=.returned (.bool (trkB n f m qf sp))∧Below w.heap.size w w':=by
 refine fn_ok mixed (E:={tb:=[(28,sBtw)],L:=[(4,stkqS ao n c f bo m d qf sp)]}) ⟨sBtwS_ok,trivial⟩ Tryz.func107 (first_loop (rest:=[9]) (by kernel_rfl) (by decide) (tkqS_ok ao n c f bo m d qf sp hn _)) (@Eq.mpr _ _ (trkS_T ao n c f bo m d qf sp) ?_) (HS.rows (fun _=>False) [⟨false,ao,0,1,n,0,[fun i=>.int (f i)]⟩,⟨false,bo,0,1,m,0,[fun i=>.int (qf i)]⟩] (by simpa using ⟨h0,h1⟩)) (fun v ch' w' hv hs=>⟨by rw [hv],hs.below⟩)
 dsimp -zeta -proj -iota -eta -failIfUnchanged (etaStruct:=.none) only
 clear h0 h1
 have hc1:allB n (fun j=>btw (f j) (-1) 15&&btw (qf j) sp 100000&&!(decide (f j<0)&&!ieq (qf j) 0)&&allB j (fun k=>!(decide (0≤f j)&&ieq (f k) (f j))))=allB n (fun j=>btw (f j) (-1) 15&&btw (qf j) sp 100000&&!(decide (f j<0)&&!ieq (qf j) 0)&&allB j (fun k=>!(decide (0≤f j)&&ieq (f k) (f j)))):=rfl
 cases h1:btw (n:Int) 1 16
 ·have hok:trkB n f m qf sp=false:=by simp [trkB,h1]
  repeat' (first
   | with_reducible exact rfl
   | exact True.intro
   | with_reducible assumption
   | (simp only [hok];done)
   | refine And.intro ?_ ?_
   | apply Exists.intro
   | (refine fun (h:@Eq Bool _ _)=>?_;exfalso;first | (simp [h1] at h;done) | (simp [h1] at h;omega))
   | intro _
   | omega
   | exact rfl)
 ·by_cases h2:m=n
  ·subst h2
   cases h3:btw sp 0 100000
   ·have hok:trkB m f m qf sp=false:=by simp [trkB,h3]
    repeat' (first
     | with_reducible exact rfl
     | exact True.intro
     | with_reducible assumption
     | (simp only [hok];done)
     | refine And.intro ?_ ?_
     | apply Exists.intro
     | (refine fun (h:@Eq Bool _ _)=>?_;exfalso;first | (simp [h1,h3] at h;done) | (simp [h1,h3] at h;omega))
     | intro _
     | omega
     | exact rfl)
   ·have hrd:trkB m f m qf sp=allB m (fun j=>btw (f j) (-1) 15&&btw (qf j) sp 100000&&!(decide (f j<0)&&!ieq (qf j) 0)&&allB j (fun k=>!(decide (0≤f j)&&ieq (f k) (f j)))):=by simp [trkB,h1,h3]
    repeat' (first
     | with_reducible exact rfl
     | exact True.intro
     | with_reducible assumption
     | (intro g (ha_:allB m _=true);have e1:allB m (fun j=>btw (f j) (-1) 15&&btw (qf j) sp 100000&&!(decide (f j<0)&&!ieq (qf j) 0)&&allB j (fun k=>!(decide (0≤f j)&&ieq (f k) (f j))))=true:=hc1.symm.trans ha_;clear ha_)
     | (intro g j hj ha hP;have e0_:allB m (fun j=>btw (f j) (-1) 15&&btw (qf j) sp 100000&&!(decide (f j<0)&&!ieq (qf j) 0)&&allB j (fun k=>!(decide (0≤f j)&&ieq (f k) (f j))))=false:=hc1.symm.trans (allB_no (p:=fun j=>btw (f j) (-1) 15&&btw (qf j) sp 100000&&!(decide (f j<0)&&!ieq (qf j) 0)&&allB j (fun k=>!(decide (0≤f j)&&ieq (f k) (f j)))) hj hP);exact congrArg Value.bool (by rw [hrd,e0_]))
     | (exact congrArg Value.bool (by rw [hrd,e1]))
     | (show @Eq (List _) _ _;exact rfl)
     | refine And.intro ?_ ?_
     | apply Exists.intro
     | (refine fun (h:@Eq Bool _ _)=>?_;exfalso;first | (simp [h1,h3] at h;done) | (simp [h1,h3] at h;omega))
     | intro _
     | omega
     | exact rfl)
  ·have hne:¬ (m:Int)=(n:Int):=by omega
   have hok:trkB n f m qf sp=false:=by simp [trkB,ieq,hne]
   repeat' (first
    | with_reducible exact rfl
    | exact True.intro
    | with_reducible assumption
    | (simp only [hok];done)
    | refine And.intro ?_ ?_
    | apply Exists.intro
    | (refine fun (h:@Eq Bool _ _)=>?_;exfalso;first | (simp [h1,hne] at h;done) | (simp [h1,hne] at h;omega))
    | intro _
    | omega
    | exact rfl)
def sTkOk:Sm:=fun args ch kk =>
 match args with
 | [.a (.agg [x,y,z])] =>
  match ints [z] with
  | some [sp]=>rdn ch x fun n1 f1=>rdn ch y fun n2 f2=>(lenC n1∧lenC n2)∧kk (.a (.c (.bool (trkB n1 f1 n2 f2 sp)))) ch []
  | _=>False
 | _=>False
theorem sTkOk_I:SmOK Tryz.prog 141 sTkOk:=by
 refine smB Tryz.call141 fun args ch kk w X h0 hs=>?_
 unfold sTkOk at h0
 split at h0
 ·split at h0
  ·rename_i sp hi
   obtain ⟨qsp,hi⟩:=ints_cons hi
   obtain ⟨ao1,n1,c1,f1,em1,hr1,h0⟩:=rdn_ok h0 hs
   obtain ⟨ao2,n2,c2,f2,em2,hr2,h0⟩:=rdn_ok h0 hs
   obtain ⟨hn,h0⟩:=h0
   refine ⟨_,h0,?_⟩
   simp only [List.map_cons,List.map_nil,den_a,den_c,SA.den,em1,em2,qsp]
   exact trkI_any ao1 n1 c1 f1 ao2 n2 c2 f2 sp w hn.1 hn.2 hr1 hr2
  ·exact h0.elim
 ·exact h0.elim
theorem sTkOk_S:SmOK Tryz.prog 107 sTkOk:=by
 refine smB Tryz.call107 fun args ch kk w X h0 hs=>?_
 unfold sTkOk at h0
 split at h0
 ·split at h0
  ·rename_i sp hi
   obtain ⟨qsp,hi⟩:=ints_cons hi
   obtain ⟨ao1,n1,c1,f1,em1,hr1,h0⟩:=rdn_ok h0 hs
   obtain ⟨ao2,n2,c2,f2,em2,hr2,h0⟩:=rdn_ok h0 hs
   obtain ⟨hn,h0⟩:=h0
   refine ⟨_,h0,?_⟩
   simp only [List.map_cons,List.map_nil,den_a,den_c,SA.den,em1,em2,qsp]
   exact trkS_any ao1 n1 c1 f1 ao2 n2 c2 f2 sp w hn.1 hn.2 hr1 hr2
  ·exact h0.elim
 ·exact h0.elim
end Go.Proofs.YtmnccapnjphmfaaGreat

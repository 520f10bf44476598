/-
  FnExactStoredAddr: a part of the walk (merged and squeezed by program: SxPrY).
-/
import Derived.Test.YtmnccapnjphmfaaGreatZbae
import Derived.Test.YtmnccapnjphmfaaGreatZbaf
namespace Go.Proofs.YtmnccapnjphmfaaGreat
set_option linter.unusedVariables false
set_option linter.unusedSimpArgs false
open Go.RowKit
set_option maxRecDepth 100000
set_option maxHeartbeats 8000000
def sUsB:Sm:=inlM Tryz.prog {tb:=[(61,sBtw)]} 300 Tryz.f179
theorem sUsB_ok:SmOK Tryz.prog 179 sUsB:=inlM_ok mixed (E:={tb:=[(61,sBtw)]}) ⟨sBtwI_ok,trivial⟩ Tryz.func179 Tryz.call179 (fun _ _ _=>loopsOK_nil _ _ _)
def sCmAt:Sm:=inlM Tryz.prog {tb:=[(133,sBank),(179,sUsB)],D:=fun _=>[5]} 300 Tryz.f135
theorem sCmAt_ok:SmOK Tryz.prog 135 sCmAt:=inlM_ok mixed (E:={tb:=[(133,sBank),(179,sUsB)],D:=fun _=>[5]}) ⟨sBank_I,sUsB_ok,trivial⟩ Tryz.func135 Tryz.call135 (fun _ _ _=>loopsOK_nil _ _ _)
def sL10U:Sm:=inlM Tryz.prog {tb:=[(102,sBank)]} 300 Tryz.f103
theorem sL10U_ok:SmOK Tryz.prog 103 sL10U:=inlM_ok mixed (E:={tb:=[(102,sBank)]}) ⟨sBank_S,trivial⟩ Tryz.func103 Tryz.call103 (fun _ _ _=>loopsOK_nil _ _ _)
def ryLIH (lo:Option Addr)(ln lc:Nat)(lg:Nat→Int)(ao:Option Addr)(an ac:Nat)(ag:Nat→Int)(G B R K:Int)(bg br:Nat)(i:SC)(g:Nat→Value):List SV:=hdN [(2,.a (.c (.ptr 2 bg 0))),(3,.a (.c (.ptr 3 br 0))),(31,.a (.c (.sl 0 lo ln lc))),(32,.a (.c (.int (ln:Int)))),(33,.a (.c i))] g 0 82
def ryLIR (lo:Option Addr)(ln lc:Nat)(lg:Nat→Int)(ao:Option Addr)(an ac:Nat)(ag:Nat→Int)(G B R K:Int)(bg br:Nat)(j:Nat)(g:Nat→Value):List SV:=hdN [(4,.a (.c (.lit false)))] g 0 82
def ryLIT (lo:Option Addr)(ln lc:Nat)(lg:Nat→Int)(ao:Option Addr)(an ac:Nat)(ag:Nat→Int)(G B R K:Int)(bg br:Nat):List Ch:=[.row ⟨false,lo,0,1,ln,0,[fun i=>.int (lg i)]⟩,.row ⟨false,ao,0,1,an,0,[fun i=>.int (ag i)]⟩,.cells bg 68 [.int G,.int B,.int R,.int K],.cells br 82 [.sl 0 lo ln lc,.sl 1 ao an ac]]
def ryLIP (lo:Option Addr)(ln lc:Nat)(lg:Nat→Int)(ao:Option Addr)(an ac:Nat)(ag:Nat→Int)(G B R K:Int)(bg br:Nat)(j:Nat):Bool:=btw (lg j) (-1) 1000000&&((decide ((j:Int) / 9<bankN G B R K) == btw ((j:Int) % 9+1) 1 5) || ieq (lg j) (-1))
def sryLI (lo:Option Addr)(ln lc:Nat)(lg:Nat→Int)(ao:Option Addr)(an ac:Nat)(ag:Nat→Int)(G B R K:Int)(bg br:Nat):LSm:=fun ts ch k =>
 (ts.map SV.den=(ryLIH lo ln lc lg ao an ac ag G B R K bg br (.il 0) (fun d=>(ts.getD d .undef).den)).map SV.den∧selC ch [0,1,2,3]=ryLIT lo ln lc lg ao an ac ag G B R K bg br) ∧
  (∀ g,allB ln (ryLIP lo ln lc lg ao an ac ag G B R K bg br)=true→k (.exit 0) (ryLIH lo ln lc lg ao an ac ag G B R K bg br (.int (ln:Int)) g) (ryLIT lo ln lc lg ao an ac ag G B R K bg br))∧(∀ g j,ltN j ln→allB j (ryLIP lo ln lc lg ao an ac ag G B R K bg br)=true→ryLIP lo ln lc lg ao an ac ag G B R K bg br j=false→k .ret (ryLIR lo ln lc lg ao an ac ag G B R K bg br j g) (ryLIT lo ln lc lg ao an ac ag G B R K bg br))
theorem ryLIB (lo:Option Addr)(ln lc:Nat)(lg:Nat→Int)(ao:Option Addr)(an ac:Nat)(ag:Nat→Int)(G B R K:Int)(bg br:Nat)(j:Nat)(g:Nat→Value)(NX:List SV→List Ch→Prop)(kx:Exit→List SV→List Ch→Prop):(exCode Tryz.prog {tb:=[(61,sBtw),(135,sCmAt)]} 400 (theLoop Tryz.f63 0) (ryLIH lo ln lc lg ao an ac ag G B R K bg br (.int (j:Int)) g) (ryLIT lo ln lc lg ao an ac ag G B R K bg br) (loopK NX kx))=(
 (fun a:SV=>(fun b:SV=>(fun c:SV=>(fun d:SV=>(fun h:SV=>(fun k:SV=>(fun l:SV=>(fun m:SV=>(fun n:SV=>(fun o:SV=>(fun p:SV=>(fun q:SV=>(fun r:SV=>(fun s:SV=>(fun t:SV=>(fun u:SV=>(fun v:SV=>(fun w:SV=>(fun x:SV=>(fun y:SV=>(fun z:SV=>(fun C:SV=>(fun D:SV=>(fun E:SV=>(fun F:SV=>(fun H:SV=>(fun I:SV=>(fun J:SV=>(fun L:SV=>(fun M:SV=>(fun N:SV=>(fun O:SV=>(fun P:SV=>(fun Q:SV=>(fun S:SV=>(fun T:SV=>(fun U:SV=>(fun V:SV=>(fun W:SV=>(fun X:SV=>(fun Y:SV=>(fun Z:SV=>(fun aa:SV=>(fun ab:SV=>(fun ad:SV=>(fun af:SV=>(fun ah:SV=>(fun aj:SV=>(fun ak:SV=>(fun al:SV=>(fun am:SV=>(fun ap:SV=>(fun aq:SV=>(fun ar:SV=>(fun au:SV=>(fun av:SV=>(fun aw:SV=>(fun ax:SV=>(fun ay:Bool=>(fun az:SV=>(fun aA:SV=>(fun aB:List SC=>(fun aC:SV=>(fun aD:SV=>(fun aE:Bool=>(fun aF:Bool=>(fun aG:Ch=>(fun aH:SV=>(fun aI:Ch=>(fun aJ:Ch=>(fun aK:Ch=>(fun aL:SV=>(fun aM:Bool=>(fun aN:SC=>(fun aO:Bool=>(fun aP:List SC=>(fun aQ:SV=>(fun aR:List SC=>(fun aS:SV=>(fun aT:Bool=>(fun aU:Bool=>(fun aW:SA=>(fun aX:SV=>(fun aY:SV=>(fun aZ:SV=>(fun a0:SV=>(aM=true→lo=lo∧ln=ln∧(0≤((j:Nat):Int)∧((j:Nat):Int)<((ln:Nat):Int))∧lo=lo∧j<ln∧bg=bg∧∀ a1 a2:Nat,(fun a3:Ch=>(fun a4:Ch=>(fun a5:Ch=>divC ((j:Nat):Int) (9:Int)∧rng ((((j:Nat):Int) % (9:Int))+(1:Int))∧∀ a6:Nat,(fun a7:Ch=>(fun a8:Ch=>a6=a6∧divC ((j:Nat):Int) (9:Int)∧a1=a1∧(aO=true→divC ((j:Nat):Int) (9:Int)∧a6=a6∧a6=a6∧a6=a6∧[aK,aJ,aG,aI,a3,Hd,a8]=[aK,aJ,aG,aI,a3,Hd,a8]∧a2=a2∧True∧a2=a2∧∀ a9:Nat,(fun ba:SV=>(fun bb:Ch=>a9=a9∧(aF=false→(aU=true→(ay=true→kx Exit.ret [d,c,au,ar,fV,ax,aq,ba,aX,b,ap,am,al,ak,aj,ah,af,ad,ab,aa,Z,Y,X,W,V,U,T,S,Q,P,O,aw,az,ax,tV,ax,av,aq,a0,aD,ax,a0,aS,aX,aq,aH,aL,fV,aX,aY,tV,aq,aA,aA,tV,N,M,L,J,I,H,F,E,D,C,z,y,x,w,v,u,t,s,r,q,p,o,n,m,l,k,h] [aK,aJ,aG,aI,a3,a5,a8,bb])∧(ay=false→rng (((j:Nat):Int)+(1:Int))∧NX [d,c,au,ar,a,ax,aq,ba,aX,b,ap,am,al,ak,aj,ah,af,ad,ab,aa,Z,Y,X,W,V,U,T,S,Q,P,O,aw,az,aC,tV,ax,av,aq,a0,aD,ax,a0,aS,aX,aq,aH,aL,fV,aX,aY,tV,aq,aA,aA,fV,aC,M,L,J,I,H,F,E,D,C,z,y,x,w,v,u,t,s,r,q,p,o,n,m,l,k,h] [aK,aJ,aG,aI,a3,a5,a8,bb]))∧(aU=false→rng (((j:Nat):Int)+(1:Int))∧NX [d,c,au,ar,a,ax,aq,ba,aX,b,ap,am,al,ak,aj,ah,af,ad,ab,aa,Z,Y,X,W,V,U,T,S,Q,P,O,aw,az,aC,tV,ax,av,aq,a0,aD,ax,a0,aS,aX,aq,aH,aL,fV,aX,aY,fV,xV,xV,fV,fV,aC,M,L,J,I,H,F,E,D,C,z,y,x,w,v,u,t,s,r,q,p,o,n,m,l,k,h] [aK,aJ,aG,aI,a3,a5,a8,bb]))∧(aF=true→kx Exit.ret [d,c,au,ar,fV,ax,aq,ba,aX,b,ap,am,al,ak,aj,ah,af,ad,ab,aa,Z,Y,X,W,V,U,T,S,Q,P,O,aw,az,ax,tV,ax,av,aq,a0,aD,ax,a0,aS,aX,aq,aH,aL,tV,xV,xV,xV,xV,xV,xV,tV,N,M,L,J,I,H,F,E,D,C,z,y,x,w,v,u,t,s,r,q,p,o,n,m,l,k,h] [aK,aJ,aG,aI,a3,a5,a8,bb])) (Hc a9 225 aR)) (pV 7 a9 0))∧(aO=false→a6=a6∧a6=a6∧[aK,aJ,aG,aI,a3,Hd,a7]=[aK,aJ,aG,aI,a3,Hd,a7]∧a2=a2∧True∧a2=a2∧∀ a9:Nat,(fun ba:SV=>(fun bb:Ch=>a9=a9∧(aF=false→(aU=true→(ay=true→kx Exit.ret [d,c,au,ar,fV,ax,aq,ba,aX,b,ap,am,al,ak,aj,ah,af,ad,ab,aa,Z,Y,X,W,V,U,T,S,Q,P,O,aw,az,ax,tV,ax,av,aq,aZ,aD,ax,aZ,aQ,aX,aq,aH,aL,fV,aX,aY,tV,aq,aA,aA,tV,N,M,L,J,I,H,F,E,D,C,z,y,x,w,v,u,t,s,r,q,p,o,n,m,l,k,h] [aK,aJ,aG,aI,a3,a4,a7,bb])∧(ay=false→rng (((j:Nat):Int)+(1:Int))∧NX [d,c,au,ar,a,ax,aq,ba,aX,b,ap,am,al,ak,aj,ah,af,ad,ab,aa,Z,Y,X,W,V,U,T,S,Q,P,O,aw,az,aC,tV,ax,av,aq,aZ,aD,ax,aZ,aQ,aX,aq,aH,aL,fV,aX,aY,tV,aq,aA,aA,fV,aC,M,L,J,I,H,F,E,D,C,z,y,x,w,v,u,t,s,r,q,p,o,n,m,l,k,h] [aK,aJ,aG,aI,a3,a4,a7,bb]))∧(aU=false→rng (((j:Nat):Int)+(1:Int))∧NX [d,c,au,ar,a,ax,aq,ba,aX,b,ap,am,al,ak,aj,ah,af,ad,ab,aa,Z,Y,X,W,V,U,T,S,Q,P,O,aw,az,aC,tV,ax,av,aq,aZ,aD,ax,aZ,aQ,aX,aq,aH,aL,fV,aX,aY,fV,xV,xV,fV,fV,aC,M,L,J,I,H,F,E,D,C,z,y,x,w,v,u,t,s,r,q,p,o,n,m,l,k,h] [aK,aJ,aG,aI,a3,a4,a7,bb]))∧(aF=true→kx Exit.ret [d,c,au,ar,fV,ax,aq,ba,aX,b,ap,am,al,ak,aj,ah,af,ad,ab,aa,Z,Y,X,W,V,U,T,S,Q,P,O,aw,az,ax,tV,ax,av,aq,aZ,aD,ax,aZ,aQ,aX,aq,aH,aL,tV,xV,xV,xV,xV,xV,xV,tV,N,M,L,J,I,H,F,E,D,C,z,y,x,w,v,u,t,s,r,q,p,o,n,m,l,k,h] [aK,aJ,aG,aI,a3,a4,a7,bb])) (Hc a9 225 aP)) (pV 7 a9 0))) (Hc a6 225 aR)) (Hc a6 225 aP)) (Hc a2 225 aR)) (Hc a2 225 aP)) (Hc a1 68 aB))∧(aM=false→kx (Exit.exit 0) [d,c,au,ar,a,vV (g 5),vV (g 6),vV (g 7),vV (g 8),b,ap,am,al,ak,aj,ah,af,ad,ab,aa,Z,Y,X,W,V,U,T,S,Q,P,O,aw,az,ax,fV,vV (g 35),vV (g 36),vV (g 37),vV (g 38),vV (g 39),vV (g 40),vV (g 41),vV (g 42),vV (g 43),vV (g 44),vV (g 45),vV (g 46),vV (g 47),vV (g 48),vV (g 49),vV (g 50),vV (g 51),vV (g 52),vV (g 53),vV (g 54),N,M,L,J,I,H,F,E,D,C,z,y,x,w,v,u,t,s,r,q,p,o,n,m,l,k,h] [aK,aJ,aG,aI])) (uV [Ag aR,aW])) (uV [Ag aP,aW])) (bV aU)) (bV aT)) (Ab aT)) (! aT)) (aO == (btw ((((j:Nat):Int) % (9:Int))+(1:Int)) (1:Int) (5:Int)))) (aV aR)) [aN,Ci (((j:Nat):Int) / (9:Int)),Cl 0,Cl 0]) (aV aP)) [aN,Cl 0,Cl 0,Cl 0]) (decide ((((j:Nat):Int) / (9:Int))<(bankN G B R K)))) (Ci ((((j:Nat):Int) % (9:Int))+(1:Int)))) (decide (((j:Nat):Int)<((ln:Nat):Int)))) (bV aF)) (Hr false lo 0 1 ln 0 [fun aK=>Ci (lg aK)])) (Hr false ao 0 1 an 0 [fun aJ=>Ci (ag aJ)])) (Hc br 82 [Cs 0 lo ln lc,Cs 1 ao an ac])) (bV aE)) (Hc bg 68 aB)) (! aE)) (btw (lg j) ((-1):Int) (1000000:Int))) (aV aB)) (iV (((j:Nat):Int)+(1:Int)))) [Ci G,Ci B,Ci R,Ci K]) (bV ay)) (iV ((ln:Nat):Int))) ((lg j) != ((-1):Int))) (iV ((j:Nat):Int))) (sV 0 lo ln lc)) (rV 0 lo 1 j 0)) (pV 2 bg 0)) (pV 3 br 0)) (iV (lg j))) (vV (g 10))) (vV (g 11))) (vV (g 12))) (vV (g 13))) (vV (g 14))) (vV (g 15))) (vV (g 16))) (vV (g 17))) (vV (g 18))) (vV (g 19))) (vV (g 20))) (vV (g 21))) (vV (g 22))) (vV (g 23))) (vV (g 24))) (vV (g 25))) (vV (g 26))) (vV (g 27))) (vV (g 28))) (vV (g 29))) (vV (g 30))) (vV (g 55))) (vV (g 56))) (vV (g 57))) (vV (g 58))) (vV (g 59))) (vV (g 60))) (vV (g 61))) (vV (g 62))) (vV (g 63))) (vV (g 64))) (vV (g 65))) (vV (g 66))) (vV (g 67))) (vV (g 68))) (vV (g 69))) (vV (g 70))) (vV (g 71))) (vV (g 72))) (vV (g 73))) (vV (g 74))) (vV (g 75))) (vV (g 76))) (vV (g 77))) (vV (g 78))) (vV (g 79))) (vV (g 80))) (vV (g 81))) (vV (g 0))) (vV (g 1))) (vV (g 9))) (vV (g 4))):=by kernel_rfl
theorem ryLI_ok (lo:Option Addr)(ln lc:Nat)(lg:Nat→Int)(ao:Option Addr)(an ac:Nat)(ag:Nat→Int)(G B R K:Int)(bg br:Nat)(hn:ln≤9223372036854775807)(X:Cx):LoopOK Tryz.prog X (theLoop Tryz.f63 0) (sryLI lo ln lc lg ao an ac ag G B R K bg br):=by
 intro ts ch k a w hS hT hd hs
 obtain ⟨⟨h1,hch⟩,hk,hr⟩:=hS
 refine loop_ok mixed (E:={tb:=[(61,sBtw),(135,sCmAt)]}) ⟨sBtwI_ok,sCmAt_ok,trivial⟩ (loopsOK_nil _ _ _) 400 ln (fun j ts ch=>∃ g,allB j (ryLIP lo ln lc lg ao an ac ag G B R K bg br)=true∧ts=ryLIH lo ln lc lg ao an ac ag G B R K bg br (.int (j:Int)) g∧ch=ryLIT lo ln lc lg ao an ac ag G B R K bg br) ?_ ?_ hT hd hs
 ·rintro j _ _ ⟨g,hall,rfl,rfl⟩ hj
  refine @Eq.mpr _ _ (ryLIB lo ln lc lg ao an ac ag G B R K bg br j g _ _) ?_
  dsimp -zeta -proj -iota -eta -failIfUnchanged (etaStruct:=.none) only
  by_cases hlt:j<ln
  ·have hjn:(0:Int)≤(j:Int)∧(j:Int)<(ln:Int):=⟨by omega,by omega⟩
   clear h1
   cases hP:ryLIP lo ln lc lg ao an ac ag G B R K bg br j
   all_goals cases hp0:btw (lg j) (-1) 1000000
   all_goals cases hp1:ieq (lg j) (-1)
   all_goals by_cases hp2:(j:Int) / 9<bankN G B R K
   all_goals cases hp3:btw ((j:Int) % 9+1) 1 5
   all_goals have hn1:=ieq_ne hp1
   all_goals (first | (exfalso;simp [ryLIP,hp0,hp1,hp2,hp3,hn1] at hP;done) | skip)
   all_goals
    repeat' (first
     | with_reducible exact rfl
     | exact True.intro
     | with_reducible assumption
     | (refine ⟨hlt,?_⟩;show Next _ _ _ _;refine Next.mk (fun g=>ryLIH lo ln lc lg ao an ac ag G B R K bg br (.int ((j+1:Nat):Int)) g) _ ⟨_,allB_succ hall hP,rfl,rfl⟩ rfl fun w hw=>hw.sel [0,1,2,3] (by simp))
     | (refine Next.mk (fun g=>ryLIR lo ln lc lg ao an ac ag G B R K bg br j g) _ (hr _ j hlt hall hP) rfl fun w hw=>hw.sel [0,1,2,3] (by simp))
     | refine And.intro ?_ ?_
     | (refine fun (h:@Eq Bool _ _)=>?_;exfalso;first | (simp [hp0,hp1,hp2,hp3,hn1] at h;done) | (simp [hp0,hp1,hp2,hp3,hn1] at h;omega))
     | intro _
     | omega)
  ·have hjn:ln=j:=by omega
   subst hjn
   repeat' (first
    | with_reducible exact rfl
    | exact True.intro
    | (refine Next.mk (fun g=>ryLIH lo ln lc lg ao an ac ag G B R K bg br (.int (ln:Int)) g) _ (hk _ hall) rfl fun w hw=>hw.sel [0,1,2,3] (by simp))
    | refine And.intro ?_ ?_
    | (refine fun (h:@Eq Bool _ _)=>?_;exfalso;first | (simp at h;done) | (simp at h;omega))
    | intro _)
 ·refine Next.mk (fun g=>ryLIH lo ln lc lg ao an ac ag G B R K bg br (.int ((0:Nat):Int)) g) _ ⟨_,allB_zero _,rfl,rfl⟩ h1 fun w hw=>?_
  rw [← hch]
  exact hw.sel [0,1,2,3] (by simp)
def sryLIw (lo:Option Addr)(ln lc:Nat)(lg:Nat→Int)(ao:Option Addr)(an ac:Nat)(ag:Nat→Int)(G B R K:Int):LSm:=fun ts ch kk=>∃ bg br,sryLI lo ln lc lg ao an ac ag G B R K bg br ts ch kk
theorem ryLIw_ok (lo:Option Addr)(ln lc:Nat)(lg:Nat→Int)(ao:Option Addr)(an ac:Nat)(ag:Nat→Int)(G B R K:Int)(hn:ln≤9223372036854775807)(X:Cx):LoopOK Tryz.prog X (theLoop Tryz.f63 0) (sryLIw lo ln lc lg ao an ac ag G B R K):=by
 rintro ts ch kk a w ⟨bg,br,h⟩ hT hd hs
 exact ryLI_ok lo ln lc lg ao an ac ag G B R K bg br hn X ts ch kk a w h hT hd hs
def ryAIH (lo:Option Addr)(ln lc:Nat)(lg:Nat→Int)(ao:Option Addr)(an ac:Nat)(ag:Nat→Int)(G B R K:Int)(bg br:Nat)(i:SC)(g:Nat→Value):List SV:=hdN [(2,.a (.c (.ptr 2 bg 0))),(3,.a (.c (.ptr 3 br 0))),(57,.a (.c (.sl 1 ao an ac))),(58,.a (.c (.int (an:Int)))),(59,.a (.c i))] g 0 82
def ryAIR (lo:Option Addr)(ln lc:Nat)(lg:Nat→Int)(ao:Option Addr)(an ac:Nat)(ag:Nat→Int)(G B R K:Int)(bg br:Nat)(j:Nat)(g:Nat→Value):List SV:=hdN [(4,.a (.c (.lit false)))] g 0 82
def ryAIT (lo:Option Addr)(ln lc:Nat)(lg:Nat→Int)(ao:Option Addr)(an ac:Nat)(ag:Nat→Int)(G B R K:Int)(bg br:Nat):List Ch:=[.row ⟨false,lo,0,1,ln,0,[fun i=>.int (lg i)]⟩,.row ⟨false,ao,0,1,an,0,[fun i=>.int (ag i)]⟩,.cells bg 68 [.int G,.int B,.int R,.int K],.cells br 82 [.sl 0 lo ln lc,.sl 1 ao an ac]]
def ryAIP (lo:Option Addr)(ln lc:Nat)(lg:Nat→Int)(ao:Option Addr)(an ac:Nat)(ag:Nat→Int)(G B R K:Int)(bg br:Nat)(j:Nat):Bool:=btw (ag j) 0 1000000&&!(decide (0<j)&&decide (ag j≤ag (j-1)))
def sryAI (lo:Option Addr)(ln lc:Nat)(lg:Nat→Int)(ao:Option Addr)(an ac:Nat)(ag:Nat→Int)(G B R K:Int)(bg br:Nat):LSm:=fun ts ch k =>
 (ts.map SV.den=(ryAIH lo ln lc lg ao an ac ag G B R K bg br (.il 0) (fun d=>(ts.getD d .undef).den)).map SV.den∧selC ch [0,1,2,3]=ryAIT lo ln lc lg ao an ac ag G B R K bg br) ∧
  (∀ g,allB an (ryAIP lo ln lc lg ao an ac ag G B R K bg br)=true→k (.exit 2) (ryAIH lo ln lc lg ao an ac ag G B R K bg br (.int (an:Int)) g) (ryAIT lo ln lc lg ao an ac ag G B R K bg br))∧(∀ g j,ltN j an→allB j (ryAIP lo ln lc lg ao an ac ag G B R K bg br)=true→ryAIP lo ln lc lg ao an ac ag G B R K bg br j=false→k .ret (ryAIR lo ln lc lg ao an ac ag G B R K bg br j g) (ryAIT lo ln lc lg ao an ac ag G B R K bg br))
theorem ryAIB (lo:Option Addr)(ln lc:Nat)(lg:Nat→Int)(ao:Option Addr)(an ac:Nat)(ag:Nat→Int)(G B R K:Int)(bg br:Nat)(j:Nat)(g:Nat→Value)(NX:List SV→List Ch→Prop)(kx:Exit→List SV→List Ch→Prop):(exCode Tryz.prog {tb:=[(61,sBtw)]} 400 (theLoop Tryz.f63 1) (ryAIH lo ln lc lg ao an ac ag G B R K bg br (.int (j:Int)) g) (ryAIT lo ln lc lg ao an ac ag G B R K bg br) (loopK NX kx))=(
 (fun a:SV=>(fun b:SV=>(fun c:SV=>(fun d:SV=>(fun h:SV=>(fun k:SV=>(fun l:SV=>(fun m:SV=>(fun n:SV=>(fun o:SV=>(fun p:SV=>(fun q:SV=>(fun r:SV=>(fun s:SV=>(fun t:SV=>(fun u:SV=>(fun v:SV=>(fun w:SV=>(fun x:SV=>(fun y:SV=>(fun z:SV=>(fun C:SV=>(fun D:SV=>(fun E:SV=>(fun F:SV=>(fun H:SV=>(fun I:SV=>(fun J:SV=>(fun L:SV=>(fun M:SV=>(fun N:SV=>(fun O:SV=>(fun P:SV=>(fun Q:SV=>(fun S:SV=>(fun T:SV=>(fun U:SV=>(fun V:SV=>(fun W:SV=>(fun X:SV=>(fun Y:SV=>(fun Z:SV=>(fun aa:SV=>(fun ab:SV=>(fun ad:SV=>(fun af:SV=>(fun ah:SV=>(fun aj:SV=>(fun ak:SV=>(fun al:SV=>(fun am:SV=>(fun ap:SV=>(fun aq:SV=>(fun ar:SV=>(fun au:SV=>(fun av:SV=>(fun aw:SV=>(fun ax:SV=>(fun ay:SV=>(fun az:SV=>(fun aA:SV=>(fun aB:Bool=>(fun aC:Bool=>(fun aD:Bool=>(fun aE:SV=>(fun aF:Nat=>(fun aG:SV=>(fun aH:SV=>(fun aI:Bool=>(fun aJ:SV=>(fun aK:SV=>(fun aL:Bool=>(fun aM:SV=>(fun aN:List Ch=>(aI=true→ao=ao∧an=an∧(0≤((j:Nat):Int)∧((j:Nat):Int)<((an:Nat):Int))∧ao=ao∧j<an∧(aD=false→(aC=true→br=br∧rng (((j:Nat):Int)-(1:Int))∧ao=ao∧an=an∧(0≤(((j:Nat):Int)-(1:Int))∧(((j:Nat):Int)-(1:Int))<((an:Nat):Int))∧ao=ao∧aF<an∧(aL=true→kx Exit.ret [k,h,au,ar,fV,d,c,b,a,ax,aq,ap,am,al,ak,aj,ah,af,ad,ab,aa,Z,Y,X,W,V,U,T,S,Q,P,O,N,M,L,J,I,H,F,E,D,C,z,y,x,w,v,u,t,s,r,q,p,o,n,m,l,aw,ay,ax,tV,ax,av,aq,aq,aE,aH,fV,ax,aG,tV,pV 3 br 1,aw,ax,aA,aK,aJ,aq,aM,aM,tV,vV (g 81)] aN)∧(aL=false→rng (((j:Nat):Int)+(1:Int))∧NX [k,h,au,ar,vV (g 4),d,c,b,a,ax,aq,ap,am,al,ak,aj,ah,af,ad,ab,aa,Z,Y,X,W,V,U,T,S,Q,P,O,N,M,L,J,I,H,F,E,D,C,z,y,x,w,v,u,t,s,r,q,p,o,n,m,l,aw,ay,az,tV,ax,av,aq,aq,aE,aH,fV,ax,aG,tV,pV 3 br 1,aw,ax,aA,aK,aJ,aq,aM,aM,fV,az] aN))∧(aC=false→rng (((j:Nat):Int)+(1:Int))∧NX [k,h,au,ar,vV (g 4),d,c,b,a,ax,aq,ap,am,al,ak,aj,ah,af,ad,ab,aa,Z,Y,X,W,V,U,T,S,Q,P,O,N,M,L,J,I,H,F,E,D,C,z,y,x,w,v,u,t,s,r,q,p,o,n,m,l,aw,ay,az,tV,ax,av,aq,aq,aE,aH,fV,ax,aG,fV,xV,xV,xV,xV,xV,xV,xV,xV,fV,fV,az] aN))∧(aD=true→kx Exit.ret [k,h,au,ar,fV,d,c,b,a,ax,aq,ap,am,al,ak,aj,ah,af,ad,ab,aa,Z,Y,X,W,V,U,T,S,Q,P,O,N,M,L,J,I,H,F,E,D,C,z,y,x,w,v,u,t,s,r,q,p,o,n,m,l,aw,ay,ax,tV,ax,av,aq,aq,aE,aH,tV,xV,xV,xV,xV,xV,xV,xV,xV,xV,xV,xV,xV,tV,vV (g 81)] aN))∧(aI=false→kx (Exit.exit 2) [k,h,au,ar,vV (g 4),d,c,b,a,vV (g 9),vV (g 10),ap,am,al,ak,aj,ah,af,ad,ab,aa,Z,Y,X,W,V,U,T,S,Q,P,O,N,M,L,J,I,H,F,E,D,C,z,y,x,w,v,u,t,s,r,q,p,o,n,m,l,aw,ay,ax,fV,vV (g 61),vV (g 62),vV (g 63),vV (g 64),vV (g 65),vV (g 66),vV (g 67),vV (g 68),vV (g 69),vV (g 70),vV (g 71),vV (g 72),vV (g 73),vV (g 74),vV (g 75),vV (g 76),vV (g 77),vV (g 78),vV (g 79),vV (g 80),vV (g 81)] aN)) [Hr false lo 0 1 ln 0 [fun aN=>Ci (lg aN)],Hr false ao 0 1 an 0 [fun aN=>Ci (ag aN)],Hc bg 68 [Ci G,Ci B,Ci R,Ci K],Hc br 82 [Cs 0 lo ln lc,Cs 1 ao an ac]]) (bV aL)) (decide ((ag aF) ≥ (ag j)))) (rV 1 ao 1 aF 0)) (iV (ag aF))) (decide (((j:Nat):Int)<((an:Nat):Int)))) (bV aD)) (bV aC)) (Int.toNat (((j:Nat):Int)-(1:Int)))) (bV aB)) (! aB)) (decide (((j:Nat):Int) > (0:Int)))) (btw (ag j) (0:Int) (1000000:Int))) (iV (((j:Nat):Int)-(1:Int)))) (iV (((j:Nat):Int)+(1:Int)))) (iV ((an:Nat):Int))) (iV ((j:Nat):Int))) (sV 1 ao an ac)) (rV 1 ao 1 j 0)) (pV 2 bg 0)) (pV 3 br 0)) (iV (ag j))) (vV (g 11))) (vV (g 12))) (vV (g 13))) (vV (g 14))) (vV (g 15))) (vV (g 16))) (vV (g 17))) (vV (g 18))) (vV (g 19))) (vV (g 20))) (vV (g 21))) (vV (g 22))) (vV (g 23))) (vV (g 24))) (vV (g 25))) (vV (g 26))) (vV (g 27))) (vV (g 28))) (vV (g 29))) (vV (g 30))) (vV (g 31))) (vV (g 32))) (vV (g 33))) (vV (g 34))) (vV (g 35))) (vV (g 36))) (vV (g 37))) (vV (g 38))) (vV (g 39))) (vV (g 40))) (vV (g 41))) (vV (g 42))) (vV (g 43))) (vV (g 44))) (vV (g 45))) (vV (g 46))) (vV (g 47))) (vV (g 48))) (vV (g 49))) (vV (g 50))) (vV (g 51))) (vV (g 52))) (vV (g 53))) (vV (g 54))) (vV (g 55))) (vV (g 56))) (vV (g 0))) (vV (g 1))) (vV (g 5))) (vV (g 6))) (vV (g 7))) (vV (g 8))):=by kernel_rfl
theorem ryAI_ok (lo:Option Addr)(ln lc:Nat)(lg:Nat→Int)(ao:Option Addr)(an ac:Nat)(ag:Nat→Int)(G B R K:Int)(bg br:Nat)(hn:an≤9223372036854775807)(X:Cx):LoopOK Tryz.prog X (theLoop Tryz.f63 1) (sryAI lo ln lc lg ao an ac ag G B R K bg br):=by
 intro ts ch k a w hS hT hd hs
 obtain ⟨⟨h1,hch⟩,hk,hr⟩:=hS
 refine loop_ok mixed (E:={tb:=[(61,sBtw)]}) ⟨sBtwI_ok,trivial⟩ (loopsOK_nil _ _ _) 400 an (fun j ts ch=>∃ g,allB j (ryAIP lo ln lc lg ao an ac ag G B R K bg br)=true∧ts=ryAIH lo ln lc lg ao an ac ag G B R K bg br (.int (j:Int)) g∧ch=ryAIT lo ln lc lg ao an ac ag G B R K bg br) ?_ ?_ hT hd hs
 ·rintro j _ _ ⟨g,hall,rfl,rfl⟩ hj
  refine @Eq.mpr _ _ (ryAIB lo ln lc lg ao an ac ag G B R K bg br j g _ _) ?_
  dsimp -zeta -proj -iota -eta -failIfUnchanged (etaStruct:=.none) only
  by_cases hlt:j<an
  ·have hjn:(0:Int)≤(j:Int)∧(j:Int)<(an:Int):=⟨by omega,by omega⟩
   clear h1
   have ej:Int.toNat ((j:Int)-1)=j-1:=by omega
   cases hP:ryAIP lo ln lc lg ao an ac ag G B R K bg br j
   all_goals cases hp0:btw (ag j) 0 1000000
   all_goals by_cases hp1:0<j
   all_goals by_cases hp2:ag j≤ag (j-1)
   all_goals (first | (exfalso;simp [ryAIP,hp0,hp1,hp2] at hP;done) | skip)
   all_goals
    repeat' (first
     | with_reducible exact rfl
     | exact True.intro
     | with_reducible assumption
     | (refine ⟨hlt,?_⟩;show Next _ _ _ _;refine Next.mk (fun g=>ryAIH lo ln lc lg ao an ac ag G B R K bg br (.int ((j+1:Nat):Int)) g) _ ⟨_,allB_succ hall hP,rfl,rfl⟩ rfl fun w hw=>hw.sel [0,1,2,3] (by simp))
     | (refine Next.mk (fun g=>ryAIR lo ln lc lg ao an ac ag G B R K bg br j g) _ (hr _ j hlt hall hP) rfl fun w hw=>hw.sel [0,1,2,3] (by simp))
     | refine And.intro ?_ ?_
     | (refine fun (h:@Eq Bool _ _)=>?_;exfalso;first | (simp [hp0,hp1,hp2] at h;done) | (simp [hp0,hp1,hp2] at h;omega))
     | (rw [ej])
     | (intro h;exfalso;rw [ej] at h;simp at h;omega)
     | intro _
     | omega)
  ·have hjn:an=j:=by omega
   subst hjn
   repeat' (first
    | with_reducible exact rfl
    | exact True.intro
    | (refine Next.mk (fun g=>ryAIH lo ln lc lg ao an ac ag G B R K bg br (.int (an:Int)) g) _ (hk _ hall) rfl fun w hw=>hw.sel [0,1,2,3] (by simp))
    | refine And.intro ?_ ?_
    | (refine fun (h:@Eq Bool _ _)=>?_;exfalso;first | (simp at h;done) | (simp at h;omega))
    | intro _)
 ·refine Next.mk (fun g=>ryAIH lo ln lc lg ao an ac ag G B R K bg br (.int ((0:Nat):Int)) g) _ ⟨_,allB_zero _,rfl,rfl⟩ h1 fun w hw=>?_
  rw [← hch]
  exact hw.sel [0,1,2,3] (by simp)
def sryAIw (lo:Option Addr)(ln lc:Nat)(lg:Nat→Int)(ao:Option Addr)(an ac:Nat)(ag:Nat→Int)(G B R K:Int):LSm:=fun ts ch kk=>∃ bg br,sryAI lo ln lc lg ao an ac ag G B R K bg br ts ch kk
theorem ryAIw_ok (lo:Option Addr)(ln lc:Nat)(lg:Nat→Int)(ao:Option Addr)(an ac:Nat)(ag:Nat→Int)(G B R K:Int)(hn:an≤9223372036854775807)(X:Cx):LoopOK Tryz.prog X (theLoop Tryz.f63 1) (sryAIw lo ln lc lg ao an ac ag G B R K):=by
 rintro ts ch kk a w ⟨bg,br,h⟩ hT hd hs
 exact ryAI_ok lo ln lc lg ao an ac ag G B R K bg br hn X ts ch kk a w h hT hd hs
def ryLSH (lo:Option Addr)(ln lc:Nat)(lg:Nat→Int)(ao:Option Addr)(an ac:Nat)(ag:Nat→Int)(G B R K:Int)(bg br:Nat)(i:SC)(g:Nat→Value):List SV:=hdN [(2,.a (.c (.ptr 2 bg 0))),(3,.a (.c (.ptr 3 br 0))),(5,.a (.c i))] g 0 86
def ryLSR (lo:Option Addr)(ln lc:Nat)(lg:Nat→Int)(ao:Option Addr)(an ac:Nat)(ag:Nat→Int)(G B R K:Int)(bg br:Nat)(j:Nat)(g:Nat→Value):List SV:=hdN [(4,.a (.c (.lit false)))] g 0 86
def ryLST (lo:Option Addr)(ln lc:Nat)(lg:Nat→Int)(ao:Option Addr)(an ac:Nat)(ag:Nat→Int)(G B R K:Int)(bg br:Nat):List Ch:=[.row ⟨false,lo,0,1,ln,0,[fun i=>.int (lg i)]⟩,.row ⟨false,ao,0,1,an,0,[fun i=>.int (ag i)]⟩,.cells bg 68 [.int G,.int B,.int R,.int K],.cells br 82 [.sl 0 lo ln lc,.sl 1 ao an ac]]
def ryLSP (lo:Option Addr)(ln lc:Nat)(lg:Nat→Int)(ao:Option Addr)(an ac:Nat)(ag:Nat→Int)(G B R K:Int)(bg br:Nat)(j:Nat):Bool:=btw (lg j) (-1) 1000000&&((decide ((j:Int) % 9+1≤5) == decide ((j:Int) / 9<bankN G B R K)) || ieq (lg j) (-1))
def sryLS (lo:Option Addr)(ln lc:Nat)(lg:Nat→Int)(ao:Option Addr)(an ac:Nat)(ag:Nat→Int)(G B R K:Int)(bg br:Nat):LSm:=fun ts ch k =>
 (ts.map SV.den=(ryLSH lo ln lc lg ao an ac ag G B R K bg br (.il 0) (fun d=>(ts.getD d .undef).den)).map SV.den∧selC ch [0,1,2,3]=ryLST lo ln lc lg ao an ac ag G B R K bg br) ∧
  (∀ g,allB ln (ryLSP lo ln lc lg ao an ac ag G B R K bg br)=true→k (.exit 0) (ryLSH lo ln lc lg ao an ac ag G B R K bg br (.int (ln:Int)) g) (ryLST lo ln lc lg ao an ac ag G B R K bg br))∧(∀ g j,ltN j ln→allB j (ryLSP lo ln lc lg ao an ac ag G B R K bg br)=true→ryLSP lo ln lc lg ao an ac ag G B R K bg br j=false→k .ret (ryLSR lo ln lc lg ao an ac ag G B R K bg br j g) (ryLST lo ln lc lg ao an ac ag G B R K bg br))
theorem ryLSB (lo:Option Addr)(ln lc:Nat)(lg:Nat→Int)(ao:Option Addr)(an ac:Nat)(ag:Nat→Int)(G B R K:Int)(bg br:Nat)(j:Nat)(g:Nat→Value)(NX:List SV→List Ch→Prop)(kx:Exit→List SV→List Ch→Prop):(exCode Tryz.prog {tb:=[(28,sBtw),(103,sL10U)]} 400 (theLoop Tryz.f30 0) (ryLSH lo ln lc lg ao an ac ag G B R K bg br (.int (j:Int)) g) (ryLST lo ln lc lg ao an ac ag G B R K bg br) (loopK NX kx))=(
 (fun a:SV=>(fun b:SV=>(fun c:SV=>(fun d:SV=>(fun h:SV=>(fun k:SV=>(fun l:SV=>(fun m:SV=>(fun n:SV=>(fun o:SV=>(fun p:SV=>(fun q:SV=>(fun r:SV=>(fun s:SV=>(fun t:SV=>(fun u:SV=>(fun v:SV=>(fun w:SV=>(fun x:SV=>(fun y:SV=>(fun z:SV=>(fun C:SV=>(fun D:SV=>(fun E:SV=>(fun F:SV=>(fun H:SV=>(fun I:SV=>(fun J:SV=>(fun L:SV=>(fun M:SV=>(fun N:SV=>(fun O:SV=>(fun P:SV=>(fun Q:SV=>(fun S:SV=>(fun T:SV=>(fun U:SV=>(fun V:SV=>(fun W:SV=>(fun X:SV=>(fun Y:SV=>(fun Z:SV=>(fun aa:SV=>(fun ab:SV=>(fun ad:SV=>(fun af:SV=>(fun ah:SV=>(fun aj:SV=>(fun ak:SV=>(fun al:SV=>(fun am:SV=>(fun ap:SV=>(fun aq:SV=>(fun ar:SV=>(fun au:SV=>(fun av:SV=>(fun aw:SV=>(fun ax:SV=>(fun ay:SV=>(fun az:SV=>(fun aA:Bool=>(fun aB:SV=>(fun aC:SV=>(fun aD:List SC=>(fun aE:SV=>(fun aF:SV=>(fun aG:Bool=>(fun aH:Ch=>(fun aI:Bool=>(fun aJ:SV=>(fun aK:Ch=>(fun aL:Ch=>(fun aM:Ch=>(fun aN:SV=>(fun aO:Bool=>(fun aP:Prop=>(fun aQ:Bool=>(fun aR:Bool=>(fun aS:SV=>(fun aT:SV=>(fun aU:List Ch=>br=br∧(aO=true→br=br∧lo=lo∧ln=ln∧aP∧lo=lo∧j<ln∧(aI=false→bg=bg∧∀ aW:Nat,divC ((j:Nat):Int) (9:Int)∧rng ((((j:Nat):Int) % (9:Int))+(1:Int))∧divC ((j:Nat):Int) (9:Int)∧aW=aW∧(aR=true→br=br∧lo=lo∧ln=ln∧aP∧lo=lo∧j<ln∧(aA=true→kx Exit.ret [k,h,aw,av,fV,az,d,c,b,a,au,ar,aq,ap,am,al,ak,aj,ah,af,ad,ab,aa,Z,Y,X,az,av,ay,aB,tV,vV (g 31),vV (g 32),av,ay,az,ax,W,aJ,aN,fV,aF,az,aS,aT,tV,av,ay,az,ax,W,aC,aC,tV,V,U,T,S,Q,P,O,N,M,L,J,I,H,F,E,D,C,z,y,x,w,v,u,t,s,r,q,p,o,n,m,l] [aM,aL,aH,aK,Hc aW 68 aD])∧(aA=false→rng (((j:Nat):Int)+(1:Int))∧NX [k,h,aw,av,vV (g 4),aE,d,c,b,a,au,ar,aq,ap,am,al,ak,aj,ah,af,ad,ab,aa,Z,Y,X,az,av,ay,aB,tV,az,aE,av,ay,az,ax,W,aJ,aN,fV,aF,az,aS,aT,tV,av,ay,az,ax,W,aC,aC,fV,V,U,T,S,Q,P,O,N,M,L,J,I,H,F,E,D,C,z,y,x,w,v,u,t,s,r,q,p,o,n,m,l] [aM,aL,aH,aK,Hc aW 68 aD]))∧(aR=false→rng (((j:Nat):Int)+(1:Int))∧NX [k,h,aw,av,vV (g 4),aE,d,c,b,a,au,ar,aq,ap,am,al,ak,aj,ah,af,ad,ab,aa,Z,Y,X,az,av,ay,aB,tV,az,aE,av,ay,az,ax,W,aJ,aN,fV,aF,az,aS,aT,fV,xV,xV,xV,xV,xV,xV,fV,fV,V,U,T,S,Q,P,O,N,M,L,J,I,H,F,E,D,C,z,y,x,w,v,u,t,s,r,q,p,o,n,m,l] [aM,aL,aH,aK,Hc aW 68 aD]))∧(aI=true→kx Exit.ret [k,h,aw,av,fV,az,d,c,b,a,au,ar,aq,ap,am,al,ak,aj,ah,af,ad,ab,aa,Z,Y,X,az,av,ay,aB,tV,vV (g 31),vV (g 32),av,ay,az,ax,W,aJ,aN,tV,xV,xV,xV,xV,xV,xV,xV,xV,xV,xV,xV,xV,tV,V,U,T,S,Q,P,O,N,M,L,J,I,H,F,E,D,C,z,y,x,w,v,u,t,s,r,q,p,o,n,m,l] aU))∧(aO=false→kx (Exit.exit 0) [k,h,aw,av,vV (g 4),az,d,c,b,a,au,ar,aq,ap,am,al,ak,aj,ah,af,ad,ab,aa,Z,Y,X,az,av,ay,aB,fV,vV (g 31),vV (g 32),vV (g 33),vV (g 34),vV (g 35),vV (g 36),vV (g 37),vV (g 38),vV (g 39),vV (g 40),vV (g 41),vV (g 42),vV (g 43),vV (g 44),vV (g 45),vV (g 46),vV (g 47),vV (g 48),vV (g 49),vV (g 50),vV (g 51),vV (g 52),vV (g 53),V,U,T,S,Q,P,O,N,M,L,J,I,H,F,E,D,C,z,y,x,w,v,u,t,s,r,q,p,o,n,m,l] aU)) [aM,aL,aH,aK]) (bV aR)) (bV aQ)) (! aQ)) ((decide (((((j:Nat):Int) % (9:Int))+(1:Int))≤(5:Int))) == (decide ((((j:Nat):Int) / (9:Int))<(bankN G B R K))))) (0≤((j:Nat):Int)∧((j:Nat):Int)<((ln:Nat):Int))) (decide (((j:Nat):Int)<((ln:Nat):Int)))) (bV aI)) (Hr false lo 0 1 ln 0 [fun aM=>Ci (lg aM)])) (Hr false ao 0 1 an 0 [fun aL=>Ci (ag aL)])) (Hc br 82 [Cs 0 lo ln lc,Cs 1 ao an ac])) (bV aG)) (! aG)) (Hc bg 68 aD)) (btw (lg j) ((-1):Int) (1000000:Int))) (aV aD)) (iV (((j:Nat):Int)+(1:Int)))) [Ci G,Ci B,Ci R,Ci K]) (bV aA)) (iV ((ln:Nat):Int))) ((lg j) != ((-1):Int))) (iV ((j:Nat):Int))) (sV 0 lo ln lc)) (rV 0 lo 1 j 0)) (pV 2 bg 0)) (pV 3 br 0)) (vV (g 10))) (vV (g 11))) (vV (g 12))) (vV (g 13))) (vV (g 14))) (vV (g 15))) (vV (g 16))) (vV (g 17))) (vV (g 18))) (vV (g 19))) (vV (g 20))) (vV (g 21))) (vV (g 22))) (vV (g 23))) (vV (g 24))) (vV (g 25))) (iV (lg j))) (vV (g 54))) (vV (g 55))) (vV (g 56))) (vV (g 57))) (vV (g 58))) (vV (g 59))) (vV (g 60))) (vV (g 61))) (vV (g 62))) (vV (g 63))) (vV (g 64))) (vV (g 65))) (vV (g 66))) (vV (g 67))) (vV (g 68))) (vV (g 69))) (vV (g 70))) (vV (g 71))) (vV (g 72))) (vV (g 73))) (vV (g 74))) (vV (g 75))) (vV (g 76))) (vV (g 77))) (vV (g 78))) (vV (g 79))) (vV (g 80))) (vV (g 81))) (vV (g 82))) (vV (g 83))) (vV (g 84))) (vV (g 85))) (vV (g 0))) (vV (g 1))) (vV (g 6))) (vV (g 7))) (vV (g 8))) (vV (g 9))):=by kernel_rfl
theorem ryLS_ok (lo:Option Addr)(ln lc:Nat)(lg:Nat→Int)(ao:Option Addr)(an ac:Nat)(ag:Nat→Int)(G B R K:Int)(bg br:Nat)(hn:ln≤9223372036854775807)(X:Cx):LoopOK Tryz.prog X (theLoop Tryz.f30 0) (sryLS lo ln lc lg ao an ac ag G B R K bg br):=by
 intro ts ch k a w hS hT hd hs
 obtain ⟨⟨h1,hch⟩,hk,hr⟩:=hS
 refine loop_ok mixed (E:={tb:=[(28,sBtw),(103,sL10U)]}) ⟨sBtwS_ok,sL10U_ok,trivial⟩ (loopsOK_nil _ _ _) 400 ln (fun j ts ch=>∃ g,allB j (ryLSP lo ln lc lg ao an ac ag G B R K bg br)=true∧ts=ryLSH lo ln lc lg ao an ac ag G B R K bg br (.int (j:Int)) g∧ch=ryLST lo ln lc lg ao an ac ag G B R K bg br) ?_ ?_ hT hd hs
 ·rintro j _ _ ⟨g,hall,rfl,rfl⟩ hj
  refine @Eq.mpr _ _ (ryLSB lo ln lc lg ao an ac ag G B R K bg br j g _ _) ?_
  dsimp -zeta -proj -iota -eta -failIfUnchanged (etaStruct:=.none) only
  by_cases hlt:j<ln
  ·have hjn:(0:Int)≤(j:Int)∧(j:Int)<(ln:Int):=⟨by omega,by omega⟩
   clear h1
   cases hP:ryLSP lo ln lc lg ao an ac ag G B R K bg br j
   all_goals cases hp0:btw (lg j) (-1) 1000000
   all_goals cases hp1:ieq (lg j) (-1)
   all_goals by_cases hp2:(j:Int) / 9<bankN G B R K
   all_goals by_cases hp3:(j:Int) % 9+1≤5
   all_goals have hn1:=ieq_ne hp1
   all_goals (first | (exfalso;simp [ryLSP,hp0,hp1,hp2,hp3,hn1] at hP;done) | skip)
   all_goals
    repeat' (first
     | with_reducible exact rfl
     | exact True.intro
     | with_reducible assumption
     | (refine ⟨hlt,?_⟩;show Next _ _ _ _;refine Next.mk (fun g=>ryLSH lo ln lc lg ao an ac ag G B R K bg br (.int ((j+1:Nat):Int)) g) _ ⟨_,allB_succ hall hP,rfl,rfl⟩ rfl fun w hw=>hw.sel [0,1,2,3] (by simp))
     | (refine Next.mk (fun g=>ryLSR lo ln lc lg ao an ac ag G B R K bg br j g) _ (hr _ j hlt hall hP) rfl fun w hw=>hw.sel [0,1,2,3] (by simp))
     | refine And.intro ?_ ?_
     | (refine fun (h:@Eq Bool _ _)=>?_;exfalso;first | (simp [hp0,hp1,hp2,hp3,hn1] at h;done) | (simp [hp0,hp1,hp2,hp3,hn1] at h;omega))
     | intro _
     | omega)
  ·have hjn:ln=j:=by omega
   subst hjn
   repeat' (first
    | with_reducible exact rfl
    | exact True.intro
    | (refine Next.mk (fun g=>ryLSH lo ln lc lg ao an ac ag G B R K bg br (.int (ln:Int)) g) _ (hk _ hall) rfl fun w hw=>hw.sel [0,1,2,3] (by simp))
    | refine And.intro ?_ ?_
    | (refine fun (h:@Eq Bool _ _)=>?_;exfalso;first | (simp at h;done) | (simp at h;omega))
    | intro _)
 ·refine Next.mk (fun g=>ryLSH lo ln lc lg ao an ac ag G B R K bg br (.int ((0:Nat):Int)) g) _ ⟨_,allB_zero _,rfl,rfl⟩ h1 fun w hw=>?_
  rw [← hch]
  exact hw.sel [0,1,2,3] (by simp)
def sryLSw (lo:Option Addr)(ln lc:Nat)(lg:Nat→Int)(ao:Option Addr)(an ac:Nat)(ag:Nat→Int)(G B R K:Int):LSm:=fun ts ch kk=>∃ bg br,sryLS lo ln lc lg ao an ac ag G B R K bg br ts ch kk
theorem ryLSw_ok (lo:Option Addr)(ln lc:Nat)(lg:Nat→Int)(ao:Option Addr)(an ac:Nat)(ag:Nat→Int)(G B R K:Int)(hn:ln≤9223372036854775807)(X:Cx):LoopOK Tryz.prog X (theLoop Tryz.f30 0) (sryLSw lo ln lc lg ao an ac ag G B R K):=by
 rintro ts ch kk a w ⟨bg,br,h⟩ hT hd hs
 exact ryLS_ok lo ln lc lg ao an ac ag G B R K bg br hn X ts ch kk a w h hT hd hs
def ryASH (lo:Option Addr)(ln lc:Nat)(lg:Nat→Int)(ao:Option Addr)(an ac:Nat)(ag:Nat→Int)(G B R K:Int)(bg br:Nat)(i:SC)(g:Nat→Value):List SV:=hdN [(2,.a (.c (.ptr 2 bg 0))),(3,.a (.c (.ptr 3 br 0))),(6,.a (.c i))] g 0 86
def ryASR (lo:Option Addr)(ln lc:Nat)(lg:Nat→Int)(ao:Option Addr)(an ac:Nat)(ag:Nat→Int)(G B R K:Int)(bg br:Nat)(j:Nat)(g:Nat→Value):List SV:=hdN [(4,.a (.c (.lit false)))] g 0 86
def ryAST (lo:Option Addr)(ln lc:Nat)(lg:Nat→Int)(ao:Option Addr)(an ac:Nat)(ag:Nat→Int)(G B R K:Int)(bg br:Nat):List Ch:=[.row ⟨false,lo,0,1,ln,0,[fun i=>.int (lg i)]⟩,.row ⟨false,ao,0,1,an,0,[fun i=>.int (ag i)]⟩,.cells bg 68 [.int G,.int B,.int R,.int K],.cells br 82 [.sl 0 lo ln lc,.sl 1 ao an ac]]
def ryASP (lo:Option Addr)(ln lc:Nat)(lg:Nat→Int)(ao:Option Addr)(an ac:Nat)(ag:Nat→Int)(G B R K:Int)(bg br:Nat)(j:Nat):Bool:=btw (ag j) 0 1000000&&!(decide (0<j)&&decide (ag j≤ag (j-1)))
def sryAS (lo:Option Addr)(ln lc:Nat)(lg:Nat→Int)(ao:Option Addr)(an ac:Nat)(ag:Nat→Int)(G B R K:Int)(bg br:Nat):LSm:=fun ts ch k =>
 (ts.map SV.den=(ryASH lo ln lc lg ao an ac ag G B R K bg br (.il 0) (fun d=>(ts.getD d .undef).den)).map SV.den∧selC ch [0,1,2,3]=ryAST lo ln lc lg ao an ac ag G B R K bg br) ∧
  (∀ g,allB an (ryASP lo ln lc lg ao an ac ag G B R K bg br)=true→k (.exit 2) (ryASH lo ln lc lg ao an ac ag G B R K bg br (.int (an:Int)) g) (ryAST lo ln lc lg ao an ac ag G B R K bg br))∧(∀ g j,ltN j an→allB j (ryASP lo ln lc lg ao an ac ag G B R K bg br)=true→ryASP lo ln lc lg ao an ac ag G B R K bg br j=false→k .ret (ryASR lo ln lc lg ao an ac ag G B R K bg br j g) (ryAST lo ln lc lg ao an ac ag G B R K bg br))
theorem ryASB (lo:Option Addr)(ln lc:Nat)(lg:Nat→Int)(ao:Option Addr)(an ac:Nat)(ag:Nat→Int)(G B R K:Int)(bg br:Nat)(j:Nat)(g:Nat→Value)(NX:List SV→List Ch→Prop)(kx:Exit→List SV→List Ch→Prop):(exCode Tryz.prog {tb:=[(28,sBtw)]} 400 (theLoop Tryz.f30 1) (ryASH lo ln lc lg ao an ac ag G B R K bg br (.int (j:Int)) g) (ryAST lo ln lc lg ao an ac ag G B R K bg br) (loopK NX kx))=(
 (fun a:SV=>(fun b:SV=>(fun c:SV=>(fun d:SV=>(fun h:SV=>(fun k:SV=>(fun l:SV=>(fun m:SV=>(fun n:SV=>(fun o:SV=>(fun p:SV=>(fun q:SV=>(fun r:SV=>(fun s:SV=>(fun t:SV=>(fun u:SV=>(fun v:SV=>(fun w:SV=>(fun x:SV=>(fun y:SV=>(fun z:SV=>(fun C:SV=>(fun D:SV=>(fun E:SV=>(fun F:SV=>(fun H:SV=>(fun I:SV=>(fun J:SV=>(fun L:SV=>(fun M:SV=>(fun N:SV=>(fun O:SV=>(fun P:SV=>(fun Q:SV=>(fun S:SV=>(fun T:SV=>(fun U:SV=>(fun V:SV=>(fun W:SV=>(fun X:SV=>(fun Y:SV=>(fun Z:SV=>(fun aa:SV=>(fun ab:SV=>(fun ad:SV=>(fun af:SV=>(fun ah:SV=>(fun aj:SV=>(fun ak:SV=>(fun al:SV=>(fun am:SV=>(fun ap:SV=>(fun aq:SV=>(fun ar:SV=>(fun au:SV=>(fun av:SV=>(fun aw:SV=>(fun ax:SV=>(fun ay:SV=>(fun az:SV=>(fun aA:Bool=>(fun aB:Bool=>(fun aC:Bool=>(fun aD:SV=>(fun aE:Nat=>(fun aF:SV=>(fun aG:SV=>(fun aH:Bool=>(fun aI:SV=>(fun aJ:SV=>(fun aK:Prop=>(fun aL:Bool=>(fun aM:SV=>(fun aN:List Ch=>br=br∧(aH=true→br=br∧ao=ao∧an=an∧aK∧ao=ao∧j<an∧True∧(aC=false→(aB=true→br=br∧rng (((j:Nat):Int)-(1:Int))∧ao=ao∧an=an∧(0≤(((j:Nat):Int)-(1:Int))∧(((j:Nat):Int)-(1:Int))<((an:Nat):Int))∧ao=ao∧aE<an∧br=br∧ao=ao∧an=an∧aK∧ao=ao∧j<an∧(aL=true→kx Exit.ret [k,h,ar,aq,fV,d,aw,c,b,a,ap,am,al,ak,aj,ah,af,ad,ab,aa,Z,Y,X,W,V,U,T,S,Q,P,O,N,M,L,J,I,H,F,E,D,C,z,y,x,w,v,u,t,s,r,q,p,o,n,aw,m,av,ax,tV,vV (g 59),vV (g 60),m,av,aw,au,l,aD,aG,fV,aw,aF,tV,m,av,aw,az,aJ,aI,m,av,aw,au,l,aM,aM,tV] aN)∧(aL=false→rng (((j:Nat):Int)+(1:Int))∧NX [k,h,ar,aq,vV (g 4),d,ay,c,b,a,ap,am,al,ak,aj,ah,af,ad,ab,aa,Z,Y,X,W,V,U,T,S,Q,P,O,N,M,L,J,I,H,F,E,D,C,z,y,x,w,v,u,t,s,r,q,p,o,n,aw,m,av,ax,tV,aw,ay,m,av,aw,au,l,aD,aG,fV,aw,aF,tV,m,av,aw,az,aJ,aI,m,av,aw,au,l,aM,aM,fV] aN))∧(aB=false→rng (((j:Nat):Int)+(1:Int))∧NX [k,h,ar,aq,vV (g 4),d,ay,c,b,a,ap,am,al,ak,aj,ah,af,ad,ab,aa,Z,Y,X,W,V,U,T,S,Q,P,O,N,M,L,J,I,H,F,E,D,C,z,y,x,w,v,u,t,s,r,q,p,o,n,aw,m,av,ax,tV,aw,ay,m,av,aw,au,l,aD,aG,fV,aw,aF,fV,xV,xV,xV,xV,xV,xV,xV,xV,xV,xV,xV,xV,fV,fV] aN))∧(aC=true→kx Exit.ret [k,h,ar,aq,fV,d,aw,c,b,a,ap,am,al,ak,aj,ah,af,ad,ab,aa,Z,Y,X,W,V,U,T,S,Q,P,O,N,M,L,J,I,H,F,E,D,C,z,y,x,w,v,u,t,s,r,q,p,o,n,aw,m,av,ax,tV,vV (g 59),vV (g 60),m,av,aw,au,l,aD,aG,tV,xV,xV,xV,xV,xV,xV,xV,xV,xV,xV,xV,xV,xV,xV,xV,xV,tV] aN))∧(aH=false→kx (Exit.exit 2) [k,h,ar,aq,vV (g 4),d,aw,c,b,a,ap,am,al,ak,aj,ah,af,ad,ab,aa,Z,Y,X,W,V,U,T,S,Q,P,O,N,M,L,J,I,H,F,E,D,C,z,y,x,w,v,u,t,s,r,q,p,o,n,aw,m,av,ax,fV,vV (g 59),vV (g 60),vV (g 61),vV (g 62),vV (g 63),vV (g 64),vV (g 65),vV (g 66),vV (g 67),vV (g 68),vV (g 69),vV (g 70),vV (g 71),vV (g 72),vV (g 73),vV (g 74),vV (g 75),vV (g 76),vV (g 77),vV (g 78),vV (g 79),vV (g 80),vV (g 81),vV (g 82),vV (g 83),vV (g 84),vV (g 85)] aN)) [Hr false lo 0 1 ln 0 [fun aN=>Ci (lg aN)],Hr false ao 0 1 an 0 [fun aN=>Ci (ag aN)],Hc bg 68 [Ci G,Ci B,Ci R,Ci K],Hc br 82 [Cs 0 lo ln lc,Cs 1 ao an ac]]) (bV aL)) (decide ((ag aE) ≥ (ag j)))) (0≤((j:Nat):Int)∧((j:Nat):Int)<((an:Nat):Int))) (rV 1 ao 1 aE 0)) (iV (ag aE))) (decide (((j:Nat):Int)<((an:Nat):Int)))) (bV aC)) (bV aB)) (Int.toNat (((j:Nat):Int)-(1:Int)))) (bV aA)) (! aA)) (decide (((j:Nat):Int) > (0:Int)))) (btw (ag j) (0:Int) (1000000:Int))) (iV (((j:Nat):Int)-(1:Int)))) (iV (((j:Nat):Int)+(1:Int)))) (iV ((an:Nat):Int))) (iV ((j:Nat):Int))) (sV 1 ao an ac)) (rV 1 ao 1 j 0)) (pV 2 bg 0)) (pV 3 br 0)) (vV (g 10))) (vV (g 11))) (vV (g 12))) (vV (g 13))) (vV (g 14))) (vV (g 15))) (vV (g 16))) (vV (g 17))) (vV (g 18))) (vV (g 19))) (vV (g 20))) (vV (g 21))) (vV (g 22))) (vV (g 23))) (vV (g 24))) (vV (g 25))) (vV (g 26))) (vV (g 27))) (vV (g 28))) (vV (g 29))) (vV (g 30))) (vV (g 31))) (vV (g 32))) (vV (g 33))) (vV (g 34))) (vV (g 35))) (vV (g 36))) (vV (g 37))) (vV (g 38))) (vV (g 39))) (vV (g 40))) (vV (g 41))) (vV (g 42))) (vV (g 43))) (vV (g 44))) (vV (g 45))) (vV (g 46))) (vV (g 47))) (vV (g 48))) (vV (g 49))) (vV (g 50))) (vV (g 51))) (vV (g 52))) (vV (g 53))) (pV 3 br 1)) (iV (ag j))) (vV (g 0))) (vV (g 1))) (vV (g 5))) (vV (g 7))) (vV (g 8))) (vV (g 9))):=by kernel_rfl
theorem ryAS_ok (lo:Option Addr)(ln lc:Nat)(lg:Nat→Int)(ao:Option Addr)(an ac:Nat)(ag:Nat→Int)(G B R K:Int)(bg br:Nat)(hn:an≤9223372036854775807)(X:Cx):LoopOK Tryz.prog X (theLoop Tryz.f30 1) (sryAS lo ln lc lg ao an ac ag G B R K bg br):=by
 intro ts ch k a w hS hT hd hs
 obtain ⟨⟨h1,hch⟩,hk,hr⟩:=hS
 refine loop_ok mixed (E:={tb:=[(28,sBtw)]}) ⟨sBtwS_ok,trivial⟩ (loopsOK_nil _ _ _) 400 an (fun j ts ch=>∃ g,allB j (ryASP lo ln lc lg ao an ac ag G B R K bg br)=true∧ts=ryASH lo ln lc lg ao an ac ag G B R K bg br (.int (j:Int)) g∧ch=ryAST lo ln lc lg ao an ac ag G B R K bg br) ?_ ?_ hT hd hs
 ·rintro j _ _ ⟨g,hall,rfl,rfl⟩ hj
  refine @Eq.mpr _ _ (ryASB lo ln lc lg ao an ac ag G B R K bg br j g _ _) ?_
  dsimp -zeta -proj -iota -eta -failIfUnchanged (etaStruct:=.none) only
  by_cases hlt:j<an
  ·have hjn:(0:Int)≤(j:Int)∧(j:Int)<(an:Int):=⟨by omega,by omega⟩
   clear h1
   have ej:Int.toNat ((j:Int)-1)=j-1:=by omega
   cases hP:ryASP lo ln lc lg ao an ac ag G B R K bg br j
   all_goals cases hp0:btw (ag j) 0 1000000
   all_goals by_cases hp1:0<j
   all_goals by_cases hp2:ag j≤ag (j-1)
   all_goals (first | (exfalso;simp [ryASP,hp0,hp1,hp2] at hP;done) | skip)
   all_goals
    repeat' (first
     | with_reducible exact rfl
     | exact True.intro
     | with_reducible assumption
     | (refine ⟨hlt,?_⟩;show Next _ _ _ _;refine Next.mk (fun g=>ryASH lo ln lc lg ao an ac ag G B R K bg br (.int ((j+1:Nat):Int)) g) _ ⟨_,allB_succ hall hP,rfl,rfl⟩ rfl fun w hw=>hw.sel [0,1,2,3] (by simp))
     | (refine Next.mk (fun g=>ryASR lo ln lc lg ao an ac ag G B R K bg br j g) _ (hr _ j hlt hall hP) rfl fun w hw=>hw.sel [0,1,2,3] (by simp))
     | refine And.intro ?_ ?_
     | (refine fun (h:@Eq Bool _ _)=>?_;exfalso;first | (simp [hp0,hp1,hp2] at h;done) | (simp [hp0,hp1,hp2] at h;omega))
     | (rw [ej])
     | (intro h;exfalso;rw [ej] at h;simp at h;omega)
     | intro _
     | omega)
  ·have hjn:an=j:=by omega
   subst hjn
   repeat' (first
    | with_reducible exact rfl
    | exact True.intro
    | (refine Next.mk (fun g=>ryASH lo ln lc lg ao an ac ag G B R K bg br (.int (an:Int)) g) _ (hk _ hall) rfl fun w hw=>hw.sel [0,1,2,3] (by simp))
    | refine And.intro ?_ ?_
    | (refine fun (h:@Eq Bool _ _)=>?_;exfalso;first | (simp at h;done) | (simp at h;omega))
    | intro _)
 ·refine Next.mk (fun g=>ryASH lo ln lc lg ao an ac ag G B R K bg br (.int ((0:Nat):Int)) g) _ ⟨_,allB_zero _,rfl,rfl⟩ h1 fun w hw=>?_
  rw [← hch]
  exact hw.sel [0,1,2,3] (by simp)
def sryASw (lo:Option Addr)(ln lc:Nat)(lg:Nat→Int)(ao:Option Addr)(an ac:Nat)(ag:Nat→Int)(G B R K:Int):LSm:=fun ts ch kk=>∃ bg br,sryAS lo ln lc lg ao an ac ag G B R K bg br ts ch kk
theorem ryASw_ok (lo:Option Addr)(ln lc:Nat)(lg:Nat→Int)(ao:Option Addr)(an ac:Nat)(ag:Nat→Int)(G B R K:Int)(hn:an≤9223372036854775807)(X:Cx):LoopOK Tryz.prog X (theLoop Tryz.f30 1) (sryASw lo ln lc lg ao an ac ag G B R K):=by
 rintro ts ch kk a w ⟨bg,br,h⟩ hT hd hs
 exact ryAS_ok lo ln lc lg ao an ac ag G B R K bg br hn X ts ch kk a w h hT hd hs
end Go.Proofs.YtmnccapnjphmfaaGreat

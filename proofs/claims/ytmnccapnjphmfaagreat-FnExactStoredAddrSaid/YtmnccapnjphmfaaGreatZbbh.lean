/-
  FnExactStoredAddr: a part of the walk (merged and squeezed by program: SxPrK).
-/
import Derived.Test.YtmnccapnjphmfaaGreatZbae
import Derived.Test.YtmnccapnjphmfaaGreatZbaf
namespace Go.Proofs.YtmnccapnjphmfaaGreat
set_option linter.unusedVariables false
set_option linter.unusedSimpArgs false
open Go.RowKit
set_option maxRecDepth 100000
set_option maxHeartbeats 8000000
abbrev rows16 (R:Int):Prop:=2≤R∧R≤16
def rkB (n:Nat)(u:Nat→Nat→Int)(v:Nat→Nat→Bool)(pw G B R K:Int):Bool:=geoB G B R K&&ieq (n:Int) (bankN G B R K)&&btw pw 0 2&&allB n (fun j=>btw (u 1 j) 0 (R-1)&&(v 0 j || ieq (u 1 j) 0)&&!(v 0 j&&ieq pw 2))
def rkIH (ao:Option Addr)(n c:Nat)(u:Nat→Nat→Int)(v:Nat→Nat→Bool)(pw:Int)(G B R K:Int)(bg br:Nat)(i:SC)(g:Nat→Value):List SV:=hdN [(2,.a (.c (.ptr 1 bg 0))),(3,.a (.c (.ptr 2 br 0))),(25,.a (.c (.sl 0 ao n c))),(26,.a (.c (.int (n:Int)))),(27,.a (.c i))] g 0 58
def rkIR (ao:Option Addr)(n c:Nat)(u:Nat→Nat→Int)(v:Nat→Nat→Bool)(pw:Int)(G B R K:Int)(bg br:Nat)(j:Nat)(g:Nat→Value):List SV:=hdN [(4,.a (.c (.lit false)))] g 0 58
def rkIT (ao:Option Addr)(n c:Nat)(u:Nat→Nat→Int)(v:Nat→Nat→Bool)(pw:Int)(G B R K:Int)(bg br:Nat):List Ch:=[.row ⟨false,ao,0,2,n,0,flK u v 0 [false,true]⟩,.cells bg 68 [.int G,.int B,.int R,.int K],.cells br 81 [.sl 0 ao n c,.int pw]]
def rkIP (ao:Option Addr)(n c:Nat)(u:Nat→Nat→Int)(v:Nat→Nat→Bool)(pw:Int)(G B R K:Int)(bg br:Nat)(j:Nat):Bool:=btw (u 1 j) 0 (R-1)&&(v 0 j || ieq (u 1 j) 0)
def srkI (ao:Option Addr)(n c:Nat)(u:Nat→Nat→Int)(v:Nat→Nat→Bool)(pw:Int)(G B R K:Int)(bg br:Nat):LSm:=fun ts ch k =>
 (ts.map SV.den=(rkIH ao n c u v pw G B R K bg br (.il 0) (fun d=>(ts.getD d .undef).den)).map SV.den∧selC ch [0,1,2]=rkIT ao n c u v pw G B R K bg br) ∧
  (∀ g,allB n (rkIP ao n c u v pw G B R K bg br)=true→k (.exit 0) (rkIH ao n c u v pw G B R K bg br (.int (n:Int)) g) (rkIT ao n c u v pw G B R K bg br))∧(∀ g j,ltN j n→allB j (rkIP ao n c u v pw G B R K bg br)=true→rkIP ao n c u v pw G B R K bg br j=false→k .ret (rkIR ao n c u v pw G B R K bg br j g) (rkIT ao n c u v pw G B R K bg br))
theorem rkIB (ao:Option Addr)(n c:Nat)(u:Nat→Nat→Int)(v:Nat→Nat→Bool)(pw:Int)(G B R K:Int)(bg br:Nat)(j:Nat)(g:Nat→Value)(NX:List SV→List Ch→Prop)(kx:Exit→List SV→List Ch→Prop):(exCode Tryz.prog {tb:=[(61,sBtw)]} 400 (theLoop Tryz.f62 0) (rkIH ao n c u v pw G B R K bg br (.int (j:Int)) g) (rkIT ao n c u v pw G B R K bg br) (loopK NX kx))=(
 (fun a:SV=>(fun b:SV=>(fun d:SV=>(fun h:SV=>(fun k:SV=>(fun l:SV=>(fun m:SV=>(fun o:SV=>(fun p:SV=>(fun q:SV=>(fun r:SV=>(fun s:SV=>(fun t:SV=>(fun w:SV=>(fun x:SV=>(fun y:SV=>(fun z:SV=>(fun C:SV=>(fun D:SV=>(fun E:SV=>(fun F:SV=>(fun H:SV=>(fun I:SV=>(fun J:SV=>(fun L:SV=>(fun M:SV=>(fun N:SV=>(fun O:SV=>(fun P:SV=>(fun Q:SV=>(fun S:SV=>(fun T:SV=>(fun U:SV=>(fun V:SV=>(fun W:SV=>(fun X:SV=>(fun Y:SV=>(fun Z:SV=>(fun aa:SV=>(fun ab:SV=>(fun ac:Bool=>(fun ad:SV=>(fun af:List SC=>(fun ag:SV=>(fun ah:Ch=>(fun aj:SV=>(fun ak:Bool=>(fun al:Ch=>(fun am:Bool=>(fun an:SV=>(fun ap:SV=>(fun aq:Bool=>(fun ar:Ch=>(aq=true→ao=ao∧n=n∧(0≤((j:Nat):Int)∧((j:Nat):Int)<((n:Nat):Int))∧ao=ao∧j<n∧∀ au:Nat,(fun av:SV=>(fun aw:SV=>(fun ax:Ch=>au=au∧au=au∧bg=bg∧rng (R-(1:Int))∧(am=false→au=au∧((! (v 0 j))=true→au=au∧(ac=true→kx Exit.ret [l,k,U,T,fV,h,aw,d,b,a,S,Q,P,O,N,M,L,J,I,H,F,E,D,C,z,W,ab,aa,tV,X,ag,av,V,y,iV R,Z,an,ap,fV,aw,bV (v 0 j),Y,tV,av,V,ad,ad,tV,vV (g 48),x,w,t,s,r,q,p,o,m] [ar,al,ah,ax])∧(ac=false→rng (((j:Nat):Int)+(1:Int))∧NX [l,k,U,T,vV (g 4),h,aw,d,b,a,S,Q,P,O,N,M,L,J,I,H,F,E,D,C,z,W,ab,aj,tV,X,ag,av,V,y,iV R,Z,an,ap,fV,aw,bV (v 0 j),Y,tV,av,V,ad,ad,fV,aj,x,w,t,s,r,q,p,o,m] [ar,al,ah,ax]))∧((! (v 0 j))=false→rng (((j:Nat):Int)+(1:Int))∧NX [l,k,U,T,vV (g 4),h,aw,d,b,a,S,Q,P,O,N,M,L,J,I,H,F,E,D,C,z,W,ab,aj,tV,X,ag,av,V,y,iV R,Z,an,ap,fV,aw,bV (v 0 j),Y,fV,xV,xV,xV,fV,fV,aj,x,w,t,s,r,q,p,o,m] [ar,al,ah,ax]))∧(am=true→kx Exit.ret [l,k,U,T,fV,h,aw,d,b,a,S,Q,P,O,N,M,L,J,I,H,F,E,D,C,z,W,ab,aa,tV,X,ag,av,V,y,iV R,Z,an,ap,tV,xV,xV,xV,xV,xV,xV,xV,xV,tV,vV (g 48),x,w,t,s,r,q,p,o,m] [ar,al,ah,ax])) (Hc au 186 af)) (pV 3 au 0)) (pV 3 au 1))∧(aq=false→kx (Exit.exit 0) [l,k,U,T,vV (g 4),h,vV (g 6),d,b,a,S,Q,P,O,N,M,L,J,I,H,F,E,D,C,z,W,ab,aa,fV,vV (g 29),vV (g 30),vV (g 31),vV (g 32),vV (g 33),vV (g 34),vV (g 35),vV (g 36),vV (g 37),vV (g 38),vV (g 39),vV (g 40),vV (g 41),vV (g 42),vV (g 43),vV (g 44),vV (g 45),vV (g 46),vV (g 47),vV (g 48),x,w,t,s,r,q,p,o,m] [ar,al,ah])) (Hr false ao 0 2 n 0 [fun ar=>Cb (v 0 ar),fun ar=>Ci (u 1 ar)])) (decide (((j:Nat):Int)<((n:Nat):Int)))) (bV am)) (bV ak)) (! ak)) (Hc bg 68 [Ci G,Ci B,Ci R,Ci K])) (btw (u 1 j) (0:Int) (R-(1:Int)))) (iV (((j:Nat):Int)+(1:Int)))) (Hc br 81 [Cs 0 ao n c,Ci pw])) (aV af)) [Cb (v 0 j),Ci (u 1 j)]) (bV ac)) ((u 1 j) != (0:Int))) (iV ((n:Nat):Int))) (iV ((j:Nat):Int))) (iV (R-(1:Int)))) (bV (! (v 0 j)))) (rV 0 ao 2 j 0)) (sV 0 ao n c)) (iV (u 1 j))) (pV 1 bg 0)) (pV 2 br 0)) (vV (g 10))) (vV (g 11))) (vV (g 12))) (vV (g 13))) (vV (g 14))) (vV (g 15))) (vV (g 16))) (vV (g 17))) (vV (g 18))) (vV (g 19))) (vV (g 20))) (vV (g 21))) (vV (g 22))) (vV (g 23))) (vV (g 24))) (pV 1 bg 2)) (vV (g 49))) (vV (g 50))) (vV (g 51))) (vV (g 52))) (vV (g 53))) (vV (g 54))) (vV (g 55))) (vV (g 56))) (vV (g 57))) (vV (g 0))) (vV (g 1))) (vV (g 5))) (vV (g 7))) (vV (g 8))) (vV (g 9))):=by kernel_rfl
theorem rkI_ok (ao:Option Addr)(n c:Nat)(u:Nat→Nat→Int)(v:Nat→Nat→Bool)(pw:Int)(G B R K:Int)(bg br:Nat)(hn:n≤9223372036854775807)(hR:2≤R∧R≤16)(X:Cx):LoopOK Tryz.prog X (theLoop Tryz.f62 0) (srkI ao n c u v pw G B R K bg br):=by
 intro ts ch k a w hS hT hd hs
 obtain ⟨⟨h1,hch⟩,hk,hr⟩:=hS
 refine loop_ok mixed (E:={tb:=[(61,sBtw)]}) ⟨sBtwI_ok,trivial⟩ (loopsOK_nil _ _ _) 400 n (fun j ts ch=>∃ g,allB j (rkIP ao n c u v pw G B R K bg br)=true∧ts=rkIH ao n c u v pw G B R K bg br (.int (j:Int)) g∧ch=rkIT ao n c u v pw G B R K bg br) ?_ ?_ hT hd hs
 ·rintro j _ _ ⟨g,hall,rfl,rfl⟩ hj
  refine @Eq.mpr _ _ (rkIB ao n c u v pw G B R K bg br j g _ _) ?_
  dsimp -zeta -proj -iota -eta -failIfUnchanged (etaStruct:=.none) only
  by_cases hlt:j<n
  ·have hjn:(0:Int)≤(j:Int)∧(j:Int)<(n:Int):=⟨by omega,by omega⟩
   clear h1
   cases hP:rkIP ao n c u v pw G B R K bg br j
   all_goals cases hp0:btw (u 1 j) 0 (R-1)
   all_goals cases hp1:v 0 j
   all_goals cases hp2:ieq (u 1 j) 0
   all_goals have hn2:=ieq_ne hp2
   all_goals (first | (exfalso;simp [rkIP,hp0,hp1,hp2,hn2] at hP;done) | skip)
   all_goals
    repeat' (first
     | with_reducible exact rfl
     | exact True.intro
     | with_reducible assumption
     | (refine ⟨hlt,?_⟩;show Next _ _ _ _;refine Next.mk (fun g=>rkIH ao n c u v pw G B R K bg br (.int ((j+1:Nat):Int)) g) _ ⟨_,allB_succ hall hP,rfl,rfl⟩ rfl fun w hw=>hw.sel [0,1,2] (by simp))
     | (refine Next.mk (fun g=>rkIR ao n c u v pw G B R K bg br j g) _ (hr _ j hlt hall hP) rfl fun w hw=>hw.sel [0,1,2] (by simp))
     | refine And.intro ?_ ?_
     | (refine fun (h:@Eq Bool _ _)=>?_;exfalso;first | (simp [hp0,hp1,hp2,hn2] at h;done) | (simp [hp0,hp1,hp2,hn2] at h;omega))
     | intro _
     | omega)
  ·have hjn:n=j:=by omega
   subst hjn
   repeat' (first
    | with_reducible exact rfl
    | exact True.intro
    | (refine Next.mk (fun g=>rkIH ao n c u v pw G B R K bg br (.int (n:Int)) g) _ (hk _ hall) rfl fun w hw=>hw.sel [0,1,2] (by simp))
    | refine And.intro ?_ ?_
    | (refine fun (h:@Eq Bool _ _)=>?_;exfalso;first | (simp at h;done) | (simp at h;omega))
    | intro _)
 ·refine Next.mk (fun g=>rkIH ao n c u v pw G B R K bg br (.int ((0:Nat):Int)) g) _ ⟨_,allB_zero _,rfl,rfl⟩ h1 fun w hw=>?_
  rw [← hch]
  exact hw.sel [0,1,2] (by simp)
def srkIw (ao:Option Addr)(n c:Nat)(u:Nat→Nat→Int)(v:Nat→Nat→Bool)(pw:Int)(G B R K:Int):LSm:=fun ts ch kk=>∃ bg br,srkI ao n c u v pw G B R K bg br ts ch kk
theorem rkIw_ok (ao:Option Addr)(n c:Nat)(u:Nat→Nat→Int)(v:Nat→Nat→Bool)(pw:Int)(G B R K:Int)(hn:n≤9223372036854775807)(hR:2≤R∧R≤16)(X:Cx):LoopOK Tryz.prog X (theLoop Tryz.f62 0) (srkIw ao n c u v pw G B R K):=by
 rintro ts ch kk a w ⟨bg,br,h⟩ hT hd hs
 exact rkI_ok ao n c u v pw G B R K bg br hn hR X ts ch kk a w h hT hd hs
def rkSH (ao:Option Addr)(n c:Nat)(u:Nat→Nat→Int)(v:Nat→Nat→Bool)(pw:Int)(G B R K:Int)(bg br:Nat)(i:SC)(g:Nat→Value):List SV:=hdN [(2,.a (.c (.ptr 1 bg 0))),(3,.a (.c (.ptr 2 br 0))),(5,.a (.c i))] g 0 62
def rkSR (ao:Option Addr)(n c:Nat)(u:Nat→Nat→Int)(v:Nat→Nat→Bool)(pw:Int)(G B R K:Int)(bg br:Nat)(j:Nat)(g:Nat→Value):List SV:=hdN [(4,.a (.c (.lit false)))] g 0 62
def rkST (ao:Option Addr)(n c:Nat)(u:Nat→Nat→Int)(v:Nat→Nat→Bool)(pw:Int)(G B R K:Int)(bg br:Nat):List Ch:=[.row ⟨false,ao,0,2,n,0,flK u v 0 [false,true]⟩,.cells bg 68 [.int G,.int B,.int R,.int K],.cells br 81 [.sl 0 ao n c,.int pw]]
def rkSP (ao:Option Addr)(n c:Nat)(u:Nat→Nat→Int)(v:Nat→Nat→Bool)(pw:Int)(G B R K:Int)(bg br:Nat)(j:Nat):Bool:=btw (u 1 j) 0 (R-1)&&(v 0 j || ieq (u 1 j) 0)&&!(v 0 j&&ieq pw 2)
def srkS (ao:Option Addr)(n c:Nat)(u:Nat→Nat→Int)(v:Nat→Nat→Bool)(pw:Int)(G B R K:Int)(bg br:Nat):LSm:=fun ts ch k =>
 (ts.map SV.den=(rkSH ao n c u v pw G B R K bg br (.il 0) (fun d=>(ts.getD d .undef).den)).map SV.den∧selC ch [0,1,2]=rkST ao n c u v pw G B R K bg br) ∧
  (∀ g,allB n (rkSP ao n c u v pw G B R K bg br)=true→k (.exit 0) (rkSH ao n c u v pw G B R K bg br (.int (n:Int)) g) (rkST ao n c u v pw G B R K bg br))∧(∀ g j,ltN j n→allB j (rkSP ao n c u v pw G B R K bg br)=true→rkSP ao n c u v pw G B R K bg br j=false→k .ret (rkSR ao n c u v pw G B R K bg br j g) (rkST ao n c u v pw G B R K bg br))
theorem rkSB (ao:Option Addr)(n c:Nat)(u:Nat→Nat→Int)(v:Nat→Nat→Bool)(pw:Int)(G B R K:Int)(bg br:Nat)(j:Nat)(g:Nat→Value)(NX:List SV→List Ch→Prop)(kx:Exit→List SV→List Ch→Prop):(exCode Tryz.prog {tb:=[(28,sBtw)]} 400 (theLoop Tryz.f29 0) (rkSH ao n c u v pw G B R K bg br (.int (j:Int)) g) (rkST ao n c u v pw G B R K bg br) (loopK NX kx))=(
 (fun a:SV=>(fun b:SV=>(fun d:SV=>(fun h:SV=>(fun k:SV=>(fun l:SV=>(fun m:SV=>(fun o:SV=>(fun p:SV=>(fun q:SV=>(fun r:SV=>(fun s:SV=>(fun t:SV=>(fun w:SV=>(fun x:SV=>(fun y:SV=>(fun z:SV=>(fun C:SV=>(fun D:SV=>(fun E:SV=>(fun F:SV=>(fun H:SV=>(fun I:SV=>(fun J:SV=>(fun L:SV=>(fun M:SV=>(fun N:SV=>(fun O:SV=>(fun P:SV=>(fun Q:SV=>(fun S:SV=>(fun T:SV=>(fun U:Bool=>(fun V:SV=>(fun W:SV=>(fun X:SV=>(fun Y:SV=>(fun Z:Bool=>(fun aa:SV=>(fun ab:List SC=>(fun ac:SV=>(fun ad:Ch=>(fun af:SV=>(fun ag:Bool=>(fun ah:Ch=>(fun aj:Bool=>(fun ak:SV=>(fun al:SV=>(fun am:Bool=>(fun an:Ch=>br=br∧(am=true→br=br∧ao=ao∧n=n∧(0≤((j:Nat):Int)∧((j:Nat):Int)<((n:Nat):Int))∧ao=ao∧j<n∧∀ ap:Nat,(fun aq:SV=>(fun ar:SV=>(fun au:Ch=>ap=ap∧ap=ap∧bg=bg∧rng (R-(1:Int))∧(aj=false→ap=ap∧((! (v 0 j))=true→ap=ap∧(Z=false→ap=ap∧((v 0 j)=true→br=br∧(U=true→kx Exit.ret [m,l,N,M,fV,Y,ar,k,h,d,L,J,I,H,F,E,D,C,z,y,x,w,t,s,Y,M,Q,X,tV,r,q,M,Q,Y,S,ac,aq,P,p,a,V,ak,al,fV,ar,O,T,tV,aq,P,aa,aa,aa,fV,ar,O,tV,o,iV pw,W,W,tV] [an,ah,ad,au])∧(U=false→rng (((j:Nat):Int)+(1:Int))∧NX [m,l,N,M,b,af,ar,k,h,d,L,J,I,H,F,E,D,C,z,y,x,w,t,s,Y,M,Q,X,tV,Y,af,M,Q,Y,S,ac,aq,P,p,a,V,ak,al,fV,ar,O,T,tV,aq,P,aa,aa,aa,fV,ar,O,tV,o,iV pw,W,W,fV] [an,ah,ad,au]))∧((v 0 j)=false→rng (((j:Nat):Int)+(1:Int))∧NX [m,l,N,M,b,af,ar,k,h,d,L,J,I,H,F,E,D,C,z,y,x,w,t,s,Y,M,Q,X,tV,Y,af,M,Q,Y,S,ac,aq,P,p,a,V,ak,al,fV,ar,O,T,tV,aq,P,aa,aa,aa,fV,ar,O,fV,xV,xV,xV,fV,fV] [an,ah,ad,au]))∧(Z=true→kx Exit.ret [m,l,N,M,fV,Y,ar,k,h,d,L,J,I,H,F,E,D,C,z,y,x,w,t,s,Y,M,Q,X,tV,r,q,M,Q,Y,S,ac,aq,P,p,a,V,ak,al,fV,ar,O,T,tV,aq,P,aa,aa,aa,tV,xV,xV,xV,xV,xV,xV,xV,tV] [an,ah,ad,au]))∧((! (v 0 j))=false→ap=ap∧((v 0 j)=true→br=br∧(U=true→kx Exit.ret [m,l,N,M,fV,Y,ar,k,h,d,L,J,I,H,F,E,D,C,z,y,x,w,t,s,Y,M,Q,X,tV,r,q,M,Q,Y,S,ac,aq,P,p,a,V,ak,al,fV,ar,O,T,fV,xV,xV,xV,fV,fV,fV,ar,O,tV,o,iV pw,W,W,tV] [an,ah,ad,au])∧(U=false→rng (((j:Nat):Int)+(1:Int))∧NX [m,l,N,M,b,af,ar,k,h,d,L,J,I,H,F,E,D,C,z,y,x,w,t,s,Y,M,Q,X,tV,Y,af,M,Q,Y,S,ac,aq,P,p,a,V,ak,al,fV,ar,O,T,fV,xV,xV,xV,fV,fV,fV,ar,O,tV,o,iV pw,W,W,fV] [an,ah,ad,au]))∧((v 0 j)=false→rng (((j:Nat):Int)+(1:Int))∧NX [m,l,N,M,b,af,ar,k,h,d,L,J,I,H,F,E,D,C,z,y,x,w,t,s,Y,M,Q,X,tV,Y,af,M,Q,Y,S,ac,aq,P,p,a,V,ak,al,fV,ar,O,T,fV,xV,xV,xV,fV,fV,fV,ar,O,fV,xV,xV,xV,fV,fV] [an,ah,ad,au])))∧(aj=true→kx Exit.ret [m,l,N,M,fV,Y,ar,k,h,d,L,J,I,H,F,E,D,C,z,y,x,w,t,s,Y,M,Q,X,tV,r,q,M,Q,Y,S,ac,aq,P,p,a,V,ak,al,tV,xV,xV,xV,xV,xV,xV,xV,xV,tV,tV,xV,xV,xV,xV,xV,xV,xV,tV] [an,ah,ad,au])) (Hc ap 186 ab)) (pV 3 ap 0)) (pV 3 ap 1))∧(am=false→kx (Exit.exit 0) [m,l,N,M,b,Y,vV (g 6),k,h,d,L,J,I,H,F,E,D,C,z,y,x,w,t,s,Y,M,Q,X,fV,r,q,vV (g 31),vV (g 32),vV (g 33),vV (g 34),vV (g 35),vV (g 36),vV (g 37),vV (g 38),vV (g 39),vV (g 40),vV (g 41),vV (g 42),vV (g 43),vV (g 44),vV (g 45),vV (g 46),vV (g 47),vV (g 48),vV (g 49),vV (g 50),vV (g 51),vV (g 52),vV (g 53),vV (g 54),vV (g 55),vV (g 56),vV (g 57),vV (g 58),vV (g 59),vV (g 60),vV (g 61)] [an,ah,ad])) (Hr false ao 0 2 n 0 [fun an=>Cb (v 0 an),fun an=>Ci (u 1 an)])) (decide (((j:Nat):Int)<((n:Nat):Int)))) (bV aj)) (bV ag)) (! ag)) (Hc bg 68 [Ci G,Ci B,Ci R,Ci K])) (btw (u 1 j) (0:Int) (R-(1:Int)))) (iV (((j:Nat):Int)+(1:Int)))) (Hc br 81 [Cs 0 ao n c,Ci pw])) (aV ab)) [Cb (v 0 j),Ci (u 1 j)]) (bV Z)) ((u 1 j) != (0:Int))) (iV ((j:Nat):Int))) (iV ((n:Nat):Int))) (bV U)) (iV (R-(1:Int)))) (pw == (2:Int))) (bV (! (v 0 j)))) (rV 0 ao 2 j 0)) (sV 0 ao n c)) (iV (u 1 j))) (bV (v 0 j))) (pV 1 bg 0)) (pV 2 br 0)) (vV (g 10))) (vV (g 11))) (vV (g 12))) (vV (g 13))) (vV (g 14))) (vV (g 15))) (vV (g 16))) (vV (g 17))) (vV (g 18))) (vV (g 19))) (vV (g 20))) (vV (g 21))) (vV (g 22))) (vV (g 23))) (vV (g 29))) (vV (g 30))) (pV 1 bg 2)) (pV 2 br 1)) (vV (g 0))) (vV (g 1))) (vV (g 7))) (vV (g 8))) (vV (g 9))) (vV (g 4))) (iV R)):=by kernel_rfl
theorem rkS_ok (ao:Option Addr)(n c:Nat)(u:Nat→Nat→Int)(v:Nat→Nat→Bool)(pw:Int)(G B R K:Int)(bg br:Nat)(hn:n≤9223372036854775807)(hR:2≤R∧R≤16)(X:Cx):LoopOK Tryz.prog X (theLoop Tryz.f29 0) (srkS ao n c u v pw G B R K bg br):=by
 intro ts ch k a w hS hT hd hs
 obtain ⟨⟨h1,hch⟩,hk,hr⟩:=hS
 refine loop_ok mixed (E:={tb:=[(28,sBtw)]}) ⟨sBtwS_ok,trivial⟩ (loopsOK_nil _ _ _) 400 n (fun j ts ch=>∃ g,allB j (rkSP ao n c u v pw G B R K bg br)=true∧ts=rkSH ao n c u v pw G B R K bg br (.int (j:Int)) g∧ch=rkST ao n c u v pw G B R K bg br) ?_ ?_ hT hd hs
 ·rintro j _ _ ⟨g,hall,rfl,rfl⟩ hj
  refine @Eq.mpr _ _ (rkSB ao n c u v pw G B R K bg br j g _ _) ?_
  dsimp -zeta -proj -iota -eta -failIfUnchanged (etaStruct:=.none) only
  by_cases hlt:j<n
  ·have hjn:(0:Int)≤(j:Int)∧(j:Int)<(n:Int):=⟨by omega,by omega⟩
   clear h1
   cases hP:rkSP ao n c u v pw G B R K bg br j
   all_goals cases hp0:btw (u 1 j) 0 (R-1)
   all_goals cases hp1:v 0 j
   all_goals cases hp2:ieq (u 1 j) 0
   all_goals cases hp3:ieq pw 2
   all_goals have hn2:=ieq_ne hp2
   all_goals have hn3:=ieq_ne hp3
   all_goals (first | (exfalso;simp [rkSP,hp0,hp1,hp2,hp3,hn2,hn3] at hP;done) | skip)
   all_goals
    repeat' (first
     | with_reducible exact rfl
     | exact True.intro
     | with_reducible assumption
     | (refine ⟨hlt,?_⟩;show Next _ _ _ _;refine Next.mk (fun g=>rkSH ao n c u v pw G B R K bg br (.int ((j+1:Nat):Int)) g) _ ⟨_,allB_succ hall hP,rfl,rfl⟩ rfl fun w hw=>hw.sel [0,1,2] (by simp))
     | (refine Next.mk (fun g=>rkSR ao n c u v pw G B R K bg br j g) _ (hr _ j hlt hall hP) rfl fun w hw=>hw.sel [0,1,2] (by simp))
     | refine And.intro ?_ ?_
     | (refine fun (h:@Eq Bool _ _)=>?_;exfalso;first | (simp [hp0,hp1,hp2,hp3,hn2,hn3] at h;done) | (simp [hp0,hp1,hp2,hp3,hn2,hn3] at h;omega))
     | intro _
     | omega)
  ·have hjn:n=j:=by omega
   subst hjn
   repeat' (first
    | with_reducible exact rfl
    | exact True.intro
    | (refine Next.mk (fun g=>rkSH ao n c u v pw G B R K bg br (.int (n:Int)) g) _ (hk _ hall) rfl fun w hw=>hw.sel [0,1,2] (by simp))
    | refine And.intro ?_ ?_
    | (refine fun (h:@Eq Bool _ _)=>?_;exfalso;first | (simp at h;done) | (simp at h;omega))
    | intro _)
 ·refine Next.mk (fun g=>rkSH ao n c u v pw G B R K bg br (.int ((0:Nat):Int)) g) _ ⟨_,allB_zero _,rfl,rfl⟩ h1 fun w hw=>?_
  rw [← hch]
  exact hw.sel [0,1,2] (by simp)
def srkSw (ao:Option Addr)(n c:Nat)(u:Nat→Nat→Int)(v:Nat→Nat→Bool)(pw:Int)(G B R K:Int):LSm:=fun ts ch kk=>∃ bg br,srkS ao n c u v pw G B R K bg br ts ch kk
theorem rkSw_ok (ao:Option Addr)(n c:Nat)(u:Nat→Nat→Int)(v:Nat→Nat→Bool)(pw:Int)(G B R K:Int)(hn:n≤9223372036854775807)(hR:2≤R∧R≤16)(X:Cx):LoopOK Tryz.prog X (theLoop Tryz.f29 0) (srkSw ao n c u v pw G B R K):=by
 rintro ts ch kk a w ⟨bg,br,h⟩ hT hd hs
 exact rkS_ok ao n c u v pw G B R K bg br hn hR X ts ch kk a w h hT hd hs
end Go.Proofs.YtmnccapnjphmfaaGreat

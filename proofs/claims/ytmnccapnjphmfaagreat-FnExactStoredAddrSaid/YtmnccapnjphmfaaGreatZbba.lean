/-
  FnExactStoredAddr: a part of the walk (merged and squeezed by program: SxPrR).
-/
import Derived.Test.YtmnccapnjphmfaaGreatZbac
namespace Go.Proofs.YtmnccapnjphmfaaGreat
set_option linter.unusedVariables false
set_option linter.unusedSimpArgs false
open Go.RowKit
set_option maxRecDepth 100000
set_option maxHeartbeats 8000000
def rfB (n:Nat)(g0:Nat→Int)(wt:Int):Bool:=allB n (fun j=>btw (g0 j) (-2) 5)&&btw (n:Int) 1 8&&btw wt 1 10000
def rfIH (ao:Option Addr)(n c:Nat)(g0:Nat→Int)(wt:Int)(hot:Bool)(br:Nat)(i:SC)(g:Nat→Value):List SV:=[.a (.c (.val (g 0))),.a (.c (.ptr 1 br 0)),.a (.c (.val (g 2))),.a (.c (.val (g 3))),.a (.c (.val (g 4))),.a (.c (.val (g 5))),.a (.c (.sl 0 ao n c)),.a (.c (.int (n:Int))),.a (.c i),.a (.c (.val (g 9))),.a (.c (.val (g 10))),.a (.c (.val (g 11))),.a (.c (.val (g 12))),.a (.c (.val (g 13))),.a (.c (.val (g 14))),.a (.c (.val (g 15))),.a (.c (.val (g 16))),.a (.c (.val (g 17))),.a (.c (.val (g 18))),.a (.c (.val (g 19))),.a (.c (.val (g 20))),.a (.c (.val (g 21))),.a (.c (.val (g 22))),.a (.c (.val (g 23))),.a (.c (.val (g 24)))]
def rfIR (ao:Option Addr)(n c:Nat)(g0:Nat→Int)(wt:Int)(hot:Bool)(br:Nat)(g:Nat→Value):List SV:=[.a (.c (.val (g 0))),.a (.c (.val (g 1))),.a (.c (.lit false)),.a (.c (.val (g 3))),.a (.c (.val (g 4))),.a (.c (.val (g 5))),.a (.c (.val (g 6))),.a (.c (.val (g 7))),.a (.c (.val (g 8))),.a (.c (.val (g 9))),.a (.c (.val (g 10))),.a (.c (.val (g 11))),.a (.c (.val (g 12))),.a (.c (.val (g 13))),.a (.c (.val (g 14))),.a (.c (.val (g 15))),.a (.c (.val (g 16))),.a (.c (.val (g 17))),.a (.c (.val (g 18))),.a (.c (.val (g 19))),.a (.c (.val (g 20))),.a (.c (.val (g 21))),.a (.c (.val (g 22))),.a (.c (.val (g 23))),.a (.c (.val (g 24)))]
def rfIT (ao:Option Addr)(n c:Nat)(g0:Nat→Int)(wt:Int)(hot:Bool)(br:Nat):List Ch:=[.row ⟨false,ao,0,1,n,0,[fun i=>.int (g0 i)]⟩,.cells br 87 [.sl 0 ao n c,.int wt,.bool hot]]
def rfIP (ao:Option Addr)(n c:Nat)(g0:Nat→Int)(wt:Int)(hot:Bool)(br:Nat)(j:Nat):Bool:=btw (g0 j) (-2) 5
def srfI (ao:Option Addr)(n c:Nat)(g0:Nat→Int)(wt:Int)(hot:Bool)(br:Nat):LSm:=fun ts ch k =>
 (ts.map SV.den=(rfIH ao n c g0 wt hot br (.il 0) (fun d=>(ts.getD d .undef).den)).map SV.den∧selC ch [0,1]=rfIT ao n c g0 wt hot br) ∧
  (∀ g,allB n (rfIP ao n c g0 wt hot br)=true→k (.exit 0) (rfIH ao n c g0 wt hot br (.int (n:Int)) g) (rfIT ao n c g0 wt hot br))∧(∀ g,allB n (rfIP ao n c g0 wt hot br)=false→k .ret (rfIR ao n c g0 wt hot br g) (rfIT ao n c g0 wt hot br))
theorem rfIB (ao:Option Addr)(n c:Nat)(g0:Nat→Int)(wt:Int)(hot:Bool)(br:Nat)(j:Nat)(g:Nat→Value)(NX:List SV→List Ch→Prop)(kx:Exit→List SV→List Ch→Prop):(exCode Tryz.prog {tb:=[(61,sBtw)]} 400 (theLoop Tryz.f140 0) (rfIH ao n c g0 wt hot br (.int (j:Int)) g) (rfIT ao n c g0 wt hot br) (loopK NX kx))=(
 (fun a:SV=>(fun b:SV=>(fun d:Bool=>(fun h:SV=>(fun k:Bool=>(fun l:SV=>(fun m:Bool=>(fun o:List Ch=>(m=true→ao=ao∧n=n∧(0≤((j:Nat):Int)∧((j:Nat):Int)<((n:Nat):Int))∧ao=ao∧j<n∧(k=true→kx Exit.ret [vV (g 0),pV 1 br 0,fV,vV (g 3),a,vV (g 5),sV 0 ao n c,b,iV ((j:Nat):Int),tV,rV 0 ao 1 j 0,a,a,l,tV,vV (g 15),vV (g 16),vV (g 17),vV (g 18),vV (g 19),vV (g 20),vV (g 21),vV (g 22),vV (g 23),vV (g 24)] o)∧(k=false→rng (((j:Nat):Int)+(1:Int))∧NX [vV (g 0),pV 1 br 0,vV (g 2),vV (g 3),a,vV (g 5),sV 0 ao n c,b,h,tV,rV 0 ao 1 j 0,a,a,l,fV,h,vV (g 16),vV (g 17),vV (g 18),vV (g 19),vV (g 20),vV (g 21),vV (g 22),vV (g 23),vV (g 24)] o))∧(m=false→kx (Exit.exit 0) [vV (g 0),pV 1 br 0,vV (g 2),vV (g 3),vV (g 4),vV (g 5),sV 0 ao n c,b,iV ((j:Nat):Int),fV,vV (g 10),vV (g 11),vV (g 12),vV (g 13),vV (g 14),vV (g 15),vV (g 16),vV (g 17),vV (g 18),vV (g 19),vV (g 20),vV (g 21),vV (g 22),vV (g 23),vV (g 24)] o)) [Hr false ao 0 1 n 0 [fun o=>Ci (g0 o)],Hc br 87 [Cs 0 ao n c,Ci wt,Cb hot]]) (decide (((j:Nat):Int)<((n:Nat):Int)))) (bV d)) (! d)) (iV (((j:Nat):Int)+(1:Int)))) (btw (g0 j) ((-2):Int) (5:Int))) (iV ((n:Nat):Int))) (iV (g0 j))):=by kernel_rfl
theorem rfI_ok (ao:Option Addr)(n c:Nat)(g0:Nat→Int)(wt:Int)(hot:Bool)(br:Nat)(hn:n≤9223372036854775807)(X:Cx):LoopOK Tryz.prog X (theLoop Tryz.f140 0) (srfI ao n c g0 wt hot br):=by
 intro ts ch k a w hS hT hd hs
 obtain ⟨⟨h1,hch⟩,hk,hr⟩:=hS
 refine loop_ok mixed (E:={tb:=[(61,sBtw)]}) ⟨sBtwI_ok,trivial⟩ (loopsOK_nil _ _ _) 400 n (fun j ts ch=>∃ g,allB j (rfIP ao n c g0 wt hot br)=true∧ts=rfIH ao n c g0 wt hot br (.int (j:Int)) g∧ch=rfIT ao n c g0 wt hot br) ?_ ?_ hT hd hs
 ·rintro j _ _ ⟨g,hall,rfl,rfl⟩ hj
  refine (@Eq.mpr _ _ (rfIB ao n c g0 wt hot br j g _ _) ?_)
  dsimp -zeta -proj -iota -eta -failIfUnchanged (etaStruct:=.none) only
  by_cases hlt:j<n
  ·have hjn:(0:Int)≤(j:Int)∧(j:Int)<(n:Int):=⟨by omega,by omega⟩
   cases hp:rfIP ao n c g0 wt hot br j
   all_goals simp only [rfIP] at hp
   all_goals
    repeat' (first
     | with_reducible exact rfl
     | exact True.intro
     | with_reducible assumption
     | (refine ⟨hlt,?_⟩;show Next _ _ _ _;refine Next.mk (fun g=>rfIH ao n c g0 wt hot br (.int ((j+1:Nat):Int)) g) _ ⟨_,allB_succ hall (by simp only [rfIP];exact hp),rfl,rfl⟩ rfl fun w hw=>hw.sel [0,1] (by simp))
     | (refine Next.mk (fun g=>rfIR ao n c g0 wt hot br g) _ (hr _ (allB_no hlt (by simp only [rfIP];exact hp))) rfl fun w hw=>hw.sel [0,1] (by simp))
     | refine And.intro ?_ ?_
     | (intro h;exfalso;simp at h;omega)
     | (intro h;exfalso;simp [h] at hp;done)
     | intro _
     | omega)
    all_goals (exfalso;simp_all;done)
  ·have hjn:n=j:=by omega
   subst hjn
   repeat' (first
    | with_reducible exact rfl
    | exact True.intro
    | (refine Next.mk (fun g=>rfIH ao n c g0 wt hot br (.int (n:Int)) g) _ (hk _ hall) rfl fun w hw=>hw.sel [0,1] (by simp))
    | refine And.intro ?_ ?_
    | (intro h;exfalso;simp at h;done)
    | (intro h;exfalso;simp at h;omega)
    | intro _)
 ·refine Next.mk (fun g=>rfIH ao n c g0 wt hot br (.int ((0:Nat):Int)) g) _ ⟨_,allB_zero _,rfl,rfl⟩ h1 fun w hw=>?_
  rw [← hch]
  exact hw.sel [0,1] (by simp)
def srfwI (ao:Option Addr)(n c:Nat)(g0:Nat→Int)(wt:Int)(hot:Bool):LSm:=fun ts ch kk=>∃ br,srfI ao n c g0 wt hot br ts ch kk
theorem rfwI_ok (ao:Option Addr)(n c:Nat)(g0:Nat→Int)(wt:Int)(hot:Bool)(hn:n≤9223372036854775807)(X:Cx):LoopOK Tryz.prog X (theLoop Tryz.f140 0) (srfwI ao n c g0 wt hot):=by
 intro ts ch kk a w ⟨br,h⟩ hT hd hs
 exact rfI_ok ao n c g0 wt hot br hn X ts ch kk a w h hT hd hs
theorem rfOI_T (ao:Option Addr)(n c:Nat)(g0:Nat→Int)(wt:Int)(hot:Bool):(exFn Tryz.prog {tb:=[(61,sBtw)],L:=[(2,srfwI ao n c g0 wt hot)]} 400 Tryz.f140 ([.a (.agg [.sl 0 ao n c,.int wt,.bool hot])]) ([.row ⟨false,ao,0,1,n,0,[fun i=>.int (g0 i)]⟩]) (fun v _=>v.den=.bool (rfB n g0 wt)))=(
 ∀ b:Nat,b=b∧∃ d:Nat,([Wa [Ws ao n c,Wi wt,Wb hot],Wp b 0,Wb false,Wu [],Wu [],Wp b 0,Ws ao n c,Wi ((n:Nat):Int),Wi 0,Wu [],Wu [],Wu [],Wu [],Wu [],Wu [],Wu [],Wu [],Wu [],Wu [],Wu [],Wu [],Wu [],Wu [],Wu [],Wu []]=[Wa [Ws ao n c,Wi wt,Wb hot],Wp d 0,Wb false,Wu [],Wu [],Wp b 0,Ws ao n c,Wi ((n:Nat):Int),Wi 0,Wu [],Wu [],Wu [],Wu [],Wu [],Wu [],Wu [],Wu [],Wu [],Wu [],Wu [],Wu [],Wu [],Wu [],Wu [],Wu []]∧[Hr false ao 0 1 n 0 [fun g=>Ci (g0 g)],Hc b 87 [Cs 0 ao n c,Ci wt,Cb hot]]=[Hr false ao 0 1 n 0 [fun g=>Ci (g0 g)],Hc d 87 [Cs 0 ao n c,Ci wt,Cb hot]])∧(∀ g:Nat→Value,(allB n (rfIP ao n c g0 wt hot d))=true→d=d∧((btw ((n:Nat):Int) (1:Int) (8:Int))=true→d=d∧(Wb (btw wt (1:Int) (10000:Int)))=(Wb (rfB n g0 wt)))∧((btw ((n:Nat):Int) (1:Int) (8:Int))=false→(Wb false)=(Wb (rfB n g0 wt))))∧∀ g:Nat→Value,(allB n (rfIP ao n c g0 wt hot d))=false→(Wb false)=(Wb (rfB n g0 wt))):=by kernel_rfl
theorem rfOI_any (ao:Option Addr)(n c:Nat)(g0:Nat→Int)(wt:Int)(hot:Bool)(w:World)(hn:n≤9223372036854775807)(h:Row.sat w ⟨false,ao,0,1,n,0,[fun i=>.int (g0 i)]⟩):Calls Tryz.prog 140 #[.agg #[.slice ao n c,.int .i64 wt,.bool hot]] w fun e w'=>e=.returned (.bool (rfB n g0 wt))∧Below w.heap.size w w':=by
 refine fn_ok mixed (E:={tb:=[(61,sBtw)],L:=[(2,srfwI ao n c g0 wt hot)]}) ⟨sBtwI_ok,trivial⟩ Tryz.func140 (one_loop (by kernel_rfl) (by kernel_rfl) (rfwI_ok ao n c g0 wt hot hn _)) (@Eq.mpr _ _ (rfOI_T ao n c g0 wt hot) ?_) (HS.rows (fun _=>False) [⟨false,ao,0,1,n,0,[fun i=>.int (g0 i)]⟩] (by simpa using h)) (fun v ch' w' hv hs=>⟨by rw [hv],hs.below⟩)
 clear h
 unfold rfB
 cases q1:allB n (fun j=>btw (g0 j) (-2) 5) <;> cases q2:btw (n:Int) 1 8 <;> cases q3:btw wt 1 10000
 all_goals
  repeat' (first
   | with_reducible exact rfl
   | exact True.intro
   | with_reducible assumption
   | (intro g hg;exfalso;have:allB n (fun j=>btw (g0 j) (-2) 5)=true:=hg;rw [q1] at this;cases this;done)
   | (intro g hg;exfalso;have:allB n (fun j=>btw (g0 j) (-2) 5)=false:=hg;rw [q1] at this;cases this;done)
   | refine And.intro ?_ ?_
   | apply Exists.intro
   | (intro h;exfalso;simp at h;done)
   | intro _
   | exact rfl)
def rfSH (ao:Option Addr)(n c:Nat)(g0:Nat→Int)(wt:Int)(hot:Bool)(br:Nat)(i:SC)(g:Nat→Value):List SV:=[.a (.c (.val (g 0))),.a (.c (.ptr 1 br 0)),.a (.c (.val (g 2))),.a (.c i),.a (.c (.val (g 4))),.a (.c (.val (g 5))),.a (.c (.val (g 6))),.a (.c (.val (g 7))),.a (.c (.val (g 8))),.a (.c (.val (g 9))),.a (.c (.val (g 10))),.a (.c (.val (g 11))),.a (.c (.val (g 12))),.a (.c (.val (g 13))),.a (.c (.val (g 14))),.a (.c (.val (g 15))),.a (.c (.val (g 16))),.a (.c (.val (g 17))),.a (.c (.val (g 18))),.a (.c (.val (g 19))),.a (.c (.val (g 20))),.a (.c (.val (g 21))),.a (.c (.val (g 22))),.a (.c (.val (g 23))),.a (.c (.val (g 24))),.a (.c (.val (g 25))),.a (.c (.val (g 26)))]
def rfSR (ao:Option Addr)(n c:Nat)(g0:Nat→Int)(wt:Int)(hot:Bool)(br:Nat)(g:Nat→Value):List SV:=[.a (.c (.val (g 0))),.a (.c (.val (g 1))),.a (.c (.lit false)),.a (.c (.val (g 3))),.a (.c (.val (g 4))),.a (.c (.val (g 5))),.a (.c (.val (g 6))),.a (.c (.val (g 7))),.a (.c (.val (g 8))),.a (.c (.val (g 9))),.a (.c (.val (g 10))),.a (.c (.val (g 11))),.a (.c (.val (g 12))),.a (.c (.val (g 13))),.a (.c (.val (g 14))),.a (.c (.val (g 15))),.a (.c (.val (g 16))),.a (.c (.val (g 17))),.a (.c (.val (g 18))),.a (.c (.val (g 19))),.a (.c (.val (g 20))),.a (.c (.val (g 21))),.a (.c (.val (g 22))),.a (.c (.val (g 23))),.a (.c (.val (g 24))),.a (.c (.val (g 25))),.a (.c (.val (g 26)))]
def rfST (ao:Option Addr)(n c:Nat)(g0:Nat→Int)(wt:Int)(hot:Bool)(br:Nat):List Ch:=[.row ⟨false,ao,0,1,n,0,[fun i=>.int (g0 i)]⟩,.cells br 87 [.sl 0 ao n c,.int wt,.bool hot]]
def rfSP (ao:Option Addr)(n c:Nat)(g0:Nat→Int)(wt:Int)(hot:Bool)(br:Nat)(j:Nat):Bool:=btw (g0 j) (-2) 5
def srfS (ao:Option Addr)(n c:Nat)(g0:Nat→Int)(wt:Int)(hot:Bool)(br:Nat):LSm:=fun ts ch k =>
 (ts.map SV.den=(rfSH ao n c g0 wt hot br (.il 0) (fun d=>(ts.getD d .undef).den)).map SV.den∧selC ch [0,1]=rfST ao n c g0 wt hot br) ∧
  (∀ g,allB n (rfSP ao n c g0 wt hot br)=true→k (.exit 0) (rfSH ao n c g0 wt hot br (.int (n:Int)) g) (rfST ao n c g0 wt hot br))∧(∀ g,allB n (rfSP ao n c g0 wt hot br)=false→k .ret (rfSR ao n c g0 wt hot br g) (rfST ao n c g0 wt hot br))
theorem rfSB (ao:Option Addr)(n c:Nat)(g0:Nat→Int)(wt:Int)(hot:Bool)(br:Nat)(j:Nat)(g:Nat→Value)(NX:List SV→List Ch→Prop)(kx:Exit→List SV→List Ch→Prop):(exCode Tryz.prog {tb:=[(28,sBtw)]} 400 (theLoop Tryz.f33 0) (rfSH ao n c g0 wt hot br (.int (j:Int)) g) (rfST ao n c g0 wt hot br) (loopK NX kx))=(
 (fun a:SV=>(fun b:SV=>(fun d:SV=>(fun h:SV=>(fun k:Bool=>(fun l:SV=>(fun m:Bool=>(fun o:SV=>(fun p:Bool=>(fun q:List Ch=>br=br∧(p=true→br=br∧ao=ao∧n=n∧(0≤((j:Nat):Int)∧((j:Nat):Int)<((n:Nat):Int))∧ao=ao∧j<n∧(m=true→kx Exit.ret [vV (g 0),a,fV,h,h,a,b,d,tV,vV (g 9),vV (g 10),a,b,h,rV 0 ao 1 j 0,iV (g0 j),o,tV,vV (g 18),vV (g 19),vV (g 20),vV (g 21),vV (g 22),vV (g 23),vV (g 24),vV (g 25),vV (g 26)] q)∧(m=false→rng (((j:Nat):Int)+(1:Int))∧NX [vV (g 0),a,vV (g 2),l,h,a,b,d,tV,h,l,a,b,h,rV 0 ao 1 j 0,iV (g0 j),o,fV,vV (g 18),vV (g 19),vV (g 20),vV (g 21),vV (g 22),vV (g 23),vV (g 24),vV (g 25),vV (g 26)] q))∧(p=false→kx (Exit.exit 0) [vV (g 0),a,vV (g 2),h,h,a,b,d,fV,vV (g 9),vV (g 10),vV (g 11),vV (g 12),vV (g 13),vV (g 14),vV (g 15),vV (g 16),vV (g 17),vV (g 18),vV (g 19),vV (g 20),vV (g 21),vV (g 22),vV (g 23),vV (g 24),vV (g 25),vV (g 26)] q)) [Hr false ao 0 1 n 0 [fun q=>Ci (g0 q)],Hc br 87 [Cs 0 ao n c,Ci wt,Cb hot]]) (decide (((j:Nat):Int)<((n:Nat):Int)))) (bV k)) (! k)) (iV (((j:Nat):Int)+(1:Int)))) (btw (g0 j) ((-2):Int) (5:Int))) (iV ((j:Nat):Int))) (iV ((n:Nat):Int))) (sV 0 ao n c)) (pV 1 br 0)):=by kernel_rfl
theorem rfS_ok (ao:Option Addr)(n c:Nat)(g0:Nat→Int)(wt:Int)(hot:Bool)(br:Nat)(hn:n≤9223372036854775807)(X:Cx):LoopOK Tryz.prog X (theLoop Tryz.f33 0) (srfS ao n c g0 wt hot br):=by
 intro ts ch k a w hS hT hd hs
 obtain ⟨⟨h1,hch⟩,hk,hr⟩:=hS
 refine loop_ok mixed (E:={tb:=[(28,sBtw)]}) ⟨sBtwS_ok,trivial⟩ (loopsOK_nil _ _ _) 400 n (fun j ts ch=>∃ g,allB j (rfSP ao n c g0 wt hot br)=true∧ts=rfSH ao n c g0 wt hot br (.int (j:Int)) g∧ch=rfST ao n c g0 wt hot br) ?_ ?_ hT hd hs
 ·rintro j _ _ ⟨g,hall,rfl,rfl⟩ hj
  refine (@Eq.mpr _ _ (rfSB ao n c g0 wt hot br j g _ _) ?_)
  dsimp -zeta -proj -iota -eta -failIfUnchanged (etaStruct:=.none) only
  by_cases hlt:j<n
  ·have hjn:(0:Int)≤(j:Int)∧(j:Int)<(n:Int):=⟨by omega,by omega⟩
   cases hp:rfSP ao n c g0 wt hot br j
   all_goals simp only [rfSP] at hp
   all_goals
    repeat' (first
     | with_reducible exact rfl
     | exact True.intro
     | with_reducible assumption
     | (refine ⟨hlt,?_⟩;show Next _ _ _ _;refine Next.mk (fun g=>rfSH ao n c g0 wt hot br (.int ((j+1:Nat):Int)) g) _ ⟨_,allB_succ hall (by simp only [rfSP];exact hp),rfl,rfl⟩ rfl fun w hw=>hw.sel [0,1] (by simp))
     | (refine Next.mk (fun g=>rfSR ao n c g0 wt hot br g) _ (hr _ (allB_no hlt (by simp only [rfSP];exact hp))) rfl fun w hw=>hw.sel [0,1] (by simp))
     | refine And.intro ?_ ?_
     | (intro h;exfalso;simp at h;omega)
     | (intro h;exfalso;simp [h] at hp;done)
     | intro _
     | omega)
    all_goals (exfalso;simp_all;done)
  ·have hjn:n=j:=by omega
   subst hjn
   repeat' (first
    | with_reducible exact rfl
    | exact True.intro
    | (refine Next.mk (fun g=>rfSH ao n c g0 wt hot br (.int (n:Int)) g) _ (hk _ hall) rfl fun w hw=>hw.sel [0,1] (by simp))
    | refine And.intro ?_ ?_
    | (intro h;exfalso;simp at h;done)
    | (intro h;exfalso;simp at h;omega)
    | intro _)
 ·refine Next.mk (fun g=>rfSH ao n c g0 wt hot br (.int ((0:Nat):Int)) g) _ ⟨_,allB_zero _,rfl,rfl⟩ h1 fun w hw=>?_
  rw [← hch]
  exact hw.sel [0,1] (by simp)
def srfwS (ao:Option Addr)(n c:Nat)(g0:Nat→Int)(wt:Int)(hot:Bool):LSm:=fun ts ch kk=>∃ br,srfS ao n c g0 wt hot br ts ch kk
theorem rfwS_ok (ao:Option Addr)(n c:Nat)(g0:Nat→Int)(wt:Int)(hot:Bool)(hn:n≤9223372036854775807)(X:Cx):LoopOK Tryz.prog X (theLoop Tryz.f33 0) (srfwS ao n c g0 wt hot):=by
 intro ts ch kk a w ⟨br,h⟩ hT hd hs
 exact rfS_ok ao n c g0 wt hot br hn X ts ch kk a w h hT hd hs
theorem rfOS_T (ao:Option Addr)(n c:Nat)(g0:Nat→Int)(wt:Int)(hot:Bool):(exFn Tryz.prog {tb:=[(28,sBtw)],L:=[(2,srfwS ao n c g0 wt hot)]} 400 Tryz.f33 ([.a (.agg [.sl 0 ao n c,.int wt,.bool hot])]) ([.row ⟨false,ao,0,1,n,0,[fun i=>.int (g0 i)]⟩]) (fun v _=>v.den=.bool (rfB n g0 wt)))=(
 ∀ b:Nat,∃ d:Nat,([Wa [Ws ao n c,Wi wt,Wb hot],Wp b 0,Wb false,Wi 0,Wu [],Wu [],Wu [],Wu [],Wu [],Wu [],Wu [],Wu [],Wu [],Wu [],Wu [],Wu [],Wu [],Wu [],Wu [],Wu [],Wu [],Wu [],Wu [],Wu [],Wu [],Wu [],Wu []]=[Wa [Ws ao n c,Wi wt,Wb hot],Wp d 0,Wb false,Wi 0,Wu [],Wu [],Wu [],Wu [],Wu [],Wu [],Wu [],Wu [],Wu [],Wu [],Wu [],Wu [],Wu [],Wu [],Wu [],Wu [],Wu [],Wu [],Wu [],Wu [],Wu [],Wu [],Wu []]∧[Hr false ao 0 1 n 0 [fun g=>Ci (g0 g)],Hc b 87 [Cs 0 ao n c,Ci wt,Cb hot]]=[Hr false ao 0 1 n 0 [fun g=>Ci (g0 g)],Hc d 87 [Cs 0 ao n c,Ci wt,Cb hot]])∧(∀ g:Nat→Value,(allB n (rfSP ao n c g0 wt hot d))=true→d=d∧((btw ((n:Nat):Int) (1:Int) (8:Int))=true→d=d∧(Wb (btw wt (1:Int) (10000:Int)))=(Wb (rfB n g0 wt)))∧((btw ((n:Nat):Int) (1:Int) (8:Int))=false→(Wb false)=(Wb (rfB n g0 wt))))∧∀ g:Nat→Value,(allB n (rfSP ao n c g0 wt hot d))=false→(Wb false)=(Wb (rfB n g0 wt))):=by kernel_rfl
theorem rfOS_any (ao:Option Addr)(n c:Nat)(g0:Nat→Int)(wt:Int)(hot:Bool)(w:World)(hn:n≤9223372036854775807)(h:Row.sat w ⟨false,ao,0,1,n,0,[fun i=>.int (g0 i)]⟩):Calls Tryz.prog 33 #[.agg #[.slice ao n c,.int .i64 wt,.bool hot]] w fun e w'=>e=.returned (.bool (rfB n g0 wt))∧Below w.heap.size w w':=by
 refine fn_ok mixed (E:={tb:=[(28,sBtw)],L:=[(2,srfwS ao n c g0 wt hot)]}) ⟨sBtwS_ok,trivial⟩ Tryz.func33 (one_loop (by kernel_rfl) (by kernel_rfl) (rfwS_ok ao n c g0 wt hot hn _)) (@Eq.mpr _ _ (rfOS_T ao n c g0 wt hot) ?_) (HS.rows (fun _=>False) [⟨false,ao,0,1,n,0,[fun i=>.int (g0 i)]⟩] (by simpa using h)) (fun v ch' w' hv hs=>⟨by rw [hv],hs.below⟩)
 clear h
 unfold rfB
 cases q1:allB n (fun j=>btw (g0 j) (-2) 5) <;> cases q2:btw (n:Int) 1 8 <;> cases q3:btw wt 1 10000
 all_goals
  repeat' (first
   | with_reducible exact rfl
   | exact True.intro
   | with_reducible assumption
   | (intro g hg;exfalso;have:allB n (fun j=>btw (g0 j) (-2) 5)=true:=hg;rw [q1] at this;cases this;done)
   | (intro g hg;exfalso;have:allB n (fun j=>btw (g0 j) (-2) 5)=false:=hg;rw [q1] at this;cases this;done)
   | refine And.intro ?_ ?_
   | apply Exists.intro
   | (intro h;exfalso;simp at h;done)
   | intro _
   | exact rfl)
def sRfOk:Sm:=fun args ch k =>
 match args with
 | [.a (.agg [x,y,z])] =>
  match ints [y],bools [z] with
  | some [wt],some [_]=>rd1 ch x fun n g0=>lenC n∧k (.a (.c (.bool (rfB n g0 wt)))) ch []
  | _,_=>False
 | _=>False
theorem sRfOk_I:SmOK Tryz.prog 140 sRfOk:=by
 refine smB Tryz.call140 fun args ch k w X h0 hs=>?_
 unfold sRfOk at h0
 split at h0
 ·split at h0
  ·rename_i wt hot hi hb
   obtain ⟨e1,hi⟩:=ints_cons hi
   obtain ⟨e2,hb⟩:=bools_cons hb
   obtain ⟨ao,n,c,g0,em,hr,hn,h0⟩:=rd1_ok h0 hs
   refine ⟨_,h0,?_⟩
   simp only [List.map_cons,List.map_nil,den_a,SA.den,em,e1,e2]
   exact rfOI_any ao n c g0 wt hot w hn hr
  ·exact h0.elim
 ·exact h0.elim
theorem sRfOk_S:SmOK Tryz.prog 33 sRfOk:=by
 refine smB Tryz.call33 fun args ch k w X h0 hs=>?_
 unfold sRfOk at h0
 split at h0
 ·split at h0
  ·rename_i wt hot hi hb
   obtain ⟨e1,hi⟩:=ints_cons hi
   obtain ⟨e2,hb⟩:=bools_cons hb
   obtain ⟨ao,n,c,g0,em,hr,hn,h0⟩:=rd1_ok h0 hs
   refine ⟨_,h0,?_⟩
   simp only [List.map_cons,List.map_nil,den_a,SA.den,em,e1,e2]
   exact rfOS_any ao n c g0 wt hot w hn hr
  ·exact h0.elim
 ·exact h0.elim
end Go.Proofs.YtmnccapnjphmfaaGreat

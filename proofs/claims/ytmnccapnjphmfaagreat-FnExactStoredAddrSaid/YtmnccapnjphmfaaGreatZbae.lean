/-
  FnExactStoredAddr: a part of the walk (merged and squeezed by program: SxPrF SxPrO).
-/
import Derived.Test.YtmnccapnjphmfaaGreatZbac
namespace Go.Proofs.YtmnccapnjphmfaaGreat
set_option linter.unusedVariables false
set_option linter.unusedSimpArgs false
open Go.RowKit
set_option maxRecDepth 100000
set_option maxHeartbeats 8000000
def isIn (n:Nat)(f:Nat→Int)(x:Int):Bool:=!allB n (fun j=>!ieq (f j) x)
def itI (n:Nat)(f:Nat→Int)(x:Int):Int:=fidx n fun j=>ieq (f j) x
def erI (n:Nat)(u:Nat→Nat→Int)(x y:Int):Int:=fidx n fun j=>ieq (u 0 j) x&&ieq (u 1 j) y
def adI (n:Nat)(u:Nat→Nat→Int)(x y z:Int):Int:=fidx n fun j=>ieq (u 0 j) x&&(ieq (u 1 j) y&&ieq (u 2 j) z)
def hasH (ao:Option Addr)(n c:Nat)(f:Nat→Int)(x:Int)(i:SC)(g:Nat→Value):List SV:=hdN [(0,.a (.c (.sl 0 ao n c))),(1,.a (.c (.int x))),(5,.a (.c i))] g 0 18
def hasR (ao:Option Addr)(n c:Nat)(f:Nat→Int)(x:Int)(j:Nat)(g:Nat→Value):List SV:=hdN [(4,.a (.c (.lit true)))] g 0 18
def hasT (ao:Option Addr)(n c:Nat)(f:Nat→Int)(x:Int):List Ch:=[.row ⟨false,ao,0,1,n,0,[fun i=>.int (f i)]⟩]
def hasP (ao:Option Addr)(n c:Nat)(f:Nat→Int)(x:Int)(j:Nat):Bool:=!ieq (f j) x
def shas (ao:Option Addr)(n c:Nat)(f:Nat→Int)(x:Int):LSm:=fun ts ch k =>
 (ts.map SV.den=(hasH ao n c f x (.il 0) (fun d=>(ts.getD d .undef).den)).map SV.den∧selC ch [0]=hasT ao n c f x) ∧
  (∀ g,allB n (hasP ao n c f x)=true→k (.exit 0) (hasH ao n c f x (.int (n:Int)) g) (hasT ao n c f x))∧(∀ g j,ltN j n→allB j (hasP ao n c f x)=true→hasP ao n c f x j=false→k .ret (hasR ao n c f x j g) (hasT ao n c f x))
theorem hasB (ao:Option Addr)(n c:Nat)(f:Nat→Int)(x:Int)(j:Nat)(g:Nat→Value)(NX:List SV→List Ch→Prop)(kx:Exit→List SV→List Ch→Prop):(exCode Tryz.prog {} 400 (theLoop Tryz.f106 0) (hasH ao n c f x (.int (j:Int)) g) (hasT ao n c f x) (loopK NX kx))=(
 ((decide (((j:Nat):Int)<((n:Nat):Int)))=true→ao=ao∧n=n∧(0≤((j:Nat):Int)∧((j:Nat):Int)<((n:Nat):Int))∧ao=ao∧j<n∧(((f j) == x)=true→kx Exit.ret [sV 0 ao n c,iV x,vV (g 2),vV (g 3),tV,iV ((j:Nat):Int),iV ((j:Nat):Int),sV 0 ao n c,iV ((n:Nat):Int),tV,vV (g 10),vV (g 11),sV 0 ao n c,iV ((j:Nat):Int),rV 0 ao 1 j 0,iV (f j),iV x,tV] [Hr false ao 0 1 n 0 [fun a=>Ci (f a)]])∧(((f j) == x)=false→rng (((j:Nat):Int)+(1:Int))∧NX [sV 0 ao n c,iV x,vV (g 2),vV (g 3),vV (g 4),iV (((j:Nat):Int)+(1:Int)),iV ((j:Nat):Int),sV 0 ao n c,iV ((n:Nat):Int),tV,iV ((j:Nat):Int),iV (((j:Nat):Int)+(1:Int)),sV 0 ao n c,iV ((j:Nat):Int),rV 0 ao 1 j 0,iV (f j),iV x,fV] [Hr false ao 0 1 n 0 [fun a=>Ci (f a)]]))∧((decide (((j:Nat):Int)<((n:Nat):Int)))=false→kx (Exit.exit 0) [sV 0 ao n c,iV x,vV (g 2),vV (g 3),vV (g 4),iV ((j:Nat):Int),iV ((j:Nat):Int),sV 0 ao n c,iV ((n:Nat):Int),fV,vV (g 10),vV (g 11),vV (g 12),vV (g 13),vV (g 14),vV (g 15),vV (g 16),vV (g 17)] [Hr false ao 0 1 n 0 [fun a=>Ci (f a)]])):=by kernel_rfl
theorem has_ok (ao:Option Addr)(n c:Nat)(f:Nat→Int)(x:Int)(hn:n≤9223372036854775807)(X:Cx):LoopOK Tryz.prog X (theLoop Tryz.f106 0) (shas ao n c f x):=by
 intro ts ch k a w hS hT hd hs
 obtain ⟨⟨h1,hch⟩,hk,hr⟩:=hS
 refine loop_ok mixed (E:={}) trivial (loopsOK_nil _ _ _) 400 n (fun j ts ch=>∃ g,allB j (hasP ao n c f x)=true∧ts=hasH ao n c f x (.int (j:Int)) g∧ch=hasT ao n c f x) ?_ ?_ hT hd hs
 ·rintro j _ _ ⟨g,hall,rfl,rfl⟩ hj
  refine @Eq.mpr _ _ (hasB ao n c f x j g _ _) ?_
  by_cases hlt:j<n
  ·have hjn:(0:Int)≤(j:Int)∧(j:Int)<(n:Int):=⟨by omega,by omega⟩
   clear h1
   cases hP:hasP ao n c f x j
   all_goals cases hp0:ieq (f j) x
   all_goals have hn0:=ieq_ne hp0
   all_goals (first | (exfalso;simp [hasP,hp0,hn0] at hP;done) | skip)
   all_goals
    repeat' (first
     | with_reducible exact rfl
     | exact True.intro
     | with_reducible assumption
     | (refine ⟨hlt,?_⟩;show Next _ _ _ _;refine Next.mk (fun g=>hasH ao n c f x (.int ((j+1:Nat):Int)) g) _ ⟨_,allB_succ hall hP,rfl,rfl⟩ rfl fun w hw=>hw.sel [0] (by simp))
     | (refine Next.mk (fun g=>hasR ao n c f x j g) _ (hr _ j hlt hall hP) rfl fun w hw=>hw.sel [0] (by simp))
     | refine And.intro ?_ ?_
     | (refine fun (h:@Eq Bool _ _)=>?_;exfalso;first | (simp [hp0,hn0] at h;done) | (simp [hp0,hn0] at h;omega))
     | intro _
     | omega)
  ·have hjn:n=j:=by omega
   subst hjn
   repeat' (first
    | with_reducible exact rfl
    | exact True.intro
    | (refine Next.mk (fun g=>hasH ao n c f x (.int (n:Int)) g) _ (hk _ hall) rfl fun w hw=>hw.sel [0] (by simp))
    | refine And.intro ?_ ?_
    | (refine fun (h:@Eq Bool _ _)=>?_;exfalso;first | (simp at h;done) | (simp at h;omega))
    | intro _)
 ·refine Next.mk (fun g=>hasH ao n c f x (.int ((0:Nat):Int)) g) _ ⟨_,allB_zero _,rfl,rfl⟩ h1 fun w hw=>?_
  rw [← hch]
  exact hw.sel [0] (by simp)
theorem hasF_T (ao:Option Addr)(n c:Nat)(f:Nat→Int)(x:Int):(exFn Tryz.prog {tb:=[],L:=[(2,shas ao n c f x)]} 400 Tryz.f106 ([.a (.c (.sl 0 ao n c)),.a (.c (.int x))]) ([.row ⟨false,ao,0,1,n,0,[fun i=>.int (f i)]⟩]) (fun v _=>v.den=.bool (isIn n f x)))=(
 ([Ws ao n c,Wi x,Wu [],Wu [],Wb false,Wi 0,Wu [],Wu [],Wu [],Wu [],Wu [],Wu [],Wu [],Wu [],Wu [],Wu [],Wu [],Wu []]=[Ws ao n c,Wi x,Wu [],Wu [],Wb false,Wi 0,Wu [],Wu [],Wu [],Wu [],Wu [],Wu [],Wu [],Wu [],Wu [],Wu [],Wu [],Wu []]∧[Hr false ao 0 1 n 0 [fun b=>Ci (f b)]]=[Hr false ao 0 1 n 0 [fun b=>Ci (f b)]])∧(∀ b:Nat→Value,(allB n (hasP ao n c f x))=true→(Wb false)=(Wb (isIn n f x)))∧∀(b:Nat→Value) (d:Nat),d<n→(allB d (hasP ao n c f x))=true→(hasP ao n c f x d)=false→(Wb true)=(Wb (isIn n f x))):=by kernel_rfl
theorem hasF_any (ao:Option Addr)(n c:Nat)(f:Nat→Int)(x:Int)(w:World)(hn:n≤9223372036854775807)(h0:Row.sat w ⟨false,ao,0,1,n,0,[fun i=>.int (f i)]⟩):Calls Tryz.prog 106 #[.slice ao n c,.int .i64 x] w fun e w'=>e=.returned (.bool (isIn n f x))∧Below w.heap.size w w':=by
 refine fn_ok mixed (E:={tb:=[],L:=[(2,shas ao n c f x)]}) trivial Tryz.func106 (one_loop (by kernel_rfl) (by kernel_rfl) (has_ok ao n c f x hn _)) (@Eq.mpr _ _ (hasF_T ao n c f x) ?_) (HS.rows (fun _=>False) [⟨false,ao,0,1,n,0,[fun i=>.int (f i)]⟩] (by simpa using h0)) (fun v ch' w' hv hs=>⟨by rw [hv],hs.below⟩)
 clear h0
 repeat' (first
  | with_reducible exact rfl
  | exact True.intro
  | refine And.intro ?_ ?_
  | apply Exists.intro
  | (intro g h;have h2:allB n (fun j=>!ieq (f j) x)=true:=h;simp only [isIn,h2];exact rfl;done)
  | (intro g j hj h hP;have h2:allB j (fun j=>!ieq (f j) x)=true:=h;have hP2:(!ieq (f j) x)=false:=hP;simp only [isIn,allB_no (p:=fun j=>!ieq (f j) x) hj hP2];exact rfl;done)
  | intro _
  | exact rfl)
def rqAtH (ao:Option Addr)(n c:Nat)(u:Nat→Nat→Int)(v:Nat→Nat→Bool)(x:Int)(i:SC)(g:Nat→Value):List SV:=hdN [(0,.a (.c (.sl 0 ao n c))),(1,.a (.c (.int x))),(5,.a (.c i))] g 0 20
def rqAtR (ao:Option Addr)(n c:Nat)(u:Nat→Nat→Int)(v:Nat→Nat→Bool)(x:Int)(j:Nat)(g:Nat→Value):List SV:=hdN [(4,.a (.c (.int (j:Int))))] g 0 20
def rqAtT (ao:Option Addr)(n c:Nat)(u:Nat→Nat→Int)(v:Nat→Nat→Bool)(x:Int):List Ch:=[.row ⟨false,ao,0,6,n,0,flK u v 0 [true,true,true,false,true,true]⟩]
def rqAtP (ao:Option Addr)(n c:Nat)(u:Nat→Nat→Int)(v:Nat→Nat→Bool)(x:Int)(j:Nat):Bool:=!(ieq (u 0 j) x)
def srqAt (ao:Option Addr)(n c:Nat)(u:Nat→Nat→Int)(v:Nat→Nat→Bool)(x:Int):LSm:=fun ts ch k =>
 (ts.map SV.den=(rqAtH ao n c u v x (.il 0) (fun d=>(ts.getD d .undef).den)).map SV.den∧selC ch [0]=rqAtT ao n c u v x) ∧
  (∀ g,allB n (rqAtP ao n c u v x)=true→k (.exit 0) (rqAtH ao n c u v x (.int (n:Int)) g) (rqAtT ao n c u v x))∧(∀ g j,ltN j n→allB j (rqAtP ao n c u v x)=true→rqAtP ao n c u v x j=false→k .ret (rqAtR ao n c u v x j g) (rqAtT ao n c u v x))
theorem rqAtB (ao:Option Addr)(n c:Nat)(u:Nat→Nat→Int)(v:Nat→Nat→Bool)(x:Int)(j:Nat)(g:Nat→Value)(NX:List SV→List Ch→Prop)(kx:Exit→List SV→List Ch→Prop):(exCode Tryz.prog {} 400 (theLoop Tryz.f112 0) (rqAtH ao n c u v x (.int (j:Int)) g) (rqAtT ao n c u v x) (loopK NX kx))=(
 (fun a:SV=>(fun b:SV=>(fun d:SV=>(fun h:SV=>(fun k:SV=>(fun l:Bool=>(fun m:List Ch=>(l=true→ao=ao∧n=n∧(0≤((j:Nat):Int)∧((j:Nat):Int)<((n:Nat):Int))∧ao=ao∧j<n∧ao=ao∧j<n∧(((u 0 j) == x)=true→kx Exit.ret [a,iV x,vV (g 2),vV (g 3),h,h,h,a,d,tV,vV (g 10),vV (g 11),a,h,b,b,iV (u 0 j),iV x,tV,h] m)∧(((u 0 j) == x)=false→rng (((j:Nat):Int)+(1:Int))∧NX [a,iV x,vV (g 2),vV (g 3),vV (g 4),k,h,a,d,tV,h,k,a,h,b,b,iV (u 0 j),iV x,fV,vV (g 19)] m))∧(l=false→kx (Exit.exit 0) [a,iV x,vV (g 2),vV (g 3),vV (g 4),h,h,a,d,fV,vV (g 10),vV (g 11),vV (g 12),vV (g 13),vV (g 14),vV (g 15),vV (g 16),vV (g 17),vV (g 18),vV (g 19)] m)) [Hr false ao 0 6 n 0 [fun m=>Ci (u 0 m),fun m=>Ci (u 1 m),fun m=>Ci (u 2 m),fun m=>Cb (v 3 m),fun m=>Ci (u 4 m),fun m=>Ci (u 5 m)]]) (decide (((j:Nat):Int)<((n:Nat):Int)))) (iV (((j:Nat):Int)+(1:Int)))) (iV ((j:Nat):Int))) (iV ((n:Nat):Int))) (rV 0 ao 6 j 0)) (sV 0 ao n c)):=by kernel_rfl
theorem rqAt_ok (ao:Option Addr)(n c:Nat)(u:Nat→Nat→Int)(v:Nat→Nat→Bool)(x:Int)(hn:n≤9223372036854775807)(X:Cx):LoopOK Tryz.prog X (theLoop Tryz.f112 0) (srqAt ao n c u v x):=by
 intro ts ch k a w hS hT hd hs
 obtain ⟨⟨h1,hch⟩,hk,hr⟩:=hS
 refine loop_ok mixed (E:={}) trivial (loopsOK_nil _ _ _) 400 n (fun j ts ch=>∃ g,allB j (rqAtP ao n c u v x)=true∧ts=rqAtH ao n c u v x (.int (j:Int)) g∧ch=rqAtT ao n c u v x) ?_ ?_ hT hd hs
 ·rintro j _ _ ⟨g,hall,rfl,rfl⟩ hj
  refine @Eq.mpr _ _ (rqAtB ao n c u v x j g _ _) ?_
  dsimp -zeta -proj -iota -eta -failIfUnchanged (etaStruct:=.none) only
  by_cases hlt:j<n
  ·have hjn:(0:Int)≤(j:Int)∧(j:Int)<(n:Int):=⟨by omega,by omega⟩
   clear h1
   cases hP:rqAtP ao n c u v x j
   all_goals cases hp0:ieq (u 0 j) x
   all_goals have hn0:=ieq_ne hp0
   all_goals (first | (exfalso;simp [rqAtP,hp0,hn0] at hP;done) | skip)
   all_goals
    repeat' (first
     | with_reducible exact rfl
     | exact True.intro
     | with_reducible assumption
     | (refine ⟨hlt,?_⟩;show Next _ _ _ _;refine Next.mk (fun g=>rqAtH ao n c u v x (.int ((j+1:Nat):Int)) g) _ ⟨_,allB_succ hall hP,rfl,rfl⟩ rfl fun w hw=>hw.sel [0] (by simp))
     | (refine Next.mk (fun g=>rqAtR ao n c u v x j g) _ (hr _ j hlt hall hP) rfl fun w hw=>hw.sel [0] (by simp))
     | refine And.intro ?_ ?_
     | (refine fun (h:@Eq Bool _ _)=>?_;exfalso;first | (simp [hp0,hn0] at h;done) | (simp [hp0,hn0] at h;omega))
     | intro _
     | omega)
  ·have hjn:n=j:=by omega
   subst hjn
   repeat' (first
    | with_reducible exact rfl
    | exact True.intro
    | (refine Next.mk (fun g=>rqAtH ao n c u v x (.int (n:Int)) g) _ (hk _ hall) rfl fun w hw=>hw.sel [0] (by simp))
    | refine And.intro ?_ ?_
    | (refine fun (h:@Eq Bool _ _)=>?_;exfalso;first | (simp at h;done) | (simp at h;omega))
    | intro _)
 ·refine Next.mk (fun g=>rqAtH ao n c u v x (.int ((0:Nat):Int)) g) _ ⟨_,allB_zero _,rfl,rfl⟩ h1 fun w hw=>?_
  rw [← hch]
  exact hw.sel [0] (by simp)
theorem rqAtF_T (ao:Option Addr)(n c:Nat)(u:Nat→Nat→Int)(v:Nat→Nat→Bool)(x:Int):(exFn Tryz.prog {tb:=[],L:=[(2,srqAt ao n c u v x)]} 400 Tryz.f112 ([.a (.c (.sl 0 ao n c)),.a (.c (.int x))]) ([.row ⟨false,ao,0,6,n,0,flK u v 0 [true,true,true,false,true,true]⟩]) (fun v _=>v.den=.int .i64 (itI n (u 0) x)))=(
 ([Ws ao n c,Wi x,Wu [],Wu [],Wi 0,Wi 0,Wu [],Wu [],Wu [],Wu [],Wu [],Wu [],Wu [],Wu [],Wu [],Wu [],Wu [],Wu [],Wu [],Wu []]=[Ws ao n c,Wi x,Wu [],Wu [],Wi 0,Wi 0,Wu [],Wu [],Wu [],Wu [],Wu [],Wu [],Wu [],Wu [],Wu [],Wu [],Wu [],Wu [],Wu [],Wu []]∧[Hr false ao 0 6 n 0 [fun b=>Ci (u 0 b),fun b=>Ci (u 1 b),fun b=>Ci (u 2 b),fun b=>Cb (v 3 b),fun b=>Ci (u 4 b),fun b=>Ci (u 5 b)]]=[Hr false ao 0 6 n 0 [fun b=>Ci (u 0 b),fun b=>Ci (u 1 b),fun b=>Ci (u 2 b),fun b=>Cb (v 3 b),fun b=>Ci (u 4 b),fun b=>Ci (u 5 b)]])∧(∀ b:Nat→Value,(allB n (rqAtP ao n c u v x))=true→(Wi (-1))=(Wi (itI n (u 0) x)))∧∀(b:Nat→Value) (d:Nat),d<n→(allB d (rqAtP ao n c u v x))=true→(rqAtP ao n c u v x d)=false→(Wi ((d:Nat):Int))=(Wi (itI n (u 0) x))):=by kernel_rfl
theorem rqAtF_any (ao:Option Addr)(n c:Nat)(u:Nat→Nat→Int)(v:Nat→Nat→Bool)(x:Int)(w:World)(hn:n≤9223372036854775807)(h0:Row.sat w ⟨false,ao,0,6,n,0,flK u v 0 [true,true,true,false,true,true]⟩):Calls Tryz.prog 112 #[.slice ao n c,.int .i64 x] w fun e w'=>e=.returned (.int .i64 (itI n (u 0) x))∧Below w.heap.size w w':=by
 refine fn_ok mixed (E:={tb:=[],L:=[(2,srqAt ao n c u v x)]}) trivial Tryz.func112 (one_loop (by kernel_rfl) (by kernel_rfl) (rqAt_ok ao n c u v x hn _)) (@Eq.mpr _ _ (rqAtF_T ao n c u v x) ?_) (HS.rows (fun _=>False) [⟨false,ao,0,6,n,0,flK u v 0 [true,true,true,false,true,true]⟩] (by simpa using h0)) (fun v ch' w' hv hs=>⟨by rw [hv],hs.below⟩)
 clear h0
 repeat' (first
  | with_reducible exact rfl
  | exact True.intro
  | refine And.intro ?_ ?_
  | apply Exists.intro
  | (intro g h;have h2:allB n (fun j=>!(ieq (u 0 j) x))=true:=h;simp only [itI,erI,adI,fidx_no (p:=fun j=>ieq (u 0 j) x) h2];done)
  | (intro g j hj h hP;have h2:allB j (fun j=>!(ieq (u 0 j) x))=true:=h;have hP2:(!(ieq (u 0 j) x))=false:=hP;simp only [itI,erI,adI,fidx_hit (p:=fun j=>ieq (u 0 j) x) hj h2 hP2];done)
  | intro _
  | exact rfl)
def erAtH (ao:Option Addr)(n c:Nat)(u:Nat→Nat→Int)(v:Nat→Nat→Bool)(x y:Int)(i:SC)(g:Nat→Value):List SV:=hdN [(0,.a (.c (.sl 0 ao n c))),(1,.a (.c (.int x))),(2,.a (.c (.int y))),(7,.a (.c i))] g 0 31
def erAtR (ao:Option Addr)(n c:Nat)(u:Nat→Nat→Int)(v:Nat→Nat→Bool)(x y:Int)(j:Nat)(g:Nat→Value):List SV:=hdN [(6,.a (.c (.int (j:Int))))] g 0 31
def erAtT (ao:Option Addr)(n c:Nat)(u:Nat→Nat→Int)(v:Nat→Nat→Bool)(x y:Int):List Ch:=[.row ⟨false,ao,0,3,n,0,flK u v 0 [true,true,true]⟩]
def erAtP (ao:Option Addr)(n c:Nat)(u:Nat→Nat→Int)(v:Nat→Nat→Bool)(x y:Int)(j:Nat):Bool:=!(ieq (u 0 j) x&&ieq (u 1 j) y)
def serAt (ao:Option Addr)(n c:Nat)(u:Nat→Nat→Int)(v:Nat→Nat→Bool)(x y:Int):LSm:=fun ts ch k =>
 (ts.map SV.den=(erAtH ao n c u v x y (.il 0) (fun d=>(ts.getD d .undef).den)).map SV.den∧selC ch [0]=erAtT ao n c u v x y) ∧
  (∀ g,allB n (erAtP ao n c u v x y)=true→k (.exit 0) (erAtH ao n c u v x y (.int (n:Int)) g) (erAtT ao n c u v x y))∧(∀ g j,ltN j n→allB j (erAtP ao n c u v x y)=true→erAtP ao n c u v x y j=false→k .ret (erAtR ao n c u v x y j g) (erAtT ao n c u v x y))
theorem erAtB (ao:Option Addr)(n c:Nat)(u:Nat→Nat→Int)(v:Nat→Nat→Bool)(x y:Int)(j:Nat)(g:Nat→Value)(NX:List SV→List Ch→Prop)(kx:Exit→List SV→List Ch→Prop):(exCode Tryz.prog {} 400 (theLoop Tryz.f114 0) (erAtH ao n c u v x y (.int (j:Int)) g) (erAtT ao n c u v x y) (loopK NX kx))=(
 (fun a:SV=>(fun b:Bool=>(fun d:SV=>(fun h:SV=>(fun k:SV=>(fun l:SV=>(fun m:SV=>(fun o:Bool=>(fun p:Prop=>(fun q:List Ch=>(o=true→ao=ao∧n=n∧p∧ao=ao∧j<n∧ao=ao∧j<n∧(((u 0 j) == x)=true→ao=ao∧n=n∧p∧ao=ao∧j<n∧ao=ao∧j<n∧(b=true→kx Exit.ret [a,iV x,iV y,vV (g 3),vV (g 4),vV (g 5),l,l,l,a,k,tV,vV (g 12),vV (g 13),a,l,d,d,iV (u 0 j),iV x,h,tV,a,l,d,rV 0 ao 3 j 1,iV (u 1 j),iV y,bV b,tV,l] q)∧(b=false→rng (((j:Nat):Int)+(1:Int))∧NX [a,iV x,iV y,vV (g 3),vV (g 4),vV (g 5),vV (g 6),m,l,a,k,tV,l,m,a,l,d,d,iV (u 0 j),iV x,h,tV,a,l,d,rV 0 ao 3 j 1,iV (u 1 j),iV y,bV b,fV,vV (g 30)] q))∧(((u 0 j) == x)=false→rng (((j:Nat):Int)+(1:Int))∧NX [a,iV x,iV y,vV (g 3),vV (g 4),vV (g 5),vV (g 6),m,l,a,k,tV,l,m,a,l,d,d,iV (u 0 j),iV x,h,fV,xV,xV,xV,xV,xV,xV,xV,fV,vV (g 30)] q))∧(o=false→kx (Exit.exit 0) [a,iV x,iV y,vV (g 3),vV (g 4),vV (g 5),vV (g 6),l,l,a,k,fV,vV (g 12),vV (g 13),vV (g 14),vV (g 15),vV (g 16),vV (g 17),vV (g 18),vV (g 19),vV (g 20),vV (g 21),vV (g 22),vV (g 23),vV (g 24),vV (g 25),vV (g 26),vV (g 27),vV (g 28),vV (g 29),vV (g 30)] q)) [Hr false ao 0 3 n 0 [fun q=>Ci (u 0 q),fun q=>Ci (u 1 q),fun q=>Ci (u 2 q)]]) (0≤((j:Nat):Int)∧((j:Nat):Int)<((n:Nat):Int))) (decide (((j:Nat):Int)<((n:Nat):Int)))) (iV (((j:Nat):Int)+(1:Int)))) (iV ((j:Nat):Int))) (iV ((n:Nat):Int))) (bV ((u 0 j) == x))) (rV 0 ao 3 j 0)) ((u 1 j) == y)) (sV 0 ao n c)):=by kernel_rfl
theorem erAt_ok (ao:Option Addr)(n c:Nat)(u:Nat→Nat→Int)(v:Nat→Nat→Bool)(x y:Int)(hn:n≤9223372036854775807)(X:Cx):LoopOK Tryz.prog X (theLoop Tryz.f114 0) (serAt ao n c u v x y):=by
 intro ts ch k a w hS hT hd hs
 obtain ⟨⟨h1,hch⟩,hk,hr⟩:=hS
 refine loop_ok mixed (E:={}) trivial (loopsOK_nil _ _ _) 400 n (fun j ts ch=>∃ g,allB j (erAtP ao n c u v x y)=true∧ts=erAtH ao n c u v x y (.int (j:Int)) g∧ch=erAtT ao n c u v x y) ?_ ?_ hT hd hs
 ·rintro j _ _ ⟨g,hall,rfl,rfl⟩ hj
  refine @Eq.mpr _ _ (erAtB ao n c u v x y j g _ _) ?_
  dsimp -zeta -proj -iota -eta -failIfUnchanged (etaStruct:=.none) only
  by_cases hlt:j<n
  ·have hjn:(0:Int)≤(j:Int)∧(j:Int)<(n:Int):=⟨by omega,by omega⟩
   clear h1
   cases hP:erAtP ao n c u v x y j
   all_goals cases hp0:ieq (u 0 j) x
   all_goals cases hp1:ieq (u 1 j) y
   all_goals have hn0:=ieq_ne hp0
   all_goals have hn1:=ieq_ne hp1
   all_goals (first | (exfalso;simp [erAtP,hp0,hp1,hn0,hn1] at hP;done) | skip)
   all_goals
    repeat' (first
     | with_reducible exact rfl
     | exact True.intro
     | with_reducible assumption
     | (refine ⟨hlt,?_⟩;show Next _ _ _ _;refine Next.mk (fun g=>erAtH ao n c u v x y (.int ((j+1:Nat):Int)) g) _ ⟨_,allB_succ hall hP,rfl,rfl⟩ rfl fun w hw=>hw.sel [0] (by simp))
     | (refine Next.mk (fun g=>erAtR ao n c u v x y j g) _ (hr _ j hlt hall hP) rfl fun w hw=>hw.sel [0] (by simp))
     | refine And.intro ?_ ?_
     | (refine fun (h:@Eq Bool _ _)=>?_;exfalso;first | (simp [hp0,hp1,hn0,hn1] at h;done) | (simp [hp0,hp1,hn0,hn1] at h;omega))
     | intro _
     | omega)
  ·have hjn:n=j:=by omega
   subst hjn
   repeat' (first
    | with_reducible exact rfl
    | exact True.intro
    | (refine Next.mk (fun g=>erAtH ao n c u v x y (.int (n:Int)) g) _ (hk _ hall) rfl fun w hw=>hw.sel [0] (by simp))
    | refine And.intro ?_ ?_
    | (refine fun (h:@Eq Bool _ _)=>?_;exfalso;first | (simp at h;done) | (simp at h;omega))
    | intro _)
 ·refine Next.mk (fun g=>erAtH ao n c u v x y (.int ((0:Nat):Int)) g) _ ⟨_,allB_zero _,rfl,rfl⟩ h1 fun w hw=>?_
  rw [← hch]
  exact hw.sel [0] (by simp)
theorem erAtF_T (ao:Option Addr)(n c:Nat)(u:Nat→Nat→Int)(v:Nat→Nat→Bool)(x y:Int):(exFn Tryz.prog {tb:=[],L:=[(2,serAt ao n c u v x y)]} 400 Tryz.f114 ([.a (.c (.sl 0 ao n c)),.a (.c (.int x)),.a (.c (.int y))]) ([.row ⟨false,ao,0,3,n,0,flK u v 0 [true,true,true]⟩]) (fun v _=>v.den=.int .i64 (erI n u x y)))=(
 ([Ws ao n c,Wi x,Wi y,Wu [],Wu [],Wu [],Wi 0,Wi 0,Wu [],Wu [],Wu [],Wu [],Wu [],Wu [],Wu [],Wu [],Wu [],Wu [],Wu [],Wu [],Wu [],Wu [],Wu [],Wu [],Wu [],Wu [],Wu [],Wu [],Wu [],Wu [],Wu []]=[Ws ao n c,Wi x,Wi y,Wu [],Wu [],Wu [],Wi 0,Wi 0,Wu [],Wu [],Wu [],Wu [],Wu [],Wu [],Wu [],Wu [],Wu [],Wu [],Wu [],Wu [],Wu [],Wu [],Wu [],Wu [],Wu [],Wu [],Wu [],Wu [],Wu [],Wu [],Wu []]∧[Hr false ao 0 3 n 0 [fun b=>Ci (u 0 b),fun b=>Ci (u 1 b),fun b=>Ci (u 2 b)]]=[Hr false ao 0 3 n 0 [fun b=>Ci (u 0 b),fun b=>Ci (u 1 b),fun b=>Ci (u 2 b)]])∧(∀ b:Nat→Value,(allB n (erAtP ao n c u v x y))=true→(Wi (-1))=(Wi (erI n u x y)))∧∀(b:Nat→Value) (d:Nat),d<n→(allB d (erAtP ao n c u v x y))=true→(erAtP ao n c u v x y d)=false→(Wi ((d:Nat):Int))=(Wi (erI n u x y))):=by kernel_rfl
theorem erAtF_any (ao:Option Addr)(n c:Nat)(u:Nat→Nat→Int)(v:Nat→Nat→Bool)(x y:Int)(w:World)(hn:n≤9223372036854775807)(h0:Row.sat w ⟨false,ao,0,3,n,0,flK u v 0 [true,true,true]⟩):Calls Tryz.prog 114 #[.slice ao n c,.int .i64 x,.int .i64 y] w fun e w'=>e=.returned (.int .i64 (erI n u x y))∧Below w.heap.size w w':=by
 refine fn_ok mixed (E:={tb:=[],L:=[(2,serAt ao n c u v x y)]}) trivial Tryz.func114 (one_loop (by kernel_rfl) (by kernel_rfl) (erAt_ok ao n c u v x y hn _)) (@Eq.mpr _ _ (erAtF_T ao n c u v x y) ?_) (HS.rows (fun _=>False) [⟨false,ao,0,3,n,0,flK u v 0 [true,true,true]⟩] (by simpa using h0)) (fun v ch' w' hv hs=>⟨by rw [hv],hs.below⟩)
 clear h0
 repeat' (first
  | with_reducible exact rfl
  | exact True.intro
  | refine And.intro ?_ ?_
  | apply Exists.intro
  | (intro g h;have h2:allB n (fun j=>!(ieq (u 0 j) x&&ieq (u 1 j) y))=true:=h;simp only [itI,erI,adI,fidx_no (p:=fun j=>ieq (u 0 j) x&&ieq (u 1 j) y) h2];done)
  | (intro g j hj h hP;have h2:allB j (fun j=>!(ieq (u 0 j) x&&ieq (u 1 j) y))=true:=h;have hP2:(!(ieq (u 0 j) x&&ieq (u 1 j) y))=false:=hP;simp only [itI,erI,adI,fidx_hit (p:=fun j=>ieq (u 0 j) x&&ieq (u 1 j) y) hj h2 hP2];done)
  | intro _
  | exact rfl)
def adFiH (ao:Option Addr)(n c:Nat)(u:Nat→Nat→Int)(v:Nat→Nat→Bool)(x y z:Int)(bb:Nat)(i:SC)(g:Nat→Value):List SV:=hdN [(0,.a (.c (.sl 0 ao n c))),(3,.a (.c (.ptr 1 bb 0))),(5,.a (.c i))] g 0 19
def adFiR (ao:Option Addr)(n c:Nat)(u:Nat→Nat→Int)(v:Nat→Nat→Bool)(x y z:Int)(bb:Nat)(j:Nat)(g:Nat→Value):List SV:=hdN [(4,.a (.c (.int (j:Int))))] g 0 19
def adFiT (ao:Option Addr)(n c:Nat)(u:Nat→Nat→Int)(v:Nat→Nat→Bool)(x y z:Int)(bb:Nat):List Ch:=[.row ⟨false,ao,0,3,n,0,flK u v 0 [true,true,true]⟩,.cells bb 104 [.int x,.int y,.int z]]
def adFiP (ao:Option Addr)(n c:Nat)(u:Nat→Nat→Int)(v:Nat→Nat→Bool)(x y z:Int)(bb:Nat)(j:Nat):Bool:=!(ieq (u 0 j) x&&(ieq (u 1 j) y&&ieq (u 2 j) z))
def sadFi (ao:Option Addr)(n c:Nat)(u:Nat→Nat→Int)(v:Nat→Nat→Bool)(x y z:Int)(bb:Nat):LSm:=fun ts ch k =>
 (ts.map SV.den=(adFiH ao n c u v x y z bb (.il 0) (fun d=>(ts.getD d .undef).den)).map SV.den∧selC ch [0,1]=adFiT ao n c u v x y z bb) ∧
  (∀ g,allB n (adFiP ao n c u v x y z bb)=true→k (.exit 0) (adFiH ao n c u v x y z bb (.int (n:Int)) g) (adFiT ao n c u v x y z bb))∧(∀ g j,ltN j n→allB j (adFiP ao n c u v x y z bb)=true→adFiP ao n c u v x y z bb j=false→k .ret (adFiR ao n c u v x y z bb j g) (adFiT ao n c u v x y z bb))
theorem adFiB (ao:Option Addr)(n c:Nat)(u:Nat→Nat→Int)(v:Nat→Nat→Bool)(x y z:Int)(bb:Nat)(j:Nat)(g:Nat→Value)(NX:List SV→List Ch→Prop)(kx:Exit→List SV→List Ch→Prop):(exCode Tryz.prog {} 400 (theLoop Tryz.f109 0) (adFiH ao n c u v x y z bb (.int (j:Int)) g) (adFiT ao n c u v x y z bb) (loopK NX kx))=(
 (fun a:SV=>(fun b:SV=>(fun d:SV=>(fun h:SV=>(fun k:SV=>(fun l:SV=>(fun m:Bool=>(fun o:List Ch=>(m=true→ao=ao∧n=n∧(0≤((j:Nat):Int)∧((j:Nat):Int)<((n:Nat):Int))∧ao=ao∧j<n∧bb=bb∧((andB ((u 0 j) == x) (andB ((u 1 j) == y) (andB ((u 2 j) == z) true)))=true→kx Exit.ret [a,vV (g 1),vV (g 2),pV 1 bb 0,d,d,d,a,b,tV,vV (g 10),vV (g 11),a,d,rV 0 ao 3 j 0,l,h,tV,d] o)∧((andB ((u 0 j) == x) (andB ((u 1 j) == y) (andB ((u 2 j) == z) true)))=false→rng (((j:Nat):Int)+(1:Int))∧NX [a,vV (g 1),vV (g 2),pV 1 bb 0,vV (g 4),k,d,a,b,tV,d,k,a,d,rV 0 ao 3 j 0,l,h,fV,vV (g 18)] o))∧(m=false→kx (Exit.exit 0) [a,vV (g 1),vV (g 2),pV 1 bb 0,vV (g 4),d,d,a,b,fV,vV (g 10),vV (g 11),vV (g 12),vV (g 13),vV (g 14),vV (g 15),vV (g 16),vV (g 17),vV (g 18)] o)) [Hr false ao 0 3 n 0 [fun o=>Ci (u 0 o),fun o=>Ci (u 1 o),fun o=>Ci (u 2 o)],Hc bb 104 [Ci x,Ci y,Ci z]]) (decide (((j:Nat):Int)<((n:Nat):Int)))) (aV [Ci (u 0 j),Ci (u 1 j),Ci (u 2 j)])) (iV (((j:Nat):Int)+(1:Int)))) (aV [Ci x,Ci y,Ci z])) (iV ((j:Nat):Int))) (iV ((n:Nat):Int))) (sV 0 ao n c)):=by kernel_rfl
theorem adFi_ok (ao:Option Addr)(n c:Nat)(u:Nat→Nat→Int)(v:Nat→Nat→Bool)(x y z:Int)(bb:Nat)(hn:n≤9223372036854775807)(X:Cx):LoopOK Tryz.prog X (theLoop Tryz.f109 0) (sadFi ao n c u v x y z bb):=by
 intro ts ch k a w hS hT hd hs
 obtain ⟨⟨h1,hch⟩,hk,hr⟩:=hS
 refine loop_ok mixed (E:={}) trivial (loopsOK_nil _ _ _) 400 n (fun j ts ch=>∃ g,allB j (adFiP ao n c u v x y z bb)=true∧ts=adFiH ao n c u v x y z bb (.int (j:Int)) g∧ch=adFiT ao n c u v x y z bb) ?_ ?_ hT hd hs
 ·rintro j _ _ ⟨g,hall,rfl,rfl⟩ hj
  refine @Eq.mpr _ _ (adFiB ao n c u v x y z bb j g _ _) ?_
  dsimp -zeta -proj -iota -eta -failIfUnchanged (etaStruct:=.none) only
  by_cases hlt:j<n
  ·have hjn:(0:Int)≤(j:Int)∧(j:Int)<(n:Int):=⟨by omega,by omega⟩
   clear h1
   cases hP:adFiP ao n c u v x y z bb j
   all_goals cases hp0:ieq (u 0 j) x
   all_goals cases hp1:ieq (u 1 j) y
   all_goals cases hp2:ieq (u 2 j) z
   all_goals have hn0:=ieq_ne hp0
   all_goals have hn1:=ieq_ne hp1
   all_goals have hn2:=ieq_ne hp2
   all_goals (first | (exfalso;simp [adFiP,hp0,hp1,hp2,hn0,hn1,hn2] at hP;done) | skip)
   all_goals
    repeat' (first
     | with_reducible exact rfl
     | exact True.intro
     | with_reducible assumption
     | (refine ⟨hlt,?_⟩;show Next _ _ _ _;refine Next.mk (fun g=>adFiH ao n c u v x y z bb (.int ((j+1:Nat):Int)) g) _ ⟨_,allB_succ hall hP,rfl,rfl⟩ rfl fun w hw=>hw.sel [0,1] (by simp))
     | (refine Next.mk (fun g=>adFiR ao n c u v x y z bb j g) _ (hr _ j hlt hall hP) rfl fun w hw=>hw.sel [0,1] (by simp))
     | refine And.intro ?_ ?_
     | (refine fun (h:@Eq Bool _ _)=>?_;exfalso;first | (simp [hp0,hp1,hp2,hn0,hn1,hn2] at h;done) | (simp [hp0,hp1,hp2,hn0,hn1,hn2] at h;omega))
     | intro _
     | omega)
  ·have hjn:n=j:=by omega
   subst hjn
   repeat' (first
    | with_reducible exact rfl
    | exact True.intro
    | (refine Next.mk (fun g=>adFiH ao n c u v x y z bb (.int (n:Int)) g) _ (hk _ hall) rfl fun w hw=>hw.sel [0,1] (by simp))
    | refine And.intro ?_ ?_
    | (refine fun (h:@Eq Bool _ _)=>?_;exfalso;first | (simp at h;done) | (simp at h;omega))
    | intro _)
 ·refine Next.mk (fun g=>adFiH ao n c u v x y z bb (.int ((0:Nat):Int)) g) _ ⟨_,allB_zero _,rfl,rfl⟩ h1 fun w hw=>?_
  rw [← hch]
  exact hw.sel [0,1] (by simp)
def sadFiw (ao:Option Addr)(n c:Nat)(u:Nat→Nat→Int)(v:Nat→Nat→Bool)(x y z:Int):LSm:=fun ts ch kk=>∃ bb,sadFi ao n c u v x y z bb ts ch kk
theorem adFiw_ok (ao:Option Addr)(n c:Nat)(u:Nat→Nat→Int)(v:Nat→Nat→Bool)(x y z:Int)(hn:n≤9223372036854775807)(X:Cx):LoopOK Tryz.prog X (theLoop Tryz.f109 0) (sadFiw ao n c u v x y z):=by
 rintro ts ch kk a w ⟨bb,h⟩ hT hd hs
 exact adFi_ok ao n c u v x y z bb hn X ts ch kk a w h hT hd hs
theorem adFiF_T (ao:Option Addr)(n c:Nat)(u:Nat→Nat→Int)(v:Nat→Nat→Bool)(x y z:Int):(exFn Tryz.prog {tb:=[],L:=[(2,sadFiw ao n c u v x y z)]} 400 Tryz.f109 ([.a (.c (.sl 0 ao n c)),.a (.agg [.int x,.int y,.int z])]) ([.row ⟨false,ao,0,3,n,0,flK u v 0 [true,true,true]⟩]) (fun v _=>v.den=.int .i64 (adI n u x y z)))=(
 ∀ b:Nat,∃ d:Nat,([Ws ao n c,Wa [Wi x,Wi y,Wi z],Wu [],Wp b 0,Wi 0,Wi 0,Wu [],Wu [],Wu [],Wu [],Wu [],Wu [],Wu [],Wu [],Wu [],Wu [],Wu [],Wu [],Wu []]=[Ws ao n c,Wa [Wi x,Wi y,Wi z],Wu [],Wp d 0,Wi 0,Wi 0,Wu [],Wu [],Wu [],Wu [],Wu [],Wu [],Wu [],Wu [],Wu [],Wu [],Wu [],Wu [],Wu []]∧[Hr false ao 0 3 n 0 [fun g=>Ci (u 0 g),fun g=>Ci (u 1 g),fun g=>Ci (u 2 g)],Hc b 104 [Ci x,Ci y,Ci z]]=[Hr false ao 0 3 n 0 [fun g=>Ci (u 0 g),fun g=>Ci (u 1 g),fun g=>Ci (u 2 g)],Hc d 104 [Ci x,Ci y,Ci z]])∧(∀ g:Nat→Value,(allB n (adFiP ao n c u v x y z d))=true→(Wi (-1))=(Wi (adI n u x y z)))∧∀(g:Nat→Value) (h:Nat),h<n→(allB h (adFiP ao n c u v x y z d))=true→(adFiP ao n c u v x y z d h)=false→(Wi ((h:Nat):Int))=(Wi (adI n u x y z))):=by kernel_rfl
theorem adFiF_any (ao:Option Addr)(n c:Nat)(u:Nat→Nat→Int)(v:Nat→Nat→Bool)(x y z:Int)(w:World)(hn:n≤9223372036854775807)(h0:Row.sat w ⟨false,ao,0,3,n,0,flK u v 0 [true,true,true]⟩):Calls Tryz.prog 109 #[.slice ao n c,.agg #[.int .i64 x,.int .i64 y,.int .i64 z]] w fun e w'=>e=.returned (.int .i64 (adI n u x y z))∧Below w.heap.size w w':=by
 refine fn_ok mixed (E:={tb:=[],L:=[(2,sadFiw ao n c u v x y z)]}) trivial Tryz.func109 (one_loop (by kernel_rfl) (by kernel_rfl) (adFiw_ok ao n c u v x y z hn _)) (@Eq.mpr _ _ (adFiF_T ao n c u v x y z) ?_) (HS.rows (fun _=>False) [⟨false,ao,0,3,n,0,flK u v 0 [true,true,true]⟩] (by simpa using h0)) (fun v ch' w' hv hs=>⟨by rw [hv],hs.below⟩)
 clear h0
 repeat' (first
  | with_reducible exact rfl
  | exact True.intro
  | refine And.intro ?_ ?_
  | apply Exists.intro
  | (intro g h;have h2:allB n (fun j=>!(ieq (u 0 j) x&&(ieq (u 1 j) y&&ieq (u 2 j) z)))=true:=h;simp only [itI,erI,adI,fidx_no (p:=fun j=>ieq (u 0 j) x&&(ieq (u 1 j) y&&ieq (u 2 j) z)) h2];done)
  | (intro g j hj h hP;have h2:allB j (fun j=>!(ieq (u 0 j) x&&(ieq (u 1 j) y&&ieq (u 2 j) z)))=true:=h;have hP2:(!(ieq (u 0 j) x&&(ieq (u 1 j) y&&ieq (u 2 j) z)))=false:=hP;simp only [itI,erI,adI,fidx_hit (p:=fun j=>ieq (u 0 j) x&&(ieq (u 1 j) y&&ieq (u 2 j) z)) hj h2 hP2];done)
  | intro _
  | exact rfl)
def adIxH (ao:Option Addr)(n c:Nat)(u:Nat→Nat→Int)(v:Nat→Nat→Bool)(x y z:Int)(bb:Nat)(i:SC)(g:Nat→Value):List SV:=hdN [(0,.a (.c (.sl 0 ao n c))),(3,.a (.c (.ptr 1 bb 0))),(7,.a (.c (.int (n:Int)))),(8,.a (.c i))] g 0 19
def adIxR (ao:Option Addr)(n c:Nat)(u:Nat→Nat→Int)(v:Nat→Nat→Bool)(x y z:Int)(bb:Nat)(j:Nat)(g:Nat→Value):List SV:=hdN [(4,.a (.c (.int (j:Int))))] g 0 19
def adIxT (ao:Option Addr)(n c:Nat)(u:Nat→Nat→Int)(v:Nat→Nat→Bool)(x y z:Int)(bb:Nat):List Ch:=[.row ⟨false,ao,0,3,n,0,flK u v 0 [true,true,true]⟩,.cells bb 104 [.int x,.int y,.int z]]
def adIxP (ao:Option Addr)(n c:Nat)(u:Nat→Nat→Int)(v:Nat→Nat→Bool)(x y z:Int)(bb:Nat)(j:Nat):Bool:=!(ieq (u 0 j) x&&(ieq (u 1 j) y&&ieq (u 2 j) z))
def sadIx (ao:Option Addr)(n c:Nat)(u:Nat→Nat→Int)(v:Nat→Nat→Bool)(x y z:Int)(bb:Nat):LSm:=fun ts ch k =>
 (ts.map SV.den=(adIxH ao n c u v x y z bb (.il 0) (fun d=>(ts.getD d .undef).den)).map SV.den∧selC ch [0,1]=adIxT ao n c u v x y z bb) ∧
  (∀ g,allB n (adIxP ao n c u v x y z bb)=true→k (.exit 0) (adIxH ao n c u v x y z bb (.int (n:Int)) g) (adIxT ao n c u v x y z bb))∧(∀ g j,ltN j n→allB j (adIxP ao n c u v x y z bb)=true→adIxP ao n c u v x y z bb j=false→k .ret (adIxR ao n c u v x y z bb j g) (adIxT ao n c u v x y z bb))
theorem adIxB (ao:Option Addr)(n c:Nat)(u:Nat→Nat→Int)(v:Nat→Nat→Bool)(x y z:Int)(bb:Nat)(j:Nat)(g:Nat→Value)(NX:List SV→List Ch→Prop)(kx:Exit→List SV→List Ch→Prop):(exCode Tryz.prog {} 400 (theLoop Tryz.f143 0) (adIxH ao n c u v x y z bb (.int (j:Int)) g) (adIxT ao n c u v x y z bb) (loopK NX kx))=(
 (fun a:SV=>(fun b:SV=>(fun d:SV=>(fun h:SV=>(fun k:SV=>(fun l:SV=>(fun m:Bool=>(fun o:List Ch=>(m=true→bb=bb∧ao=ao∧n=n∧(0≤((j:Nat):Int)∧((j:Nat):Int)<((n:Nat):Int))∧ao=ao∧j<n∧((andB (x == (u 0 j)) (andB (y == (u 1 j)) (andB (z == (u 2 j)) true)))=true→kx Exit.ret [a,vV (g 1),vV (g 2),pV 1 bb 0,d,d,vV (g 6),b,d,tV,d,h,a,d,rV 0 ao 3 j 0,l,tV,d,vV (g 18)] o)∧((andB (x == (u 0 j)) (andB (y == (u 1 j)) (andB (z == (u 2 j)) true)))=false→rng (((j:Nat):Int)+(1:Int))∧NX [a,vV (g 1),vV (g 2),pV 1 bb 0,vV (g 4),d,vV (g 6),b,k,tV,d,h,a,d,rV 0 ao 3 j 0,l,fV,vV (g 17),k] o))∧(m=false→kx (Exit.exit 0) [a,vV (g 1),vV (g 2),pV 1 bb 0,vV (g 4),vV (g 5),vV (g 6),b,d,fV,vV (g 10),vV (g 11),vV (g 12),vV (g 13),vV (g 14),vV (g 15),vV (g 16),vV (g 17),vV (g 18)] o)) [Hr false ao 0 3 n 0 [fun o=>Ci (u 0 o),fun o=>Ci (u 1 o),fun o=>Ci (u 2 o)],Hc bb 104 [Ci x,Ci y,Ci z]]) (decide (((j:Nat):Int)<((n:Nat):Int)))) (aV [Ci (u 0 j),Ci (u 1 j),Ci (u 2 j)])) (iV (((j:Nat):Int)+(1:Int)))) (aV [Ci x,Ci y,Ci z])) (iV ((j:Nat):Int))) (iV ((n:Nat):Int))) (sV 0 ao n c)):=by kernel_rfl
theorem adIx_ok (ao:Option Addr)(n c:Nat)(u:Nat→Nat→Int)(v:Nat→Nat→Bool)(x y z:Int)(bb:Nat)(hn:n≤9223372036854775807)(X:Cx):LoopOK Tryz.prog X (theLoop Tryz.f143 0) (sadIx ao n c u v x y z bb):=by
 intro ts ch k a w hS hT hd hs
 obtain ⟨⟨h1,hch⟩,hk,hr⟩:=hS
 refine loop_ok mixed (E:={}) trivial (loopsOK_nil _ _ _) 400 n (fun j ts ch=>∃ g,allB j (adIxP ao n c u v x y z bb)=true∧ts=adIxH ao n c u v x y z bb (.int (j:Int)) g∧ch=adIxT ao n c u v x y z bb) ?_ ?_ hT hd hs
 ·rintro j _ _ ⟨g,hall,rfl,rfl⟩ hj
  refine @Eq.mpr _ _ (adIxB ao n c u v x y z bb j g _ _) ?_
  dsimp -zeta -proj -iota -eta -failIfUnchanged (etaStruct:=.none) only
  by_cases hlt:j<n
  ·have hjn:(0:Int)≤(j:Int)∧(j:Int)<(n:Int):=⟨by omega,by omega⟩
   clear h1
   have hcm0:(x == u 0 j)=(u 0 j == x):=by rw [Bool.eq_iff_iff];simp;omega
   have hcm1:(y == u 1 j)=(u 1 j == y):=by rw [Bool.eq_iff_iff];simp;omega
   have hcm2:(z == u 2 j)=(u 2 j == z):=by rw [Bool.eq_iff_iff];simp;omega
   cases hP:adIxP ao n c u v x y z bb j
   all_goals cases hp0:ieq (u 0 j) x
   all_goals cases hp1:ieq (u 1 j) y
   all_goals cases hp2:ieq (u 2 j) z
   all_goals have hn0:=ieq_ne hp0
   all_goals have hn1:=ieq_ne hp1
   all_goals have hn2:=ieq_ne hp2
   all_goals (first | (exfalso;simp [adIxP,hp0,hp1,hp2,hn0,hn1,hn2,hcm0,hcm1,hcm2] at hP;done) | skip)
   all_goals
    repeat' (first
     | with_reducible exact rfl
     | exact True.intro
     | with_reducible assumption
     | (refine ⟨hlt,?_⟩;show Next _ _ _ _;refine Next.mk (fun g=>adIxH ao n c u v x y z bb (.int ((j+1:Nat):Int)) g) _ ⟨_,allB_succ hall hP,rfl,rfl⟩ rfl fun w hw=>hw.sel [0,1] (by simp))
     | (refine Next.mk (fun g=>adIxR ao n c u v x y z bb j g) _ (hr _ j hlt hall hP) rfl fun w hw=>hw.sel [0,1] (by simp))
     | refine And.intro ?_ ?_
     | (refine fun (h:@Eq Bool _ _)=>?_;exfalso;first | (simp [hp0,hp1,hp2,hn0,hn1,hn2,hcm0,hcm1,hcm2] at h;done) | (simp [hp0,hp1,hp2,hn0,hn1,hn2,hcm0,hcm1,hcm2] at h;omega))
     | intro _
     | omega)
  ·have hjn:n=j:=by omega
   subst hjn
   repeat' (first
    | with_reducible exact rfl
    | exact True.intro
    | (refine Next.mk (fun g=>adIxH ao n c u v x y z bb (.int (n:Int)) g) _ (hk _ hall) rfl fun w hw=>hw.sel [0,1] (by simp))
    | refine And.intro ?_ ?_
    | (refine fun (h:@Eq Bool _ _)=>?_;exfalso;first | (simp at h;done) | (simp at h;omega))
    | intro _)
 ·refine Next.mk (fun g=>adIxH ao n c u v x y z bb (.int ((0:Nat):Int)) g) _ ⟨_,allB_zero _,rfl,rfl⟩ h1 fun w hw=>?_
  rw [← hch]
  exact hw.sel [0,1] (by simp)
def sadIxw (ao:Option Addr)(n c:Nat)(u:Nat→Nat→Int)(v:Nat→Nat→Bool)(x y z:Int):LSm:=fun ts ch kk=>∃ bb,sadIx ao n c u v x y z bb ts ch kk
theorem adIxw_ok (ao:Option Addr)(n c:Nat)(u:Nat→Nat→Int)(v:Nat→Nat→Bool)(x y z:Int)(hn:n≤9223372036854775807)(X:Cx):LoopOK Tryz.prog X (theLoop Tryz.f143 0) (sadIxw ao n c u v x y z):=by
 rintro ts ch kk a w ⟨bb,h⟩ hT hd hs
 exact adIx_ok ao n c u v x y z bb hn X ts ch kk a w h hT hd hs
theorem adIxF_T (ao:Option Addr)(n c:Nat)(u:Nat→Nat→Int)(v:Nat→Nat→Bool)(x y z:Int):(exFn Tryz.prog {tb:=[],L:=[(2,sadIxw ao n c u v x y z)]} 400 Tryz.f143 ([.a (.c (.sl 0 ao n c)),.a (.agg [.int x,.int y,.int z])]) ([.row ⟨false,ao,0,3,n,0,flK u v 0 [true,true,true]⟩]) (fun v _=>v.den=.int .i64 (adI n u x y z)))=(
 ∀ b:Nat,∃ d:Nat,([Ws ao n c,Wa [Wi x,Wi y,Wi z],Wu [],Wp b 0,Wi 0,Wu [],Ws ao n c,Wi ((n:Nat):Int),Wi 0,Wu [],Wu [],Wu [],Wu [],Wu [],Wu [],Wu [],Wu [],Wu [],Wu []]=[Ws ao n c,Wa [Wi x,Wi y,Wi z],Wu [],Wp d 0,Wi 0,Wu [],Ws ao n c,Wi ((n:Nat):Int),Wi 0,Wu [],Wu [],Wu [],Wu [],Wu [],Wu [],Wu [],Wu [],Wu [],Wu []]∧[Hr false ao 0 3 n 0 [fun g=>Ci (u 0 g),fun g=>Ci (u 1 g),fun g=>Ci (u 2 g)],Hc b 104 [Ci x,Ci y,Ci z]]=[Hr false ao 0 3 n 0 [fun g=>Ci (u 0 g),fun g=>Ci (u 1 g),fun g=>Ci (u 2 g)],Hc d 104 [Ci x,Ci y,Ci z]])∧(∀ g:Nat→Value,(allB n (adIxP ao n c u v x y z d))=true→(Wi (-1))=(Wi (adI n u x y z)))∧∀(g:Nat→Value) (h:Nat),h<n→(allB h (adIxP ao n c u v x y z d))=true→(adIxP ao n c u v x y z d h)=false→(Wi ((h:Nat):Int))=(Wi (adI n u x y z))):=by kernel_rfl
theorem adIxF_any (ao:Option Addr)(n c:Nat)(u:Nat→Nat→Int)(v:Nat→Nat→Bool)(x y z:Int)(w:World)(hn:n≤9223372036854775807)(h0:Row.sat w ⟨false,ao,0,3,n,0,flK u v 0 [true,true,true]⟩):Calls Tryz.prog 143 #[.slice ao n c,.agg #[.int .i64 x,.int .i64 y,.int .i64 z]] w fun e w'=>e=.returned (.int .i64 (adI n u x y z))∧Below w.heap.size w w':=by
 refine fn_ok mixed (E:={tb:=[],L:=[(2,sadIxw ao n c u v x y z)]}) trivial Tryz.func143 (one_loop (by kernel_rfl) (by kernel_rfl) (adIxw_ok ao n c u v x y z hn _)) (@Eq.mpr _ _ (adIxF_T ao n c u v x y z) ?_) (HS.rows (fun _=>False) [⟨false,ao,0,3,n,0,flK u v 0 [true,true,true]⟩] (by simpa using h0)) (fun v ch' w' hv hs=>⟨by rw [hv],hs.below⟩)
 clear h0
 repeat' (first
  | with_reducible exact rfl
  | exact True.intro
  | refine And.intro ?_ ?_
  | apply Exists.intro
  | (intro g h;have h2:allB n (fun j=>!(ieq (u 0 j) x&&(ieq (u 1 j) y&&ieq (u 2 j) z)))=true:=h;simp only [itI,erI,adI,fidx_no (p:=fun j=>ieq (u 0 j) x&&(ieq (u 1 j) y&&ieq (u 2 j) z)) h2];done)
  | (intro g j hj h hP;have h2:allB j (fun j=>!(ieq (u 0 j) x&&(ieq (u 1 j) y&&ieq (u 2 j) z)))=true:=h;have hP2:(!(ieq (u 0 j) x&&(ieq (u 1 j) y&&ieq (u 2 j) z)))=false:=hP;simp only [itI,erI,adI,fidx_hit (p:=fun j=>ieq (u 0 j) x&&(ieq (u 1 j) y&&ieq (u 2 j) z)) hj h2 hP2];done)
  | intro _
  | exact rfl)
def itIxH (ao:Option Addr)(n c:Nat)(f:Nat→Int)(x:Int)(i:SC)(g:Nat→Value):List SV:=hdN [(0,.a (.c (.sl 0 ao n c))),(1,.a (.c (.int x))),(7,.a (.c (.int (n:Int)))),(8,.a (.c i))] g 0 19
def itIxR (ao:Option Addr)(n c:Nat)(f:Nat→Int)(x:Int)(j:Nat)(g:Nat→Value):List SV:=hdN [(4,.a (.c (.int (j:Int))))] g 0 19
def itIxT (ao:Option Addr)(n c:Nat)(f:Nat→Int)(x:Int):List Ch:=[.row ⟨false,ao,0,1,n,0,[fun i=>.int (f i)]⟩]
def itIxP (ao:Option Addr)(n c:Nat)(f:Nat→Int)(x:Int)(j:Nat):Bool:=!(ieq (f j) x)
def sitIx (ao:Option Addr)(n c:Nat)(f:Nat→Int)(x:Int):LSm:=fun ts ch k =>
 (ts.map SV.den=(itIxH ao n c f x (.il 0) (fun d=>(ts.getD d .undef).den)).map SV.den∧selC ch [0]=itIxT ao n c f x) ∧
  (∀ g,allB n (itIxP ao n c f x)=true→k (.exit 0) (itIxH ao n c f x (.int (n:Int)) g) (itIxT ao n c f x))∧(∀ g j,ltN j n→allB j (itIxP ao n c f x)=true→itIxP ao n c f x j=false→k .ret (itIxR ao n c f x j g) (itIxT ao n c f x))
theorem itIxB (ao:Option Addr)(n c:Nat)(f:Nat→Int)(x:Int)(j:Nat)(g:Nat→Value)(NX:List SV→List Ch→Prop)(kx:Exit→List SV→List Ch→Prop):(exCode Tryz.prog {} 400 (theLoop Tryz.f181 0) (itIxH ao n c f x (.int (j:Int)) g) (itIxT ao n c f x) (loopK NX kx))=(
 ((decide (((j:Nat):Int)<((n:Nat):Int)))=true→ao=ao∧n=n∧(0≤((j:Nat):Int)∧((j:Nat):Int)<((n:Nat):Int))∧ao=ao∧j<n∧((x == (f j))=true→kx Exit.ret [sV 0 ao n c,iV x,vV (g 2),vV (g 3),iV ((j:Nat):Int),iV ((j:Nat):Int),vV (g 6),iV ((n:Nat):Int),iV ((j:Nat):Int),tV,iV ((j:Nat):Int),iV x,sV 0 ao n c,iV ((j:Nat):Int),rV 0 ao 1 j 0,iV (f j),tV,iV ((j:Nat):Int),vV (g 18)] [Hr false ao 0 1 n 0 [fun a=>Ci (f a)]])∧((x == (f j))=false→rng (((j:Nat):Int)+(1:Int))∧NX [sV 0 ao n c,iV x,vV (g 2),vV (g 3),vV (g 4),iV ((j:Nat):Int),vV (g 6),iV ((n:Nat):Int),iV (((j:Nat):Int)+(1:Int)),tV,iV ((j:Nat):Int),iV x,sV 0 ao n c,iV ((j:Nat):Int),rV 0 ao 1 j 0,iV (f j),fV,vV (g 17),iV (((j:Nat):Int)+(1:Int))] [Hr false ao 0 1 n 0 [fun a=>Ci (f a)]]))∧((decide (((j:Nat):Int)<((n:Nat):Int)))=false→kx (Exit.exit 0) [sV 0 ao n c,iV x,vV (g 2),vV (g 3),vV (g 4),vV (g 5),vV (g 6),iV ((n:Nat):Int),iV ((j:Nat):Int),fV,vV (g 10),vV (g 11),vV (g 12),vV (g 13),vV (g 14),vV (g 15),vV (g 16),vV (g 17),vV (g 18)] [Hr false ao 0 1 n 0 [fun a=>Ci (f a)]])):=by kernel_rfl
theorem itIx_ok (ao:Option Addr)(n c:Nat)(f:Nat→Int)(x:Int)(hn:n≤9223372036854775807)(X:Cx):LoopOK Tryz.prog X (theLoop Tryz.f181 0) (sitIx ao n c f x):=by
 intro ts ch k a w hS hT hd hs
 obtain ⟨⟨h1,hch⟩,hk,hr⟩:=hS
 refine loop_ok mixed (E:={}) trivial (loopsOK_nil _ _ _) 400 n (fun j ts ch=>∃ g,allB j (itIxP ao n c f x)=true∧ts=itIxH ao n c f x (.int (j:Int)) g∧ch=itIxT ao n c f x) ?_ ?_ hT hd hs
 ·rintro j _ _ ⟨g,hall,rfl,rfl⟩ hj
  refine @Eq.mpr _ _ (itIxB ao n c f x j g _ _) ?_
  by_cases hlt:j<n
  ·have hjn:(0:Int)≤(j:Int)∧(j:Int)<(n:Int):=⟨by omega,by omega⟩
   clear h1
   have hcm:(x == f j)=(f j == x):=by rw [Bool.eq_iff_iff];simp;omega
   cases hP:itIxP ao n c f x j
   all_goals cases hp0:ieq (f j) x
   all_goals have hn0:=ieq_ne hp0
   all_goals (first | (exfalso;simp [itIxP,hp0,hn0,hcm] at hP;done) | skip)
   all_goals
    repeat' (first
     | with_reducible exact rfl
     | exact True.intro
     | with_reducible assumption
     | (refine ⟨hlt,?_⟩;show Next _ _ _ _;refine Next.mk (fun g=>itIxH ao n c f x (.int ((j+1:Nat):Int)) g) _ ⟨_,allB_succ hall hP,rfl,rfl⟩ rfl fun w hw=>hw.sel [0] (by simp))
     | (refine Next.mk (fun g=>itIxR ao n c f x j g) _ (hr _ j hlt hall hP) rfl fun w hw=>hw.sel [0] (by simp))
     | refine And.intro ?_ ?_
     | (refine fun (h:@Eq Bool _ _)=>?_;exfalso;first | (simp [hp0,hn0,hcm] at h;done) | (simp [hp0,hn0,hcm] at h;omega))
     | intro _
     | omega)
  ·have hjn:n=j:=by omega
   subst hjn
   repeat' (first
    | with_reducible exact rfl
    | exact True.intro
    | (refine Next.mk (fun g=>itIxH ao n c f x (.int (n:Int)) g) _ (hk _ hall) rfl fun w hw=>hw.sel [0] (by simp))
    | refine And.intro ?_ ?_
    | (refine fun (h:@Eq Bool _ _)=>?_;exfalso;first | (simp at h;done) | (simp at h;omega))
    | intro _)
 ·refine Next.mk (fun g=>itIxH ao n c f x (.int ((0:Nat):Int)) g) _ ⟨_,allB_zero _,rfl,rfl⟩ h1 fun w hw=>?_
  rw [← hch]
  exact hw.sel [0] (by simp)
theorem itIxF_T (ao:Option Addr)(n c:Nat)(f:Nat→Int)(x:Int):(exFn Tryz.prog {tb:=[],L:=[(2,sitIx ao n c f x)]} 400 Tryz.f181 ([.a (.c (.sl 0 ao n c)),.a (.c (.int x))]) ([.row ⟨false,ao,0,1,n,0,[fun i=>.int (f i)]⟩]) (fun v _=>v.den=.int .i64 (itI n f x)))=(
 ([Ws ao n c,Wi x,Wu [],Wu [],Wi 0,Wu [],Ws ao n c,Wi ((n:Nat):Int),Wi 0,Wu [],Wu [],Wu [],Wu [],Wu [],Wu [],Wu [],Wu [],Wu [],Wu []]=[Ws ao n c,Wi x,Wu [],Wu [],Wi 0,Wu [],Ws ao n c,Wi ((n:Nat):Int),Wi 0,Wu [],Wu [],Wu [],Wu [],Wu [],Wu [],Wu [],Wu [],Wu [],Wu []]∧[Hr false ao 0 1 n 0 [fun b=>Ci (f b)]]=[Hr false ao 0 1 n 0 [fun b=>Ci (f b)]])∧(∀ b:Nat→Value,(allB n (itIxP ao n c f x))=true→(Wi (-1))=(Wi (itI n f x)))∧∀(b:Nat→Value) (d:Nat),d<n→(allB d (itIxP ao n c f x))=true→(itIxP ao n c f x d)=false→(Wi ((d:Nat):Int))=(Wi (itI n f x))):=by kernel_rfl
theorem itIxF_any (ao:Option Addr)(n c:Nat)(f:Nat→Int)(x:Int)(w:World)(hn:n≤9223372036854775807)(h0:Row.sat w ⟨false,ao,0,1,n,0,[fun i=>.int (f i)]⟩):Calls Tryz.prog 181 #[.slice ao n c,.int .i64 x] w fun e w'=>e=.returned (.int .i64 (itI n f x))∧Below w.heap.size w w':=by
 refine fn_ok mixed (E:={tb:=[],L:=[(2,sitIx ao n c f x)]}) trivial Tryz.func181 (one_loop (by kernel_rfl) (by kernel_rfl) (itIx_ok ao n c f x hn _)) (@Eq.mpr _ _ (itIxF_T ao n c f x) ?_) (HS.rows (fun _=>False) [⟨false,ao,0,1,n,0,[fun i=>.int (f i)]⟩] (by simpa using h0)) (fun v ch' w' hv hs=>⟨by rw [hv],hs.below⟩)
 clear h0
 repeat' (first
  | with_reducible exact rfl
  | exact True.intro
  | refine And.intro ?_ ?_
  | apply Exists.intro
  | (intro g h;have h2:allB n (fun j=>!(ieq (f j) x))=true:=h;simp only [itI,erI,adI,fidx_no (p:=fun j=>ieq (f j) x) h2];done)
  | (intro g j hj h hP;have h2:allB j (fun j=>!(ieq (f j) x))=true:=h;have hP2:(!(ieq (f j) x))=false:=hP;simp only [itI,erI,adI,fidx_hit (p:=fun j=>ieq (f j) x) hj h2 hP2];done)
  | intro _
  | exact rfl)
def sHas:Sm:=fun args ch kk =>
 match args with
 | [.a (.c cc),.a (.c cx)] =>
  match ints [cx] with
  | some [x]=>rdn ch cc fun n f=>lenC n∧kk (.a (.c (.bool (isIn n f x)))) ch []
  | _=>False
 | _=>False
theorem sHas_ok:SmOK Tryz.prog 106 sHas:=by
 refine smB Tryz.call106 fun args ch kk w X h0 hs=>?_
 unfold sHas at h0
 split at h0
 ·split at h0
  ·rename_i x hi
   obtain ⟨ex,hi⟩:=ints_cons hi
   obtain ⟨ao,n,c,f,em,hr,hn,h0⟩:=rdn_ok h0 hs
   refine ⟨_,h0,?_⟩
   simp only [List.map_cons,List.map_nil,den_a,den_c,SA.den,em,ex]
   exact hasF_any ao n c f x w hn hr
  ·exact h0.elim
 ·exact h0.elim
def sItIx:Sm:=fun args ch kk =>
 match args with
 | [.a (.c cc),.a (.c cx)] =>
  match ints [cx] with
  | some [x]=>rdn ch cc fun n f=>lenC n∧kk (.a (.c (.int (itI n f x)))) ch []
  | _=>False
 | _=>False
theorem sItIx_ok:SmOK Tryz.prog 181 sItIx:=by
 refine smB Tryz.call181 fun args ch kk w X h0 hs=>?_
 unfold sItIx at h0
 split at h0
 ·split at h0
  ·rename_i x hi
   obtain ⟨ex,hi⟩:=ints_cons hi
   obtain ⟨ao,n,c,f,em,hr,hn,h0⟩:=rdn_ok h0 hs
   refine ⟨_,h0,?_⟩
   simp only [List.map_cons,List.map_nil,den_a,den_c,SA.den,em,ex]
   exact itIxF_any ao n c f x w hn hr
  ·exact h0.elim
 ·exact h0.elim
def sRqAt:Sm:=fun args ch kk =>
 match args with
 | [.a (.c cc),.a (.c cx)] =>
  match ints [cx] with
  | some [x]=>rdf [true,true,true,false,true,true] ch cc fun n c u v=>lenC n∧kk (.a (.c (.int (itI n (u 0) x)))) ch []
  | _=>False
 | _=>False
theorem sRqAt_ok:SmOK Tryz.prog 112 sRqAt:=by
 refine smB Tryz.call112 fun args ch kk w X h0 hs=>?_
 unfold sRqAt at h0
 split at h0
 ·split at h0
  ·rename_i x hi
   obtain ⟨ex,hi⟩:=ints_cons hi
   obtain ⟨ao,n,c,u,v,em,hr,hn,h0⟩:=rdf_ok h0 hs
   refine ⟨_,h0,?_⟩
   simp only [List.map_cons,List.map_nil,den_a,den_c,SA.den,em,ex]
   exact rqAtF_any ao n c u v x w hn hr
  ·exact h0.elim
 ·exact h0.elim
def sErAt:Sm:=fun args ch kk =>
 match args with
 | [.a (.c cc),.a (.c cx),.a (.c cy)] =>
  match ints [cx,cy] with
  | some [x,y]=>rdf [true,true,true] ch cc fun n c u v=>lenC n∧kk (.a (.c (.int (erI n u x y)))) ch []
  | _=>False
 | _=>False
theorem sErAt_ok:SmOK Tryz.prog 114 sErAt:=by
 refine smB Tryz.call114 fun args ch kk w X h0 hs=>?_
 unfold sErAt at h0
 split at h0
 ·split at h0
  ·rename_i x y hi
   obtain ⟨ex,hi⟩:=ints_cons hi
   obtain ⟨ey,hi⟩:=ints_cons hi
   obtain ⟨ao,n,c,u,v,em,hr,hn,h0⟩:=rdf_ok h0 hs
   refine ⟨_,h0,?_⟩
   simp only [List.map_cons,List.map_nil,den_a,den_c,SA.den,em,ex,ey]
   exact erAtF_any ao n c u v x y w hn hr
  ·exact h0.elim
 ·exact h0.elim
def sAdFi:Sm:=fun args ch kk =>
 match args with
 | [.a (.c cc),.a (.agg [cx,cy,cz])] =>
  match ints [cx,cy,cz] with
  | some [x,y,z]=>rdf [true,true,true] ch cc fun n c u v=>lenC n∧kk (.a (.c (.int (adI n u x y z)))) ch []
  | _=>False
 | _=>False
theorem sAdFi_S:SmOK Tryz.prog 109 sAdFi:=by
 refine smB Tryz.call109 fun args ch kk w X h0 hs=>?_
 unfold sAdFi at h0
 split at h0
 ·split at h0
  ·rename_i x y z hi
   obtain ⟨ex,hi⟩:=ints_cons hi
   obtain ⟨ey,hi⟩:=ints_cons hi
   obtain ⟨ez,hi⟩:=ints_cons hi
   obtain ⟨ao,n,c,u,v,em,hr,hn,h0⟩:=rdf_ok h0 hs
   refine ⟨_,h0,?_⟩
   simp only [List.map_cons,List.map_nil,den_a,den_c,SA.den,em,ex,ey,ez]
   exact adFiF_any ao n c u v x y z w hn hr
  ·exact h0.elim
 ·exact h0.elim
theorem sAdFi_I:SmOK Tryz.prog 143 sAdFi:=by
 refine smB Tryz.call143 fun args ch kk w X h0 hs=>?_
 unfold sAdFi at h0
 split at h0
 ·split at h0
  ·rename_i x y z hi
   obtain ⟨ex,hi⟩:=ints_cons hi
   obtain ⟨ey,hi⟩:=ints_cons hi
   obtain ⟨ez,hi⟩:=ints_cons hi
   obtain ⟨ao,n,c,u,v,em,hr,hn,h0⟩:=rdf_ok h0 hs
   refine ⟨_,h0,?_⟩
   simp only [List.map_cons,List.map_nil,den_a,den_c,SA.den,em,ex,ey,ez]
   exact adIxF_any ao n c u v x y z w hn hr
  ·exact h0.elim
 ·exact h0.elim
abbrev cap1C (n:Nat):Prop:=n≤1048576
abbrev opN (m j:Nat)(v:Nat→Nat→Bool):Prop:=(m=0 ↔ allB j (fun i=>!v 0 i)=true)∧m≤j
def opH (ao:Option Addr)(n c:Nat)(u:Nat→Nat→Int)(v:Nat→Nat→Bool)(pw:Int)(bo:Nat)(ro:Option Addr)(m cap:Nat)(i:SC)(g:Nat→Value):List SV:=hdN [(1,.a (.c (.ptr 1 bo 0))),(3,.a (.c (.sl 2 ro m cap))),(8,.a (.c (.sl 0 ao n c))),(9,.a (.c (.int (n:Int)))),(10,.a (.c i))] g 0 23
def opT (ao:Option Addr)(n c:Nat)(u:Nat→Nat→Int)(v:Nat→Nat→Bool)(pw:Int)(bo:Nat)(ro:Option Addr)(m cap:Nat)(f:Nat→Int):List Ch:=[.row ⟨false,ao,0,2,n,0,flK u v 0 [false,true]⟩,.cells bo 81 [.sl 0 ao n c,.int pw],.row ⟨true,ro,3,1,m,cap,[fun i=>.int (f i)]⟩]
def sop (ao:Option Addr)(n c:Nat)(u:Nat→Nat→Int)(v:Nat→Nat→Bool)(pw:Int):LSm:=fun ts ch kk =>
 ∃ bo b,(ts.map SV.den=(opH ao n c u v pw bo (some ⟨b,0,none⟩) 0 0 (.il 0) (fun d=>(ts.getD d .undef).den)).map SV.den∧selC ch [0,1,2]=[.row ⟨false,ao,0,2,n,0,flK u v 0 [false,true]⟩,.cells bo 81 [.sl 0 ao n c,.int pw],.cells b 3 []]) ∧
  ∀ g ro m cap f,opN m n v→kk (.exit 0) (opH ao n c u v pw bo ro m cap (.int (n:Int)) g) (opT ao n c u v pw bo ro m cap f)
theorem opB (ao:Option Addr)(n c:Nat)(u:Nat→Nat→Int)(v:Nat→Nat→Bool)(pw:Int)(bo:Nat)(ro:Option Addr)(m cap:Nat)(f:Nat→Int)(j:Nat)(g:Nat→Value)(NX:List SV→List Ch→Prop)(kx:Exit→List SV→List Ch→Prop):(exCode Tryz.prog {} 400 (theLoop Tryz.f134 0) (opH ao n c u v pw bo ro m cap (.int (j:Int)) g) (opT ao n c u v pw bo ro m cap f) (loopK NX kx))=(
 (fun a:SV=>(fun b:SV=>(fun d:SV=>(fun h:List SC=>(fun k:SV=>(fun l:Ch=>(fun o:SV=>(fun p:Ch=>(fun q:Bool=>(fun r:Ch=>(q=true→ao=ao∧n=n∧(0≤((j:Nat):Int)∧((j:Nat):Int)<((n:Nat):Int))∧ao=ao∧j<n∧∀ s:Nat,(fun t:SV=>s=s∧s=s∧((v 0 j)=true→∀ w:Nat,(ro=ro∧m=m∧cap=cap∧w=w∧(∀ x:Nat,true=true)∧apC m 1 8)∧∀(x:Option Addr) (y:Nat),rng (((j:Nat):Int)+(1:Int))∧NX [vV (g 0),pV 1 bo 0,vV (g 2),sV 5 x (m+1) y,d,t,vV (g 6),vV (g 7),sV 0 ao n c,b,o,tV,d,rV 0 ao 2 j 0,k,t,tV,a,d,cV 4 w 1 1,sV 5 x (m+1) y,o,vV (g 22)] [r,l,Hd,Hc s 186 h,Hc w 3 [Ci ((j:Nat):Int)],Hr true x 3 1 (m+1) y [fun z=>Ci (if z<m then (f z) else ((j:Nat):Int))]])∧((v 0 j)=false→rng (((j:Nat):Int)+(1:Int))∧NX [vV (g 0),pV 1 bo 0,vV (g 2),a,d,t,vV (g 6),vV (g 7),sV 0 ao n c,b,o,tV,d,rV 0 ao 2 j 0,k,t,fV,vV (g 17),vV (g 18),vV (g 19),vV (g 20),o,vV (g 22)] [r,l,p,Hc s 186 h])) (pV 3 s 0))∧(q=false→kx (Exit.exit 0) [vV (g 0),pV 1 bo 0,vV (g 2),a,vV (g 4),vV (g 5),vV (g 6),vV (g 7),sV 0 ao n c,b,d,fV,vV (g 12),vV (g 13),vV (g 14),vV (g 15),vV (g 16),vV (g 17),vV (g 18),vV (g 19),vV (g 20),vV (g 21),vV (g 22)] [r,l,p])) (Hr false ao 0 2 n 0 [fun r=>Cb (v 0 r),fun r=>Ci (u 1 r)])) (decide (((j:Nat):Int)<((n:Nat):Int)))) (Hr true ro 3 1 m cap [fun p=>Ci (f p)])) (iV (((j:Nat):Int)+(1:Int)))) (Hc bo 81 [Cs 0 ao n c,Ci pw])) (aV h)) [Cb (v 0 j),Ci (u 1 j)]) (iV ((j:Nat):Int))) (iV ((n:Nat):Int))) (sV 2 ro m cap)):=by kernel_rfl
theorem op_ok (ao:Option Addr)(n c:Nat)(u:Nat→Nat→Int)(v:Nat→Nat→Bool)(pw:Int)(hn:n≤1048576)(X:Cx):LoopOK Tryz.prog X (theLoop Tryz.f134 0) (sop ao n c u v pw):=by
 intro ts ch kk a w hS hT hd hs
 obtain ⟨bo,b,⟨h1,hch⟩,hk⟩:=hS
 refine loop_ok mixed (E:={}) trivial (loopsOK_nil _ _ _) 400 n (fun j ts ch=>∃ g ro m cap f,opN m j v∧ts=opH ao n c u v pw bo ro m cap (.int (j:Int)) g∧ch=opT ao n c u v pw bo ro m cap f) ?_ ?_ hT hd hs
 ·rintro j _ _ ⟨g,ro,m,cap,f,hm,rfl,rfl⟩ hj
  refine @Eq.mpr _ _ (opB ao n c u v pw bo ro m cap f j g _ _) ?_
  dsimp -zeta -proj -iota -eta -failIfUnchanged (etaStruct:=.none) only
  have hm2:=hm.2
  by_cases hlt:j<n
  ·have hjn:(0:Int)≤(j:Int)∧(j:Int)<(n:Int):=⟨by omega,by omega⟩
   clear h1
   cases hp:v 0 j
   ·have hm':opN m (j+1) v:=by
     refine ⟨hm.1.trans ⟨fun h=>allB_succ h (by simp [hp]),fun h=>?_⟩,by omega⟩
     cases hq:allB j (fun i=>!v 0 i) with
     | true=>rfl
     | false =>
      obtain ⟨k,hk1,hk2⟩:=allB_at hq
      rw [allB_no (j:=k) (by omega) hk2] at h
      cases h
    repeat' (first
     | with_reducible exact rfl
     | exact True.intro
     | with_reducible assumption
     | (refine ⟨hlt,?_⟩;show Next _ _ _ _;refine Next.mk (fun g=>opH ao n c u v pw bo ro m cap (.int ((j+1:Nat):Int)) g) _ ⟨_,_,_,_,_,hm',rfl,rfl⟩ rfl fun w hw=>hw.sel [0,1,2] (by simp))
     | refine And.intro ?_ ?_
     | apply Exists.intro
     | (refine fun (h:@Eq Bool _ _)=>?_;exfalso;first | (simp [hp] at h;done) | (simp [hp] at h;omega))
     | intro _
     | omega
     | exact rfl)
   ·have hm':opN (m+1) (j+1) v:=by
     refine ⟨⟨fun h=>by omega,fun h=>?_⟩,by omega⟩
     rw [allB_no (j:=j) (by omega) (by simp [hp])] at h
     cases h
    repeat' (first
     | with_reducible exact rfl
     | exact True.intro
     | with_reducible assumption
     | (refine ⟨hlt,?_⟩;show Next _ _ _ _;refine Next.mk (fun g=>opH ao n c u v pw bo _ (m+1) _ (.int ((j+1:Nat):Int)) g) _ ⟨_,_,_,_,_,hm',rfl,rfl⟩ rfl fun w hw=>hw.sel [0,1,5] (by simp))
     | refine And.intro ?_ ?_
     | apply Exists.intro
     | (refine fun (h:@Eq Bool _ _)=>?_;exfalso;first | (simp [hp] at h;done) | (simp [hp] at h;omega))
     | intro _
     | omega
     | exact rfl)
  ·have hjn:j=n:=by omega
   subst hjn
   repeat' (first
    | with_reducible exact rfl
    | exact True.intro
    | with_reducible assumption
    | (refine Next.mk (fun g=>opH ao j c u v pw bo ro m cap (.int (j:Int)) g) _ (hk _ _ _ _ _ hm) rfl fun w hw=>hw.sel [0,1,2] (by simp))
    | refine And.intro ?_ ?_
    | apply Exists.intro
    | (refine fun (h:@Eq Bool _ _)=>?_;exfalso;first | (simp [] at h;done) | (simp [] at h;omega))
    | intro _
    | omega
    | exact rfl)
 ·refine Next.mk (fun g=>opH ao n c u v pw bo (some ⟨b,0,none⟩) 0 0 (.int ((0:Nat):Int)) g) _ ⟨_,_,_,_,fun _=>0,⟨⟨fun _=>allB_zero _,fun _=>rfl⟩,Nat.le_refl 0⟩,rfl,rfl⟩ h1 fun w hw=>?_
  have h2:=hw.sel [0,1,2] (by simp)
  rw [hch] at h2
  exact h2.rowStart 2 rfl rfl
theorem opF_T (ao:Option Addr)(n c:Nat)(u:Nat→Nat→Int)(v:Nat→Nat→Bool)(pw:Int):(exFn Tryz.prog {L:=[(3,sop ao n c u v pw)]} 400 Tryz.f134 ([.a (.agg [.sl 0 ao n c,.int pw])]) ([.row ⟨false,ao,0,2,n,0,flK u v 0 [false,true]⟩]) (fun v' ch=>∃ (ro:Option Addr) (m cap:Nat) (f:Nat→Int),(opN m n v∧v'.den=.slice ro m cap)∧SelS ch [2] [.row ⟨true,ro,3,1,m,cap,[fun i=>.int (f i)]⟩]))=(
 ∀ b d:Nat,b=b∧∃ g h:Nat,([Wa [Ws ao n c,Wi pw],Wp b 0,Wn,Ws (Ad d 0) 0 0,Wu [],Wu [],Ws (Ad d 0) 0 0,Wp b 0,Ws ao n c,Wi ((n:Nat):Int),Wi 0,Wu [],Wu [],Wu [],Wu [],Wu [],Wu [],Wu [],Wu [],Wu [],Wu [],Wu [],Wu []]=[Wa [Ws ao n c,Wi pw],Wp g 0,Wn,Ws (Ad h 0) 0 0,Wu [],Wu [],Ws (Ad d 0) 0 0,Wp b 0,Ws ao n c,Wi ((n:Nat):Int),Wi 0,Wu [],Wu [],Wu [],Wu [],Wu [],Wu [],Wu [],Wu [],Wu [],Wu [],Wu [],Wu []]∧[Hr false ao 0 2 n 0 [fun j=>Cb (v 0 j),fun j=>Ci (u 1 j)],Hc b 81 [Cs 0 ao n c,Ci pw],Hc d 3 []]=[Hr false ao 0 2 n 0 [fun j=>Cb (v 0 j),fun j=>Ci (u 1 j)],Hc g 81 [Cs 0 ao n c,Ci pw],Hc h 3 []])∧∀(j:Nat→Value) (k:Option Addr) (l o:Nat) (p:Nat→Int),opN l n v→∃(q:Option Addr) (r s:Nat) (t:Nat→Int),(opN r n v∧(Ws k l o)=(Ws q r s))∧SelS [Hr false ao 0 2 n 0 [fun w=>Cb (v 0 w),fun w=>Ci (u 1 w)],Hc g 81 [Cs 0 ao n c,Ci pw],Hr true k 3 1 l o [fun w=>Ci (p w)]] [2] [Hr true q 3 1 r s [fun w=>Ci (t w)]]):=by kernel_rfl
theorem opF_any (ao:Option Addr)(n c:Nat)(u:Nat→Nat→Int)(v:Nat→Nat→Bool)(pw:Int)(w:World)(hn:n≤1048576)(h:Row.sat w ⟨false,ao,0,2,n,0,flK u v 0 [false,true]⟩):Calls Tryz.prog 134 #[.agg #[.slice ao n c,.int .i64 pw]] w fun e w'=>∃ (ro:Option Addr) (m cap:Nat) (f:Nat→Int),opN m n v∧e=.returned (.slice ro m cap)∧HS ⟨w,fun _=>False⟩ [.row ⟨true,ro,3,1,m,cap,[fun i=>.int (f i)]⟩] w':=by
 refine fn_ok mixed (E:={L:=[(3,sop ao n c u v pw)]}) trivial Tryz.func134 (one_loop (by kernel_rfl) (by kernel_rfl) (op_ok ao n c u v pw hn _)) (@Eq.mpr _ _ (opF_T ao n c u v pw) ?_) (HS.rows (fun _=>False) [⟨false,ao,0,2,n,0,flK u v 0 [false,true]⟩] (by simpa using h)) (fun v' ch' w' ⟨ro,m,cap,f,⟨hm,hv⟩,hc⟩ hs=>⟨ro,m,cap,f,hm,by rw [hv],hc.hs hs⟩)
 clear h
 repeat' (first
  | with_reducible exact rfl
  | exact True.intro
  | with_reducible assumption
  | ((with_reducible show SelS _ _ _);exact ⟨⟨rfl,trivial⟩,rfl⟩)
  | refine And.intro ?_ ?_
  | (refine ⟨_,_,_,_,⟨by assumption,rfl⟩,?_⟩)
  | apply Exists.intro
  | intro _
  | exact rfl)
def sOpB:Sm:=fun args ch k =>
 match args with
 | [.a (.agg [x,y])] =>
  match ints [y] with
  | some [pw]=>rdf [false,true] ch x fun n c u v=>cap1C n∧∀ (ro:Option Addr) (m cap:Nat) (f:Nat→Int),opN m n v→k (.a (.c (.sl ch.length ro m cap))) (ch ++ [.row ⟨true,ro,3,1,m,cap,[fun i=>.int (f i)]⟩]) []
  | _=>False
 | _=>False
theorem sOpB_ok:SmOK Tryz.prog 134 sOpB:=by
 refine smN Tryz.call134 fun args ch k w X h0 hs=>?_
 unfold sOpB at h0
 split at h0
 ·split at h0
  ·rename_i pw hi
   obtain ⟨e1,hi⟩:=ints_cons hi
   obtain ⟨ao,n,c,u,v,em,hr,hn,h0⟩:=rdf_ok h0 hs
   simp only [List.map_cons,List.map_nil,den_a,SA.den,em,e1]
   exact Calls.mono (opF_any ao n c u v pw w hn hr) fun e w' ⟨ro,m,cap,f,hm,he,hs'⟩=>⟨.a (.c (.sl ch.length ro m cap)),_,he,hs',rfl,h0 ro m cap f hm⟩
  ·exact h0.elim
 ·exact h0.elim
end Go.Proofs.YtmnccapnjphmfaaGreat

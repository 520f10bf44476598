/-
  FnExactControllerNew: a part of the walk (merged and squeezed by program: SxShare SxShare2 SxShare3).
-/
import Derived.Test.YtbhfabaofhhkeaaGreatZac
namespace Go.Proofs.YtbhfabaofhhkeaaGreat
set_option linter.unusedVariables false
set_option linter.unusedSimpArgs false
open Go.RowKit
set_option maxRecDepth 100000
set_option maxHeartbeats 8000000
def shOkIH (ao:Option Addr)(n c:Nat)(g0 g1:Nat→Int)(i:SC)(g:Nat→Value):List SV:=[.a (.c (.sl 0 ao n c)),.a (.c (.val (g 1))),.a (.c (.val (g 2))),.a (.c (.val (g 3))),.a (.c (.val (g 4))),.a (.c (.sl 0 ao n c)),.a (.c (.int (n:Int))),.a (.c i),.a (.c (.val (g 8))),.a (.c (.val (g 9))),.a (.c (.val (g 10))),.a (.c (.val (g 11))),.a (.c (.val (g 12))),.a (.c (.val (g 13))),.a (.c (.val (g 14))),.a (.c (.val (g 15))),.a (.c (.val (g 16))),.a (.c (.val (g 17))),.a (.c (.val (g 18))),.a (.c (.val (g 19))),.a (.c (.val (g 20))),.a (.c (.val (g 21))),.a (.c (.val (g 22))),.a (.c (.val (g 23))),.a (.c (.val (g 24))),.a (.c (.val (g 25))),.a (.c (.val (g 26)))]
def shOkIR (ao:Option Addr)(n c:Nat)(g0 g1:Nat→Int)(g:Nat→Value):List SV:=[.a (.c (.val (g 0))),.a (.c (.val (g 1))),.a (.c (.lit false)),.a (.c (.val (g 3))),.a (.c (.val (g 4))),.a (.c (.val (g 5))),.a (.c (.val (g 6))),.a (.c (.val (g 7))),.a (.c (.val (g 8))),.a (.c (.val (g 9))),.a (.c (.val (g 10))),.a (.c (.val (g 11))),.a (.c (.val (g 12))),.a (.c (.val (g 13))),.a (.c (.val (g 14))),.a (.c (.val (g 15))),.a (.c (.val (g 16))),.a (.c (.val (g 17))),.a (.c (.val (g 18))),.a (.c (.val (g 19))),.a (.c (.val (g 20))),.a (.c (.val (g 21))),.a (.c (.val (g 22))),.a (.c (.val (g 23))),.a (.c (.val (g 24))),.a (.c (.val (g 25))),.a (.c (.val (g 26)))]
def shOkIT (ao:Option Addr)(n c:Nat)(g0 g1:Nat→Int):List Ch:=[.row ⟨false,ao,0,2,n,0,[fun i=>.int (g0 i),fun i=>.int (g1 i)]⟩]
def shOkIP (ao:Option Addr)(n c:Nat)(g0 g1:Nat→Int)(j:Nat):Bool:=btw (g0 j) 1 9&&btw (g1 j) 0 (g0 j)
def sshOkI (ao:Option Addr)(n c:Nat)(g0 g1:Nat→Int):LSm:=fun ts ch k =>
 (ts.map SV.den=(shOkIH ao n c g0 g1 (.il 0) (fun d=>(ts.getD d .undef).den)).map SV.den∧selC ch [0]=shOkIT ao n c g0 g1) ∧
  (∀ g,allB n (shOkIP ao n c g0 g1)=true→k (.exit 0) (shOkIH ao n c g0 g1 (.int (n:Int)) g) (shOkIT ao n c g0 g1))∧(∀ g,allB n (shOkIP ao n c g0 g1)=false→k .ret (shOkIR ao n c g0 g1 g) (shOkIT ao n c g0 g1))
theorem shOkIB (ao:Option Addr)(n c:Nat)(g0 g1:Nat→Int)(j:Nat)(g:Nat→Value)(NX:List SV→List Ch→Prop)(kx:Exit→List SV→List Ch→Prop):(exCode Tryz.prog {tb:=[(106,sBtw)]} 400 (theLoop Tryz.f107 0) (shOkIH ao n c g0 g1 (.int (j:Int)) g) (shOkIT ao n c g0 g1) (loopK NX kx))=(
 (fun a:SV=>(fun b:SV=>(fun d:SV=>(fun h:SV=>(fun k:SV=>(fun l:SV=>(fun m:SV=>(fun o:SV=>(fun p:List SC=>(fun q:Bool=>(fun r:SV=>(fun s:Bool=>(fun t:Bool=>(fun u:SV=>(fun v:SV=>(fun w:Bool=>(fun x:SV=>(fun y:SV=>(fun z:SV=>(fun B:Bool=>(fun C:Ch=>(B=true→ao=ao∧n=n∧(0≤((j:Nat):Int)∧((j:Nat):Int)<((n:Nat):Int))∧ao=ao∧j<n∧∀ D:Nat,(fun E:SV=>D=D∧D=D∧(w=false→D=D∧D=D∧(t=true→kx Exit.ret [k,vV (g 1),fV,vV (g 3),E,k,o,m,tV,l,r,E,h,x,z,fV,pV 1 D 1,iV (g1 j),E,h,u,y,tV,vV (g 23),d,b,a] [C,Hc D 153 p])∧(t=false→rng (((j:Nat):Int)+(1:Int))∧NX [k,vV (g 1),vV (g 2),vV (g 3),E,k,o,v,tV,l,r,E,h,x,z,fV,pV 1 D 1,iV (g1 j),E,h,u,y,fV,v,d,b,a] [C,Hc D 153 p]))∧(w=true→kx Exit.ret [k,vV (g 1),fV,vV (g 3),E,k,o,m,tV,l,r,E,h,x,z,tV,xV,xV,xV,xV,xV,xV,tV,vV (g 23),d,b,a] [C,Hc D 153 p])) (pV 1 D 0))∧(B=false→kx (Exit.exit 0) [k,vV (g 1),vV (g 2),vV (g 3),vV (g 4),k,o,m,fV,vV (g 9),vV (g 10),vV (g 11),vV (g 12),vV (g 13),vV (g 14),vV (g 15),vV (g 16),vV (g 17),vV (g 18),vV (g 19),vV (g 20),vV (g 21),vV (g 22),vV (g 23),d,b,a] [C])) (Hr false ao 0 2 n 0 [fun C=>Ci (g0 C),fun C=>Ci (g1 C)])) (decide (((j:Nat):Int)<((n:Nat):Int)))) (bV w)) (bV t)) (bV s)) (! s)) (iV (((j:Nat):Int)+(1:Int)))) (bV q)) (! q)) (btw (g0 j) (1:Int) (9:Int))) (aV p)) (btw (g1 j) (0:Int) (g0 j))) [Ci (g0 j),Ci (g1 j)]) (iV ((n:Nat):Int))) (iV ((j:Nat):Int))) (rV 0 ao 2 j 0)) (sV 0 ao n c)) (iV (g0 j))) (vV (g 24))) (vV (g 25))) (vV (g 26))):=by kernel_rfl
theorem shOkI_ok (ao:Option Addr)(n c:Nat)(g0 g1:Nat→Int)(hn:n≤9223372036854775807)(X:Cx):LoopOK Tryz.prog X (theLoop Tryz.f107 0) (sshOkI ao n c g0 g1):=by
 intro ts ch k a w hS hT hd hs
 obtain ⟨⟨h1,hch⟩,hk,hr⟩:=hS
 refine loop_ok mixed (E:={tb:=[(106,sBtw)]}) ⟨sBtwI_ok,trivial⟩ (loopsOK_nil _ _ _) 400 n (fun j ts ch=>∃ g,allB j (shOkIP ao n c g0 g1)=true∧ts=shOkIH ao n c g0 g1 (.int (j:Int)) g∧ch=shOkIT ao n c g0 g1) ?_ ?_ hT hd hs
 ·rintro j _ _ ⟨g,hall,rfl,rfl⟩ hj
  refine (@Eq.mpr _ _ (shOkIB ao n c g0 g1 j g _ _) ?_)
  dsimp -zeta -proj -iota -eta -failIfUnchanged (etaStruct:=.none) only
  by_cases hlt:j<n
  ·have hjn:(0:Int)≤(j:Int)∧(j:Int)<(n:Int):=⟨by omega,by omega⟩
   cases hp:shOkIP ao n c g0 g1 j
   all_goals simp only [shOkIP] at hp
   all_goals
    repeat' (first
     | with_reducible exact rfl
     | exact True.intro
     | with_reducible assumption
     | (refine ⟨hlt,?_⟩;show Next _ _ _ _;refine Next.mk (fun g=>shOkIH ao n c g0 g1 (.int ((j+1:Nat):Int)) g) _ ⟨_,allB_succ hall (by simp only [shOkIP];exact hp),rfl,rfl⟩ rfl fun w hw=>hw.sel [0] (by simp))
     | (refine Next.mk (fun g=>shOkIR ao n c g0 g1 g) _ (hr _ (allB_no hlt (by simp only [shOkIP];exact hp))) rfl fun w hw=>hw.sel [0] (by simp))
     | refine And.intro ?_ ?_
     | (intro h;exfalso;simp at h;omega)
     | (intro h;exfalso;simp [h] at hp;done)
     | intro _
     | omega)
    all_goals (exfalso;simp_all;done)
  ·have hjn:n=j:=by omega
   subst hjn
   repeat' (first
    | (refine Next.mk (fun g=>shOkIH ao n c g0 g1 (.int (n:Int)) g) _ (hk _ hall) rfl fun w hw=>hw.sel [0] (by simp))
    | refine And.intro ?_ ?_
    | (intro h;exfalso;simp at h;done)
    | (intro h;exfalso;simp at h;omega)
    | intro _)
 ·refine Next.mk (fun g=>shOkIH ao n c g0 g1 (.int ((0:Nat):Int)) g) _ ⟨_,allB_zero _,rfl,rfl⟩ h1 fun w hw=>?_
  rw [← hch]
  exact hw.sel [0] (by simp)
def shOkSH (ao:Option Addr)(n c:Nat)(g0 g1:Nat→Int)(i:SC)(g:Nat→Value):List SV:=[.a (.c (.sl 0 ao n c)),.a (.c (.val (g 1))),.a (.c (.val (g 2))),.a (.c i),.a (.c (.val (g 4))),.a (.c (.val (g 5))),.a (.c (.val (g 6))),.a (.c (.val (g 7))),.a (.c (.val (g 8))),.a (.c (.val (g 9))),.a (.c (.val (g 10))),.a (.c (.val (g 11))),.a (.c (.val (g 12))),.a (.c (.val (g 13))),.a (.c (.val (g 14))),.a (.c (.val (g 15))),.a (.c (.val (g 16))),.a (.c (.val (g 17))),.a (.c (.val (g 18))),.a (.c (.val (g 19))),.a (.c (.val (g 20))),.a (.c (.val (g 21))),.a (.c (.val (g 22))),.a (.c (.val (g 23))),.a (.c (.val (g 24))),.a (.c (.val (g 25))),.a (.c (.val (g 26))),.a (.c (.val (g 27))),.a (.c (.val (g 28))),.a (.c (.val (g 29))),.a (.c (.val (g 30))),.a (.c (.val (g 31))),.a (.c (.val (g 32))),.a (.c (.val (g 33)))]
def shOkSR (ao:Option Addr)(n c:Nat)(g0 g1:Nat→Int)(g:Nat→Value):List SV:=[.a (.c (.val (g 0))),.a (.c (.val (g 1))),.a (.c (.lit false)),.a (.c (.val (g 3))),.a (.c (.val (g 4))),.a (.c (.val (g 5))),.a (.c (.val (g 6))),.a (.c (.val (g 7))),.a (.c (.val (g 8))),.a (.c (.val (g 9))),.a (.c (.val (g 10))),.a (.c (.val (g 11))),.a (.c (.val (g 12))),.a (.c (.val (g 13))),.a (.c (.val (g 14))),.a (.c (.val (g 15))),.a (.c (.val (g 16))),.a (.c (.val (g 17))),.a (.c (.val (g 18))),.a (.c (.val (g 19))),.a (.c (.val (g 20))),.a (.c (.val (g 21))),.a (.c (.val (g 22))),.a (.c (.val (g 23))),.a (.c (.val (g 24))),.a (.c (.val (g 25))),.a (.c (.val (g 26))),.a (.c (.val (g 27))),.a (.c (.val (g 28))),.a (.c (.val (g 29))),.a (.c (.val (g 30))),.a (.c (.val (g 31))),.a (.c (.val (g 32))),.a (.c (.val (g 33)))]
def shOkST (ao:Option Addr)(n c:Nat)(g0 g1:Nat→Int):List Ch:=[.row ⟨false,ao,0,2,n,0,[fun i=>.int (g0 i),fun i=>.int (g1 i)]⟩]
def shOkSP (ao:Option Addr)(n c:Nat)(g0 g1:Nat→Int)(j:Nat):Bool:=btw (g0 j) 1 9&&btw (g1 j) 0 (g0 j)
def sshOkS (ao:Option Addr)(n c:Nat)(g0 g1:Nat→Int):LSm:=fun ts ch k =>
 (ts.map SV.den=(shOkSH ao n c g0 g1 (.il 0) (fun d=>(ts.getD d .undef).den)).map SV.den∧selC ch [0]=shOkST ao n c g0 g1) ∧
  (∀ g,allB n (shOkSP ao n c g0 g1)=true→k (.exit 0) (shOkSH ao n c g0 g1 (.int (n:Int)) g) (shOkST ao n c g0 g1))∧(∀ g,allB n (shOkSP ao n c g0 g1)=false→k .ret (shOkSR ao n c g0 g1 g) (shOkST ao n c g0 g1))
theorem shOkSB (ao:Option Addr)(n c:Nat)(g0 g1:Nat→Int)(j:Nat)(g:Nat→Value)(NX:List SV→List Ch→Prop)(kx:Exit→List SV→List Ch→Prop):(exCode Tryz.prog {tb:=[(97,sBtw)]} 400 (theLoop Tryz.f98 0) (shOkSH ao n c g0 g1 (.int (j:Int)) g) (shOkST ao n c g0 g1) (loopK NX kx))=(
 (fun a:SV=>(fun b:SV=>(fun d:SV=>(fun h:SV=>(fun k:SV=>(fun l:SV=>(fun m:SV=>(fun o:SV=>(fun p:Bool=>(fun q:Bool=>(fun r:Bool=>(fun s:SV=>(fun t:SV=>(fun u:Bool=>(fun v:SV=>(fun w:SV=>(fun x:SV=>(fun y:Bool=>(fun z:Prop=>(fun B:List Ch=>(y=true→ao=ao∧n=n∧z∧ao=ao∧j<n∧ao=ao∧j<n∧True∧(u=false→ao=ao∧n=n∧z∧ao=ao∧j<n∧ao=ao∧j<n∧ao=ao∧n=n∧z∧ao=ao∧j<n∧ao=ao∧j<n∧True∧(r=true→kx Exit.ret [k,vV (g 1),fV,o,o,k,m,tV,vV (g 8),vV (g 9),k,o,l,l,h,v,x,fV,k,o,l,rV 0 ao 2 j 1,iV (g1 j),k,o,l,l,h,s,w,tV,d,b,a] B)∧(r=false→rng (((j:Nat):Int)+(1:Int))∧NX [k,vV (g 1),vV (g 2),t,o,k,m,tV,o,t,k,o,l,l,h,v,x,fV,k,o,l,rV 0 ao 2 j 1,iV (g1 j),k,o,l,l,h,s,w,fV,d,b,a] B))∧(u=true→kx Exit.ret [k,vV (g 1),fV,o,o,k,m,tV,vV (g 8),vV (g 9),k,o,l,l,h,v,x,tV,xV,xV,xV,xV,xV,xV,xV,xV,xV,xV,xV,xV,tV,d,b,a] B))∧(y=false→kx (Exit.exit 0) [k,vV (g 1),vV (g 2),o,o,k,m,fV,vV (g 8),vV (g 9),vV (g 10),vV (g 11),vV (g 12),vV (g 13),vV (g 14),vV (g 15),vV (g 16),vV (g 17),vV (g 18),vV (g 19),vV (g 20),vV (g 21),vV (g 22),vV (g 23),vV (g 24),vV (g 25),vV (g 26),vV (g 27),vV (g 28),vV (g 29),vV (g 30),d,b,a] B)) [Hr false ao 0 2 n 0 [fun B=>Ci (g0 B),fun B=>Ci (g1 B)]]) (0≤((j:Nat):Int)∧((j:Nat):Int)<((n:Nat):Int))) (decide (((j:Nat):Int)<((n:Nat):Int)))) (bV u)) (bV r)) (bV q)) (! q)) (iV (((j:Nat):Int)+(1:Int)))) (bV p)) (! p)) (btw (g0 j) (1:Int) (9:Int))) (btw (g1 j) (0:Int) (g0 j))) (iV ((j:Nat):Int))) (iV ((n:Nat):Int))) (rV 0 ao 2 j 0)) (sV 0 ao n c)) (iV (g0 j))) (vV (g 31))) (vV (g 32))) (vV (g 33))):=by kernel_rfl
theorem shOkS_ok (ao:Option Addr)(n c:Nat)(g0 g1:Nat→Int)(hn:n≤9223372036854775807)(X:Cx):LoopOK Tryz.prog X (theLoop Tryz.f98 0) (sshOkS ao n c g0 g1):=by
 intro ts ch k a w hS hT hd hs
 obtain ⟨⟨h1,hch⟩,hk,hr⟩:=hS
 refine loop_ok mixed (E:={tb:=[(97,sBtw)]}) ⟨sBtwS_ok,trivial⟩ (loopsOK_nil _ _ _) 400 n (fun j ts ch=>∃ g,allB j (shOkSP ao n c g0 g1)=true∧ts=shOkSH ao n c g0 g1 (.int (j:Int)) g∧ch=shOkST ao n c g0 g1) ?_ ?_ hT hd hs
 ·rintro j _ _ ⟨g,hall,rfl,rfl⟩ hj
  refine (@Eq.mpr _ _ (shOkSB ao n c g0 g1 j g _ _) ?_)
  dsimp -zeta -proj -iota -eta -failIfUnchanged (etaStruct:=.none) only
  by_cases hlt:j<n
  ·have hjn:(0:Int)≤(j:Int)∧(j:Int)<(n:Int):=⟨by omega,by omega⟩
   cases hp:shOkSP ao n c g0 g1 j
   all_goals simp only [shOkSP] at hp
   all_goals
    repeat' (first
     | with_reducible exact rfl
     | exact True.intro
     | with_reducible assumption
     | (refine ⟨hlt,?_⟩;show Next _ _ _ _;refine Next.mk (fun g=>shOkSH ao n c g0 g1 (.int ((j+1:Nat):Int)) g) _ ⟨_,allB_succ hall (by simp only [shOkSP];exact hp),rfl,rfl⟩ rfl fun w hw=>hw.sel [0] (by simp))
     | (refine Next.mk (fun g=>shOkSR ao n c g0 g1 g) _ (hr _ (allB_no hlt (by simp only [shOkSP];exact hp))) rfl fun w hw=>hw.sel [0] (by simp))
     | refine And.intro ?_ ?_
     | (intro h;exfalso;simp at h;omega)
     | (intro h;exfalso;simp [h] at hp;done)
     | intro _
     | omega)
    all_goals (exfalso;simp_all;done)
  ·have hjn:n=j:=by omega
   subst hjn
   repeat' (first
    | (refine Next.mk (fun g=>shOkSH ao n c g0 g1 (.int (n:Int)) g) _ (hk _ hall) rfl fun w hw=>hw.sel [0] (by simp))
    | refine And.intro ?_ ?_
    | (intro h;exfalso;simp at h;done)
    | (intro h;exfalso;simp at h;omega)
    | intro _)
 ·refine Next.mk (fun g=>shOkSH ao n c g0 g1 (.int ((0:Nat):Int)) g) _ ⟨_,allB_zero _,rfl,rfl⟩ h1 fun w hw=>?_
  rw [← hch]
  exact hw.sel [0] (by simp)
def shB (n:Nat)(g0 g1:Nat→Int):Bool:=allB n (fun j=>btw (g0 j) 1 9&&btw (g1 j) 0 (g0 j))&&btw (n:Int) 1 4
theorem shOkI_T (ao:Option Addr)(n c:Nat)(g0 g1:Nat→Int):(exFn Tryz.prog {tb:=[(106,sBtw)],L:=[(2,sshOkI ao n c g0 g1)]} 400 Tryz.f107 ([.a (.c (.sl 0 ao n c))]) ([.row ⟨false,ao,0,2,n,0,[fun i=>.int (g0 i),fun i=>.int (g1 i)]⟩]) (fun v _=>v.den=.bool (shB n g0 g1)))=(
 ([Ws ao n c,Wu [],Wb false,Wu [],Wu [],Ws ao n c,Wi ((n:Nat):Int),Wi 0,Wu [],Wu [],Wu [],Wu [],Wu [],Wu [],Wu [],Wu [],Wu [],Wu [],Wu [],Wu [],Wu [],Wu [],Wu [],Wu [],Wu [],Wu [],Wu []]=[Ws ao n c,Wu [],Wb false,Wu [],Wu [],Ws ao n c,Wi ((n:Nat):Int),Wi 0,Wu [],Wu [],Wu [],Wu [],Wu [],Wu [],Wu [],Wu [],Wu [],Wu [],Wu [],Wu [],Wu [],Wu [],Wu [],Wu [],Wu [],Wu [],Wu []]∧[Hr false ao 0 2 n 0 [fun b=>Ci (g0 b),fun b=>Ci (g1 b)]]=[Hr false ao 0 2 n 0 [fun b=>Ci (g0 b),fun b=>Ci (g1 b)]])∧(∀ b:Nat→Value,(allB n (shOkIP ao n c g0 g1))=true→(Wb (btw ((n:Nat):Int) (1:Int) (4:Int)))=(Wb (shB n g0 g1)))∧∀ b:Nat→Value,(allB n (shOkIP ao n c g0 g1))=false→(Wb false)=(Wb (shB n g0 g1))):=by kernel_rfl
theorem shOkI_any (ao:Option Addr)(n c:Nat)(g0 g1:Nat→Int)(w:World)(hn:n≤9223372036854775807)(h:Row.sat w ⟨false,ao,0,2,n,0,[fun i=>.int (g0 i),fun i=>.int (g1 i)]⟩):Calls Tryz.prog 107 #[.slice ao n c] w fun e w'=>e=.returned (.bool (shB n g0 g1))∧Below w.heap.size w w':=by
 refine fn_ok mixed (E:={ tb:=[(106,sBtw)],L:=[(2,sshOkI ao n c g0 g1)] }) ⟨sBtwI_ok,trivial⟩ Tryz.func107 (one_loop (by kernel_rfl) (by kernel_rfl) (shOkI_ok ao n c g0 g1 hn _)) (@Eq.mpr _ _ (shOkI_T ao n c g0 g1) ?_) (HS.rows (fun _=>False) [⟨false,ao,0,2,n,0,[fun i=>.int (g0 i),fun i=>.int (g1 i)]⟩] (by simpa using h)) (fun v ch' w' hv hs=>⟨by rw [hv],hs.below⟩)
 refine ⟨⟨rfl,rfl⟩,?_,?_⟩
 ·intro g hg
  repeat' (first | exact rfl | refine And.intro ?_ ?_)
  have:allB n (fun j=>btw (g0 j) 1 9&&btw (g1 j) 0 (g0 j))=true:=hg
  simp [shB,this]
 ·intro g hg
  repeat' (first | exact rfl | refine And.intro ?_ ?_)
  have:allB n (fun j=>btw (g0 j) 1 9&&btw (g1 j) 0 (g0 j))=false:=hg
  simp [shB,this]
theorem shOkS_T (ao:Option Addr)(n c:Nat)(g0 g1:Nat→Int):(exFn Tryz.prog {tb:=[(97,sBtw)],L:=[(2,sshOkS ao n c g0 g1)]} 400 Tryz.f98 ([.a (.c (.sl 0 ao n c))]) ([.row ⟨false,ao,0,2,n,0,[fun i=>.int (g0 i),fun i=>.int (g1 i)]⟩]) (fun v _=>v.den=.bool (shB n g0 g1)))=(
 ([Ws ao n c,Wu [],Wb false,Wi 0,Wu [],Wu [],Wu [],Wu [],Wu [],Wu [],Wu [],Wu [],Wu [],Wu [],Wu [],Wu [],Wu [],Wu [],Wu [],Wu [],Wu [],Wu [],Wu [],Wu [],Wu [],Wu [],Wu [],Wu [],Wu [],Wu [],Wu [],Wu [],Wu [],Wu []]=[Ws ao n c,Wu [],Wb false,Wi 0,Wu [],Wu [],Wu [],Wu [],Wu [],Wu [],Wu [],Wu [],Wu [],Wu [],Wu [],Wu [],Wu [],Wu [],Wu [],Wu [],Wu [],Wu [],Wu [],Wu [],Wu [],Wu [],Wu [],Wu [],Wu [],Wu [],Wu [],Wu [],Wu [],Wu []]∧[Hr false ao 0 2 n 0 [fun b=>Ci (g0 b),fun b=>Ci (g1 b)]]=[Hr false ao 0 2 n 0 [fun b=>Ci (g0 b),fun b=>Ci (g1 b)]])∧(∀ b:Nat→Value,(allB n (shOkSP ao n c g0 g1))=true→(Wb (btw ((n:Nat):Int) (1:Int) (4:Int)))=(Wb (shB n g0 g1)))∧∀ b:Nat→Value,(allB n (shOkSP ao n c g0 g1))=false→(Wb false)=(Wb (shB n g0 g1))):=by kernel_rfl
theorem shOkS_any (ao:Option Addr)(n c:Nat)(g0 g1:Nat→Int)(w:World)(hn:n≤9223372036854775807)(h:Row.sat w ⟨false,ao,0,2,n,0,[fun i=>.int (g0 i),fun i=>.int (g1 i)]⟩):Calls Tryz.prog 98 #[.slice ao n c] w fun e w'=>e=.returned (.bool (shB n g0 g1))∧Below w.heap.size w w':=by
 refine fn_ok mixed (E:={ tb:=[(97,sBtw)],L:=[(2,sshOkS ao n c g0 g1)] }) ⟨sBtwS_ok,trivial⟩ Tryz.func98 (one_loop (by kernel_rfl) (by kernel_rfl) (shOkS_ok ao n c g0 g1 hn _)) (@Eq.mpr _ _ (shOkS_T ao n c g0 g1) ?_) (HS.rows (fun _=>False) [⟨false,ao,0,2,n,0,[fun i=>.int (g0 i),fun i=>.int (g1 i)]⟩] (by simpa using h)) (fun v ch' w' hv hs=>⟨by rw [hv],hs.below⟩)
 refine ⟨⟨rfl,rfl⟩,?_,?_⟩
 ·intro g hg
  repeat' (first | exact rfl | refine And.intro ?_ ?_)
  have:allB n (fun j=>btw (g0 j) 1 9&&btw (g1 j) 0 (g0 j))=true:=hg
  simp [shB,this]
 ·intro g hg
  repeat' (first | exact rfl | refine And.intro ?_ ?_)
  have:allB n (fun j=>btw (g0 j) 1 9&&btw (g1 j) 0 (g0 j))=false:=hg
  simp [shB,this]
def sShOk:Sm:=fun args ch k =>
 match args with
 | [.a (.c x)]=>rd2 ch x fun n g0 g1=>lenC n∧k (.a (.c (.bool (shB n g0 g1)))) ch []
 | _=>False
theorem sShOk_I:SmOK Tryz.prog 107 sShOk:=by
 refine smB Tryz.call107 fun args ch k w X h0 hs=>?_
 unfold sShOk at h0
 split at h0
 ·obtain ⟨ao,n,c,g0,g1,em,hr,hn,h0⟩:=rd2_ok h0 hs
  refine ⟨_,h0,?_⟩
  simp only [List.map_cons,List.map_nil,den_a,den_c,em]
  exact shOkI_any ao n c g0 g1 w hn hr
 ·exact h0.elim
theorem sShOk_S:SmOK Tryz.prog 98 sShOk:=by
 refine smB Tryz.call98 fun args ch k w X h0 hs=>?_
 unfold sShOk at h0
 split at h0
 ·obtain ⟨ao,n,c,g0,g1,em,hr,hn,h0⟩:=rd2_ok h0 hs
  refine ⟨_,h0,?_⟩
  simp only [List.map_cons,List.map_nil,den_a,den_c,em]
  exact shOkS_any ao n c g0 g1 w hn hr
 ·exact h0.elim
def min5 (n:Nat):Nat:=min n 5
theorem min5_ok (n:Nat):min5 n≤n∧min5 n≤5∧(n≤5→min5 n=n)∧(5≤n→min5 n=5):=by
 unfold min5
 omega
def shNewIH (wo:Option Addr)(n wc:Nat)(wg:Nat→Int)(ao:Option Addr)(j cap:Nat)(i:SC)(g:Nat→Value):List SV:=[.a (.c (.sl 0 wo n wc)),.a (.c (.val (g 1))),.a (.c (.val (g 2))),.a (.c (.val (g 3))),.a (.c (.sl 1 ao j cap)),.a (.c (.val (g 5))),.a (.c (.val (g 6))),.a (.c (.val (g 7))),.a (.c (.sl 0 wo n wc)),.a (.c (.int (n:Int))),.a (.c i),.a (.c (.val (g 11))),.a (.c (.val (g 12))),.a (.c (.val (g 13))),.a (.c (.val (g 14))),.a (.c (.val (g 15))),.a (.c (.val (g 16))),.a (.c (.val (g 17))),.a (.c (.val (g 18))),.a (.c (.val (g 19))),.a (.c (.val (g 20))),.a (.c (.val (g 21))),.a (.c (.val (g 22))),.a (.c (.val (g 23))),.a (.c (.val (g 24)))]
def shNewIT (wo:Option Addr)(n wc:Nat)(wg:Nat→Int)(ao:Option Addr)(j cap:Nat):List Ch:=[.row ⟨false,wo,0,1,n,0,[fun i=>.int (wg i)]⟩,.row ⟨true,ao,153,2,j,cap,[fun i=>.int (wg i),fun i=>.int (wg i)]⟩]
def sshNewI (wo:Option Addr)(n wc:Nat)(wg:Nat→Int):LSm:=fun ts ch k =>
 ∃ b,(ts.map SV.den=(shNewIH wo n wc wg (some ⟨b,0,none⟩) 0 0 (.il 0) (fun d=>(ts.getD d .undef).den)).map SV.den∧selC ch [0,1]=[.row ⟨false,wo,0,1,n,0,[fun i=>.int (wg i)]⟩,.cells b 153 []]) ∧
  ∀ g ao cap,k (.exit 0) (shNewIH wo n wc wg ao n cap (.int ((n:Nat):Int)) g) (shNewIT wo n wc wg ao n cap)
theorem shNewIB (wo:Option Addr)(n wc:Nat)(wg:Nat→Int)(ao:Option Addr)(j cap:Nat)(g:Nat→Value)(NX:List SV→List Ch→Prop)(kx:Exit→List SV→List Ch→Prop):(exCode Tryz.prog {} 400 (theLoop Tryz.f40 0) (shNewIH wo n wc wg ao j cap (.int (j:Int)) g) (shNewIT wo n wc wg ao j cap) (loopK NX kx))=(
 (fun a:SC=>(fun b:SV=>(fun c:SV=>(fun d:SV=>(fun h:Ch=>(fun k:Bool=>(k=true→wo=wo∧n=n∧(0≤((j:Nat):Int)∧((j:Nat):Int)<((n:Nat):Int))∧wo=wo∧j<n∧∀ l:Nat,(ao=ao∧j=j∧cap=cap∧l=l∧(∀ m:Nat,true=true)∧apC j 1 16)∧∀(m:Option Addr) (o:Nat),rng (((j:Nat):Int)+(1:Int))∧NX [c,vV (g 1),vV (g 2),vV (g 3),sV 3 m (j+1) o,vV (g 5),b,vV (g 7),c,iV ((n:Nat):Int),d,tV,rV 0 wo 1 j 0,b,sV 1 ao j cap,b,b,aV [a,a],cV 2 l 1 1,sV 3 m (j+1) o,d,vV (g 21),vV (g 22),vV (g 23),vV (g 24)] [h,Hd,Hc l 153 [a,a],Hr true m 153 2 (j+1) o [fun p=>Ci (if p<j then (wg p) else (wg j)),fun p=>Ci (if p<j then (wg p) else (wg j))]])∧(k=false→kx (Exit.exit 0) [c,vV (g 1),vV (g 2),vV (g 3),sV 1 ao j cap,vV (g 5),vV (g 6),vV (g 7),c,iV ((n:Nat):Int),iV ((j:Nat):Int),fV,vV (g 12),vV (g 13),vV (g 14),vV (g 15),vV (g 16),vV (g 17),vV (g 18),vV (g 19),vV (g 20),vV (g 21),vV (g 22),vV (g 23),vV (g 24)] [h,Hr true ao 153 2 j cap [fun l=>Ci (wg l),fun l=>Ci (wg l)]])) (decide (((j:Nat):Int)<((n:Nat):Int)))) (Hr false wo 0 1 n 0 [fun h=>Ci (wg h)])) (iV (((j:Nat):Int)+(1:Int)))) (sV 0 wo n wc)) (iV (wg j))) (Ci (wg j))):=by kernel_rfl
theorem shNewI_ok (wo:Option Addr)(n wc:Nat)(wg:Nat→Int)(hn:n≤2097152)(X:Cx):LoopOK Tryz.prog X (theLoop Tryz.f40 0) (sshNewI wo n wc wg):=by
 intro ts ch k a w hS hT hd hs
 obtain ⟨b,⟨h1,hch⟩,hk⟩:=hS
 refine loop_ok mixed (E:={}) trivial (loopsOK_nil _ _ _) 400 n (fun j ts ch=>∃ g ao cap,ts=shNewIH wo n wc wg ao j cap (.int (j:Int)) g∧ch=shNewIT wo n wc wg ao j cap) ?_ ?_ hT hd hs
 ·rintro j _ _ ⟨g,ao,cap,rfl,rfl⟩ hj
  refine (@Eq.mpr _ _ (shNewIB wo n wc wg ao j cap g _ _) ?_)
  dsimp -zeta -proj -iota -eta -failIfUnchanged (etaStruct:=.none) only
  have hm5:=min5_ok n
  by_cases hlt:j<n
  ·have hjn:(0:Int)≤(j:Int)∧(j:Int)<(n:Int)∧j<n:=⟨by omega,by omega,by omega⟩
   repeat' (first
    | with_reducible exact rfl
    | exact True.intro
    | with_reducible assumption
    | (refine ⟨hlt,?_⟩;show Next _ _ _ _;refine Next.mk (fun g=>shNewIH wo n wc wg _ (j+1) _ (.int ((j+1:Nat):Int)) g) _ ⟨_,_,_,rfl,rfl⟩ rfl fun w hw=>(hw.sel [0,3] (by simp)).re 1 _ rfl [fun i=>.int (wg i),fun i=>.int (wg i)] ?_;refine ⟨fun i hi=>?_,fun i hi=>?_,trivial⟩)
    | refine And.intro ?_ ?_
    | omega
    | (intro h;replace h:=of_decide_eq_true h;first | (exfalso;omega) | skip)
    | (intro h;replace h:=of_decide_eq_false h;first | (exfalso;omega) | skip)
    | intro _
    | omega
    | (simp;omega))
   all_goals
    rename_i i hi
    have hi:i<j+1:=hi
    simp only [SC.den]
    by_cases e:i<j
    ·simp [e]
    ·have e2:i=j:=by omega
     subst e2
     simp
  ·have hjn:n=j:=by omega
   subst hjn
   repeat' (first
    | with_reducible exact rfl
    | exact True.intro
    | (refine Next.mk (fun g=>shNewIH wo n wc wg ao n cap (.int ((n:Nat):Int)) g) _ (hk _ _ _) rfl fun w hw=>hw)
    | refine And.intro ?_ ?_
    | omega
    | (intro h;replace h:=of_decide_eq_true h;first | (exfalso;omega) | skip)
    | (intro h;replace h:=of_decide_eq_false h;first | (exfalso;omega) | skip)
    | intro _
    | omega)
 ·refine Next.mk (fun g=>shNewIH wo n wc wg (some ⟨b,0,none⟩) 0 0 (.int ((0:Nat):Int)) g) _ ⟨_,_,_,rfl,rfl⟩ h1 fun w hw=>?_
  have h2:=hw.sel [0,1] (by simp)
  rw [hch] at h2
  exact h2.reL ⟨⟨rfl,rfl,rfl,rfl,rfl,rfl,⟨fun _ _=>rfl,trivial⟩⟩,⟨rfl,rfl,rfl,rfl,⟨rfl,rfl,rfl⟩⟩,trivial⟩
def shNewSH (wo:Option Addr)(n wc:Nat)(wg:Nat→Int)(ao:Option Addr)(j cap:Nat)(i:SC)(g:Nat→Value):List SV:=[.a (.c (.sl 0 wo n wc)),.a (.c (.val (g 1))),.a (.c (.val (g 2))),.a (.c (.val (g 3))),.a (.c (.sl 1 ao j cap)),.a (.c i),.a (.c (.val (g 6))),.a (.c (.val (g 7))),.a (.c (.val (g 8))),.a (.c (.val (g 9))),.a (.c (.val (g 10))),.a (.c (.val (g 11))),.a (.c (.val (g 12))),.a (.c (.val (g 13))),.a (.c (.val (g 14))),.a (.c (.val (g 15))),.a (.c (.val (g 16))),.a (.c (.val (g 17))),.a (.c (.val (g 18))),.a (.c (.val (g 19))),.a (.c (.val (g 20))),.a (.c (.val (g 21))),.a (.c (.val (g 22))),.a (.c (.val (g 23))),.a (.c (.val (g 24))),.a (.c (.val (g 25))),.a (.c (.val (g 26))),.a (.c (.val (g 27))),.a (.c (.val (g 28))),.a (.c (.val (g 29))),.a (.c (.val (g 30))),.a (.c (.val (g 31))),.a (.c (.val (g 32))),.a (.c (.val (g 33)))]
def shNewST (wo:Option Addr)(n wc:Nat)(wg:Nat→Int)(ao:Option Addr)(j cap:Nat):List Ch:=[.row ⟨false,wo,0,1,n,0,[fun i=>.int (wg i)]⟩,.row ⟨true,ao,153,2,j,cap,[fun i=>.int (wg i),fun i=>.int (wg i)]⟩]
def sshNewS (wo:Option Addr)(n wc:Nat)(wg:Nat→Int):LSm:=fun ts ch k =>
 ∃ b,(ts.map SV.den=(shNewSH wo n wc wg (some ⟨b,0,none⟩) 0 0 (.il 0) (fun d=>(ts.getD d .undef).den)).map SV.den∧selC ch [0,1]=[.row ⟨false,wo,0,1,n,0,[fun i=>.int (wg i)]⟩,.cells b 153 []]) ∧
  ∀ g ao cap,k (.exit 0) (shNewSH wo n wc wg ao (min5 n) cap (.int (((min5 n):Nat):Int)) g) (shNewST wo n wc wg ao (min5 n) cap)
theorem shNewSB (wo:Option Addr)(n wc:Nat)(wg:Nat→Int)(ao:Option Addr)(j cap:Nat)(g:Nat→Value)(NX:List SV→List Ch→Prop)(kx:Exit→List SV→List Ch→Prop):(exCode Tryz.prog {D:=fun _=>[1]} 400 (theLoop Tryz.f24 0) (shNewSH wo n wc wg ao j cap (.int (j:Int)) g) (shNewST wo n wc wg ao j cap) (loopK NX kx))=(
 (fun a:SC=>(fun b:SV=>(fun c:SV=>(fun d:SV=>(fun h:SV=>(fun k:SV=>(fun l:Bool=>(fun m:Ch=>(fun o:SV=>(fun p:Bool=>(fun q:SV=>(fun r:Prop=>(fun s:List Ch=>(p=true→(l=true→wo=wo∧n=n∧r∧wo=wo∧j<n∧wo=wo∧n=n∧r∧wo=wo∧j<n∧∀ t:Nat,True∧(ao=ao∧j=j∧cap=cap∧t=t∧(∀ u:Nat,true=true)∧apC j 1 16)∧∀(u:Option Addr) (v:Nat),True∧rng (((j:Nat):Int)+(1:Int))∧NX [b,vV (g 1),vV (g 2),vV (g 3),sV 3 u (j+1) v,k,vV (g 6),h,b,d,q,tV,h,o,tV,h,k,c,b,h,rV 0 wo 1 j 0,iV (wg j),b,h,rV 0 wo 1 j 0,iV (wg j),aV [a,a],cV 2 t 1 1,sV 3 u (j+1) v,vV (g 29),vV (g 30),vV (g 31),vV (g 32),vV (g 33)] [m,Hd,Hc t 153 [a,a],Hr true u 153 2 (j+1) v [fun w=>Ci (if w<j then (wg w) else (wg j)),fun w=>Ci (if w<j then (wg w) else (wg j))]])∧(l=false→kx (Exit.exit 0) [b,vV (g 1),vV (g 2),vV (g 3),c,h,vV (g 6),h,b,d,q,tV,h,o,fV,vV (g 15),vV (g 16),vV (g 17),vV (g 18),vV (g 19),vV (g 20),vV (g 21),vV (g 22),vV (g 23),vV (g 24),vV (g 25),vV (g 26),vV (g 27),vV (g 28),vV (g 29),vV (g 30),vV (g 31),vV (g 32),vV (g 33)] s))∧(p=false→kx (Exit.exit 0) [b,vV (g 1),vV (g 2),vV (g 3),c,h,vV (g 6),h,b,d,q,fV,xV,xV,fV,vV (g 15),vV (g 16),vV (g 17),vV (g 18),vV (g 19),vV (g 20),vV (g 21),vV (g 22),vV (g 23),vV (g 24),vV (g 25),vV (g 26),vV (g 27),vV (g 28),vV (g 29),vV (g 30),vV (g 31),vV (g 32),vV (g 33)] s)) [m,Hr true ao 153 2 j cap [fun s=>Ci (wg s),fun s=>Ci (wg s)]]) (0≤((j:Nat):Int)∧((j:Nat):Int)<((n:Nat):Int))) (bV p)) (decide (((j:Nat):Int)<((n:Nat):Int)))) (bV l)) (Hr false wo 0 1 n 0 [fun m=>Ci (wg m)])) (decide (((j:Nat):Int)≤(4:Int)))) (iV (((j:Nat):Int)+(1:Int)))) (iV ((j:Nat):Int))) (iV ((n:Nat):Int))) (sV 1 ao j cap)) (sV 0 wo n wc)) (Ci (wg j))):=by kernel_rfl
theorem shNewS_ok (wo:Option Addr)(n wc:Nat)(wg:Nat→Int)(hn:n≤2097152)(X:Cx):LoopOK Tryz.prog X (theLoop Tryz.f24 0) (sshNewS wo n wc wg):=by
 intro ts ch k a w hS hT hd hs
 obtain ⟨b,⟨h1,hch⟩,hk⟩:=hS
 refine loop_ok mixed (E:={D:=fun _=>[1]}) trivial (loopsOK_nil _ _ _) 400 (min5 n) (fun j ts ch=>∃ g ao cap,ts=shNewSH wo n wc wg ao j cap (.int (j:Int)) g∧ch=shNewST wo n wc wg ao j cap) ?_ ?_ hT hd hs
 ·rintro j _ _ ⟨g,ao,cap,rfl,rfl⟩ hj
  refine (@Eq.mpr _ _ (shNewSB wo n wc wg ao j cap g _ _) ?_)
  dsimp -zeta -proj -iota -eta -failIfUnchanged (etaStruct:=.none) only
  have hm5:=min5_ok n
  by_cases hlt:j<(min5 n)
  ·have hjn:(0:Int)≤(j:Int)∧(j:Int)<(n:Int)∧j<n:=⟨by omega,by omega,by omega⟩
   repeat' (first
    | with_reducible exact rfl
    | exact True.intro
    | with_reducible assumption
    | (refine ⟨hlt,?_⟩;show Next _ _ _ _;refine Next.mk (fun g=>shNewSH wo n wc wg _ (j+1) _ (.int ((j+1:Nat):Int)) g) _ ⟨_,_,_,rfl,rfl⟩ rfl fun w hw=>(hw.sel [0,3] (by simp)).re 1 _ rfl [fun i=>.int (wg i),fun i=>.int (wg i)] ?_;refine ⟨fun i hi=>?_,fun i hi=>?_,trivial⟩)
    | refine And.intro ?_ ?_
    | omega
    | (intro h;replace h:=of_decide_eq_true h;first | (exfalso;omega) | skip)
    | (intro h;replace h:=of_decide_eq_false h;first | (exfalso;omega) | skip)
    | intro _
    | omega
    | (simp;omega))
   all_goals
    rename_i i hi
    have hi:i<j+1:=hi
    simp only [SC.den]
    by_cases e:i<j
    ·simp [e]
    ·have e2:i=j:=by omega
     subst e2
     simp
  ·have hjn:j=(min5 n):=by omega
   subst hjn
   repeat' (first
    | with_reducible exact rfl
    | exact True.intro
    | (refine Next.mk (fun g=>shNewSH wo n wc wg ao (min5 n) cap (.int (((min5 n):Nat):Int)) g) _ (hk _ _ _) rfl fun w hw=>hw)
    | refine And.intro ?_ ?_
    | omega
    | (intro h;replace h:=of_decide_eq_true h;first | (exfalso;omega) | skip)
    | (intro h;replace h:=of_decide_eq_false h;first | (exfalso;omega) | skip)
    | intro _
    | omega)
 ·refine Next.mk (fun g=>shNewSH wo n wc wg (some ⟨b,0,none⟩) 0 0 (.int ((0:Nat):Int)) g) _ ⟨_,_,_,rfl,rfl⟩ h1 fun w hw=>?_
  have h2:=hw.sel [0,1] (by simp)
  rw [hch] at h2
  exact h2.reL ⟨⟨rfl,rfl,rfl,rfl,rfl,rfl,⟨fun _ _=>rfl,trivial⟩⟩,⟨rfl,rfl,rfl,rfl,⟨rfl,rfl,rfl⟩⟩,trivial⟩
end Go.Proofs.YtbhfabaofhhkeaaGreat

/-
  FnExactStoredAddr: a part of the walk (merged and squeezed by program: SxK1).
-/
import Derived.Test.YtmnccapnjphmfaaGreatZbaf
namespace Go.Proofs.YtmnccapnjphmfaaGreat
set_option linter.unusedVariables false
set_option linter.unusedSimpArgs false
open Go.RowKit
set_option maxRecDepth 100000
set_option maxHeartbeats 8000000
def sIsI:Sm:=inlM Tryz.prog {tb:=[(61,sBtw)]} 300 Tryz.f180
theorem sIsI_ok:SmOK Tryz.prog 180 sIsI:=inlM_ok mixed (E:={tb:=[(61,sBtw)]}) ⟨sBtwI_ok,trivial⟩ Tryz.func180 Tryz.call180 (fun _ _ _=>loopsOK_nil _ _ _)
def sIsS:Sm:=inlM Tryz.prog {tb:=[(28,sBtw)]} 300 Tryz.f168
theorem sIsS_ok:SmOK Tryz.prog 168 sIsS:=inlM_ok mixed (E:={tb:=[(28,sBtw)]}) ⟨sBtwS_ok,trivial⟩ Tryz.func168 Tryz.call168 (fun _ _ _=>loopsOK_nil _ _ _)
def symB (n:Nat)(g:Nat→Int)(m:Int):Bool:=allB n (fun j=>btw (g j) 0 15)&&ieq (n:Int) m
def syIH (ao:Option Addr)(n c:Nat)(f:Nat→Int)(m:Int)(i:SC)(g:Nat→Value):List SV:=[.a (.c (.sl 0 ao n c)),.a (.c (.int m)),.a (.c (.val (g 2))),.a (.c (.val (g 3))),.a (.c (.val (g 4))),.a (.c (.val (g 5))),.a (.c (.val (g 6))),.a (.c (.sl 0 ao n c)),.a (.c (.int (n:Int))),.a (.c i),.a (.c (.val (g 10))),.a (.c (.val (g 11))),.a (.c (.val (g 12))),.a (.c (.val (g 13))),.a (.c (.val (g 14))),.a (.c (.val (g 15))),.a (.c (.val (g 16))),.a (.c (.val (g 17))),.a (.c (.val (g 18))),.a (.c (.val (g 19))),.a (.c (.val (g 20)))]
def syIR (ao:Option Addr)(n c:Nat)(f:Nat→Int)(m:Int)(g:Nat→Value):List SV:=[.a (.c (.val (g 0))),.a (.c (.val (g 1))),.a (.c (.val (g 2))),.a (.c (.val (g 3))),.a (.c (.lit false)),.a (.c (.val (g 5))),.a (.c (.val (g 6))),.a (.c (.val (g 7))),.a (.c (.val (g 8))),.a (.c (.val (g 9))),.a (.c (.val (g 10))),.a (.c (.val (g 11))),.a (.c (.val (g 12))),.a (.c (.val (g 13))),.a (.c (.val (g 14))),.a (.c (.val (g 15))),.a (.c (.val (g 16))),.a (.c (.val (g 17))),.a (.c (.val (g 18))),.a (.c (.val (g 19))),.a (.c (.val (g 20)))]
def syIT (ao:Option Addr)(n c:Nat)(f:Nat→Int)(m:Int):List Ch:=[.row ⟨false,ao,0,1,n,0,[fun i=>.int (f i)]⟩]
def syIP (ao:Option Addr)(n c:Nat)(f:Nat→Int)(m:Int)(j:Nat):Bool:=btw (f j) 0 15
def ssyI (ao:Option Addr)(n c:Nat)(f:Nat→Int)(m:Int):LSm:=fun ts ch k =>
 (ts.map SV.den=(syIH ao n c f m (.il 0) (fun d=>(ts.getD d .undef).den)).map SV.den∧selC ch [0]=syIT ao n c f m) ∧
  (∀ g,allB n (syIP ao n c f m)=true→k (.exit 0) (syIH ao n c f m (.int (n:Int)) g) (syIT ao n c f m))∧(∀ g,allB n (syIP ao n c f m)=false→k .ret (syIR ao n c f m g) (syIT ao n c f m))
theorem syIB (ao:Option Addr)(n c:Nat)(f:Nat→Int)(m:Int)(j:Nat)(g:Nat→Value)(NX:List SV→List Ch→Prop)(kx:Exit→List SV→List Ch→Prop):(exCode Tryz.prog { tb:=[(180,sIsI)] } 400 (theLoop Tryz.f136 0) (syIH ao n c f m (.int (j:Int)) g) (syIT ao n c f m) (loopK NX kx))=(
 (fun a:SV=>(fun b:SV=>(fun d:SV=>(fun h:Bool=>(fun k:SV=>(fun l:Bool=>(fun o:SV=>(fun p:List Ch=>(fun q:Bool=>(q=true→ao=ao∧n=n∧(0≤((j:Nat):Int)∧((j:Nat):Int)<((n:Nat):Int))∧ao=ao∧j<n∧(l=true→kx Exit.ret [b,iV m,vV (g 2),vV (g 3),fV,vV (g 5),a,b,d,iV ((j:Nat):Int),tV,rV 0 ao 1 j 0,a,a,o,tV,vV (g 16),vV (g 17),vV (g 18),vV (g 19),vV (g 20)] p)∧(l=false→rng (((j:Nat):Int)+(1:Int))∧NX [b,iV m,vV (g 2),vV (g 3),vV (g 4),vV (g 5),a,b,d,k,tV,rV 0 ao 1 j 0,a,a,o,fV,k,vV (g 17),vV (g 18),vV (g 19),vV (g 20)] p))∧(q=false→kx (Exit.exit 0) [b,iV m,vV (g 2),vV (g 3),vV (g 4),vV (g 5),vV (g 6),b,d,iV ((j:Nat):Int),fV,vV (g 11),vV (g 12),vV (g 13),vV (g 14),vV (g 15),vV (g 16),vV (g 17),vV (g 18),vV (g 19),vV (g 20)] p)) (decide (((j:Nat):Int)<((n:Nat):Int)))) [Hr false ao 0 1 n 0 [fun p=>Ci (f p)]]) (bV h)) (! h)) (iV (((j:Nat):Int)+(1:Int)))) (btw (f j) (0:Int) (15:Int))) (iV ((n:Nat):Int))) (sV 0 ao n c)) (iV (f j))):=by kernel_rfl
theorem syI_ok (ao:Option Addr)(n c:Nat)(f:Nat→Int)(m:Int)(hn:n≤9223372036854775807)(X:Cx):LoopOK Tryz.prog X (theLoop Tryz.f136 0) (ssyI ao n c f m):=by
 intro ts ch k a w hS hT hd hs
 obtain ⟨⟨h1,hch⟩,hk,hr⟩:=hS
 refine loop_ok mixed (E:={ tb:=[(180,sIsI)] }) ⟨sIsI_ok,trivial⟩ (loopsOK_nil _ _ _) 400 n (fun j ts ch=>∃ g,allB j (syIP ao n c f m)=true∧ts=syIH ao n c f m (.int (j:Int)) g∧ch=syIT ao n c f m) ?_ ?_ hT hd hs
 ·rintro j _ _ ⟨g,hall,rfl,rfl⟩ hj
  refine (@Eq.mpr _ _ (syIB ao n c f m j g _ _) ?_)
  dsimp -zeta -proj -iota -eta -failIfUnchanged (etaStruct:=.none) only
  by_cases hlt:j<n
  ·have hjn:(0:Int)≤(j:Int)∧(j:Int)<(n:Int):=⟨by omega,by omega⟩
   cases hp:syIP ao n c f m j
   all_goals simp only [syIP] at hp
   all_goals
    repeat' (first
     | with_reducible exact rfl
     | exact True.intro
     | with_reducible assumption
     | (refine ⟨hlt,?_⟩;show Next _ _ _ _;refine Next.mk (fun g=>syIH ao n c f m (.int ((j+1:Nat):Int)) g) _ ⟨_,allB_succ hall (by simp only [syIP];exact hp),rfl,rfl⟩ rfl fun w hw=>hw.sel [0] (by simp))
     | (refine Next.mk (fun g=>syIR ao n c f m g) _ (hr _ (allB_no hlt (by simp only [syIP];exact hp))) rfl fun w hw=>hw.sel [0] (by simp))
     | refine And.intro ?_ ?_
     | (intro h;exfalso;simp at h;omega)
     | (intro h;exfalso;simp [h] at hp;done)
     | (intro h;exfalso;rw [hp] at h;simp at h;done)
     | intro _
     | omega)
    all_goals (exfalso;simp_all;done)
  ·have hjn:n=j:=by omega
   subst hjn
   repeat' (first
    | with_reducible exact rfl
    | exact True.intro
    | (refine Next.mk (fun g=>syIH ao n c f m (.int (n:Int)) g) _ (hk _ hall) rfl fun w hw=>hw.sel [0] (by simp))
    | refine And.intro ?_ ?_
    | (intro h;exfalso;simp at h;done)
    | (intro h;exfalso;simp at h;omega)
    | intro _)
 ·refine Next.mk (fun g=>syIH ao n c f m (.int ((0:Nat):Int)) g) _ ⟨_,allB_zero _,rfl,rfl⟩ h1 fun w hw=>?_
  rw [← hch]
  exact hw.sel [0] (by simp)
theorem symI_T (ao:Option Addr)(n c:Nat)(f:Nat→Int)(m:Int):(exFn Tryz.prog { tb:=[(180,sIsI)],L:=[(2,ssyI ao n c f m)] } 400 Tryz.f136 ([.a (.c (.sl 0 ao n c)),.a (.c (.int m))]) ([.row ⟨false,ao,0,1,n,0,[fun i=>.int (f i)]⟩]) (fun v _=>v.den=.bool (symB n f m)))=(
 ([Ws ao n c,Wi m,Wu [],Wu [],Wb false,Wu [],Wu [],Ws ao n c,Wi ((n:Nat):Int),Wi 0,Wu [],Wu [],Wu [],Wu [],Wu [],Wu [],Wu [],Wu [],Wu [],Wu [],Wu []]=[Ws ao n c,Wi m,Wu [],Wu [],Wb false,Wu [],Wu [],Ws ao n c,Wi ((n:Nat):Int),Wi 0,Wu [],Wu [],Wu [],Wu [],Wu [],Wu [],Wu [],Wu [],Wu [],Wu [],Wu []]∧[Hr false ao 0 1 n 0 [fun b=>Ci (f b)]]=[Hr false ao 0 1 n 0 [fun b=>Ci (f b)]])∧(∀ b:Nat→Value,(allB n (syIP ao n c f m))=true→(Wb (((n:Nat):Int) == m))=(Wb (symB n f m)))∧∀ b:Nat→Value,(allB n (syIP ao n c f m))=false→(Wb false)=(Wb (symB n f m))):=by kernel_rfl
theorem symI_any (ao:Option Addr)(n c:Nat)(f:Nat→Int)(m:Int)(w:World)(h:Row.sat w ⟨false,ao,0,1,n,0,[fun i=>.int (f i)]⟩)(hn:n≤9223372036854775807):Calls Tryz.prog 136 #[.slice ao n c,.int .i64 m] w fun e w'=>e=.returned (.bool (symB n f m))∧Below w.heap.size w w':=by
 refine fn_ok mixed (E:={ tb:=[(180,sIsI)],L:=[(2,ssyI ao n c f m)] }) ⟨sIsI_ok,trivial⟩ Tryz.func136 (one_loop (by kernel_rfl) (by kernel_rfl) (syI_ok ao n c f m hn _)) (@Eq.mpr _ _ (symI_T ao n c f m) ?_) (HS.rows (fun _=>False) [⟨false,ao,0,1,n,0,[fun i=>.int (f i)]⟩] (by simpa using h)) (fun v ch' w' hv hs=>⟨by rw [hv],hs.below⟩)
 clear h
 have e:symB n f m=(allB n (syIP ao n c f m)&&ieq (n:Int) m):=rfl
 rw [e]
 repeat' (first
  | with_reducible exact rfl
  | exact True.intro
  | with_reducible assumption
  | refine And.intro ?_ ?_
  | (intro g h;rw [h])
  | intro _)
 all_goals simp
def sySH (ao:Option Addr)(n c:Nat)(f:Nat→Int)(m:Int)(i:SC)(g:Nat→Value):List SV:=[.a (.c (.sl 0 ao n c)),.a (.c (.int m)),.a (.c (.val (g 2))),.a (.c (.val (g 3))),.a (.c (.val (g 4))),.a (.c i),.a (.c (.val (g 6))),.a (.c (.val (g 7))),.a (.c (.val (g 8))),.a (.c (.val (g 9))),.a (.c (.val (g 10))),.a (.c (.val (g 11))),.a (.c (.val (g 12))),.a (.c (.val (g 13))),.a (.c (.val (g 14))),.a (.c (.val (g 15))),.a (.c (.val (g 16))),.a (.c (.val (g 17))),.a (.c (.val (g 18))),.a (.c (.val (g 19))),.a (.c (.val (g 20))),.a (.c (.val (g 21)))]
def sySR (ao:Option Addr)(n c:Nat)(f:Nat→Int)(m:Int)(g:Nat→Value):List SV:=[.a (.c (.val (g 0))),.a (.c (.val (g 1))),.a (.c (.val (g 2))),.a (.c (.val (g 3))),.a (.c (.lit false)),.a (.c (.val (g 5))),.a (.c (.val (g 6))),.a (.c (.val (g 7))),.a (.c (.val (g 8))),.a (.c (.val (g 9))),.a (.c (.val (g 10))),.a (.c (.val (g 11))),.a (.c (.val (g 12))),.a (.c (.val (g 13))),.a (.c (.val (g 14))),.a (.c (.val (g 15))),.a (.c (.val (g 16))),.a (.c (.val (g 17))),.a (.c (.val (g 18))),.a (.c (.val (g 19))),.a (.c (.val (g 20))),.a (.c (.val (g 21)))]
def syST (ao:Option Addr)(n c:Nat)(f:Nat→Int)(m:Int):List Ch:=[.row ⟨false,ao,0,1,n,0,[fun i=>.int (f i)]⟩]
def sySP (ao:Option Addr)(n c:Nat)(f:Nat→Int)(m:Int)(j:Nat):Bool:=btw (f j) 0 15
def ssyS (ao:Option Addr)(n c:Nat)(f:Nat→Int)(m:Int):LSm:=fun ts ch k =>
 (ts.map SV.den=(sySH ao n c f m (.il 0) (fun d=>(ts.getD d .undef).den)).map SV.den∧selC ch [0]=syST ao n c f m) ∧
  (∀ g,allB n (sySP ao n c f m)=true→k (.exit 0) (sySH ao n c f m (.int (n:Int)) g) (syST ao n c f m))∧(∀ g,allB n (sySP ao n c f m)=false→k .ret (sySR ao n c f m g) (syST ao n c f m))
theorem sySB (ao:Option Addr)(n c:Nat)(f:Nat→Int)(m:Int)(j:Nat)(g:Nat→Value)(NX:List SV→List Ch→Prop)(kx:Exit→List SV→List Ch→Prop):(exCode Tryz.prog { tb:=[(168,sIsS)] } 400 (theLoop Tryz.f104 0) (sySH ao n c f m (.int (j:Int)) g) (syST ao n c f m) (loopK NX kx))=(
 (fun a:SV=>(fun b:SV=>(fun d:SV=>(fun h:Bool=>(fun k:SV=>(fun l:Bool=>(fun o:SV=>(fun p:List Ch=>(fun q:Bool=>(q=true→ao=ao∧n=n∧(0≤((j:Nat):Int)∧((j:Nat):Int)<((n:Nat):Int))∧ao=ao∧j<n∧(l=true→kx Exit.ret [a,iV m,vV (g 2),vV (g 3),fV,d,d,a,b,tV,vV (g 10),vV (g 11),a,d,rV 0 ao 1 j 0,iV (f j),o,tV,vV (g 18),vV (g 19),vV (g 20),vV (g 21)] p)∧(l=false→rng (((j:Nat):Int)+(1:Int))∧NX [a,iV m,vV (g 2),vV (g 3),vV (g 4),k,d,a,b,tV,d,k,a,d,rV 0 ao 1 j 0,iV (f j),o,fV,vV (g 18),vV (g 19),vV (g 20),vV (g 21)] p))∧(q=false→kx (Exit.exit 0) [a,iV m,vV (g 2),vV (g 3),vV (g 4),d,d,a,b,fV,vV (g 10),vV (g 11),vV (g 12),vV (g 13),vV (g 14),vV (g 15),vV (g 16),vV (g 17),vV (g 18),vV (g 19),vV (g 20),vV (g 21)] p)) (decide (((j:Nat):Int)<((n:Nat):Int)))) [Hr false ao 0 1 n 0 [fun p=>Ci (f p)]]) (bV h)) (! h)) (iV (((j:Nat):Int)+(1:Int)))) (btw (f j) (0:Int) (15:Int))) (iV ((j:Nat):Int))) (iV ((n:Nat):Int))) (sV 0 ao n c)):=by kernel_rfl
theorem syS_ok (ao:Option Addr)(n c:Nat)(f:Nat→Int)(m:Int)(hn:n≤9223372036854775807)(X:Cx):LoopOK Tryz.prog X (theLoop Tryz.f104 0) (ssyS ao n c f m):=by
 intro ts ch k a w hS hT hd hs
 obtain ⟨⟨h1,hch⟩,hk,hr⟩:=hS
 refine loop_ok mixed (E:={ tb:=[(168,sIsS)] }) ⟨sIsS_ok,trivial⟩ (loopsOK_nil _ _ _) 400 n (fun j ts ch=>∃ g,allB j (sySP ao n c f m)=true∧ts=sySH ao n c f m (.int (j:Int)) g∧ch=syST ao n c f m) ?_ ?_ hT hd hs
 ·rintro j _ _ ⟨g,hall,rfl,rfl⟩ hj
  refine (@Eq.mpr _ _ (sySB ao n c f m j g _ _) ?_)
  dsimp -zeta -proj -iota -eta -failIfUnchanged (etaStruct:=.none) only
  by_cases hlt:j<n
  ·have hjn:(0:Int)≤(j:Int)∧(j:Int)<(n:Int):=⟨by omega,by omega⟩
   cases hp:sySP ao n c f m j
   all_goals simp only [sySP] at hp
   all_goals
    repeat' (first
     | with_reducible exact rfl
     | exact True.intro
     | with_reducible assumption
     | (refine ⟨hlt,?_⟩;show Next _ _ _ _;refine Next.mk (fun g=>sySH ao n c f m (.int ((j+1:Nat):Int)) g) _ ⟨_,allB_succ hall (by simp only [sySP];exact hp),rfl,rfl⟩ rfl fun w hw=>hw.sel [0] (by simp))
     | (refine Next.mk (fun g=>sySR ao n c f m g) _ (hr _ (allB_no hlt (by simp only [sySP];exact hp))) rfl fun w hw=>hw.sel [0] (by simp))
     | refine And.intro ?_ ?_
     | (intro h;exfalso;simp at h;omega)
     | (intro h;exfalso;simp [h] at hp;done)
     | (intro h;exfalso;rw [hp] at h;simp at h;done)
     | intro _
     | omega)
    all_goals (exfalso;simp_all;done)
  ·have hjn:n=j:=by omega
   subst hjn
   repeat' (first
    | with_reducible exact rfl
    | exact True.intro
    | (refine Next.mk (fun g=>sySH ao n c f m (.int (n:Int)) g) _ (hk _ hall) rfl fun w hw=>hw.sel [0] (by simp))
    | refine And.intro ?_ ?_
    | (intro h;exfalso;simp at h;done)
    | (intro h;exfalso;simp at h;omega)
    | intro _)
 ·refine Next.mk (fun g=>sySH ao n c f m (.int ((0:Nat):Int)) g) _ ⟨_,allB_zero _,rfl,rfl⟩ h1 fun w hw=>?_
  rw [← hch]
  exact hw.sel [0] (by simp)
theorem symS_T (ao:Option Addr)(n c:Nat)(f:Nat→Int)(m:Int):(exFn Tryz.prog { tb:=[(168,sIsS)],L:=[(2,ssyS ao n c f m)] } 400 Tryz.f104 ([.a (.c (.sl 0 ao n c)),.a (.c (.int m))]) ([.row ⟨false,ao,0,1,n,0,[fun i=>.int (f i)]⟩]) (fun v _=>v.den=.bool (symB n f m)))=(
 ([Ws ao n c,Wi m,Wu [],Wu [],Wb false,Wi 0,Wu [],Wu [],Wu [],Wu [],Wu [],Wu [],Wu [],Wu [],Wu [],Wu [],Wu [],Wu [],Wu [],Wu [],Wu [],Wu []]=[Ws ao n c,Wi m,Wu [],Wu [],Wb false,Wi 0,Wu [],Wu [],Wu [],Wu [],Wu [],Wu [],Wu [],Wu [],Wu [],Wu [],Wu [],Wu [],Wu [],Wu [],Wu [],Wu []]∧[Hr false ao 0 1 n 0 [fun b=>Ci (f b)]]=[Hr false ao 0 1 n 0 [fun b=>Ci (f b)]])∧(∀ b:Nat→Value,(allB n (sySP ao n c f m))=true→(Wb (((n:Nat):Int) == m))=(Wb (symB n f m)))∧∀ b:Nat→Value,(allB n (sySP ao n c f m))=false→(Wb false)=(Wb (symB n f m))):=by kernel_rfl
theorem symS_any (ao:Option Addr)(n c:Nat)(f:Nat→Int)(m:Int)(w:World)(h:Row.sat w ⟨false,ao,0,1,n,0,[fun i=>.int (f i)]⟩)(hn:n≤9223372036854775807):Calls Tryz.prog 104 #[.slice ao n c,.int .i64 m] w fun e w'=>e=.returned (.bool (symB n f m))∧Below w.heap.size w w':=by
 refine fn_ok mixed (E:={ tb:=[(168,sIsS)],L:=[(2,ssyS ao n c f m)] }) ⟨sIsS_ok,trivial⟩ Tryz.func104 (one_loop (by kernel_rfl) (by kernel_rfl) (syS_ok ao n c f m hn _)) (@Eq.mpr _ _ (symS_T ao n c f m) ?_) (HS.rows (fun _=>False) [⟨false,ao,0,1,n,0,[fun i=>.int (f i)]⟩] (by simpa using h)) (fun v ch' w' hv hs=>⟨by rw [hv],hs.below⟩)
 clear h
 have e:symB n f m=(allB n (sySP ao n c f m)&&ieq (n:Int) m):=rfl
 rw [e]
 repeat' (first
  | with_reducible exact rfl
  | exact True.intro
  | with_reducible assumption
  | refine And.intro ?_ ?_
  | (intro g h;rw [h])
  | intro _)
 all_goals simp
def sSym:Sm:=fun args ch kk =>
 match args with
 | [.a (.c c),.a (.c mc)] =>
  match asI mc with
  | some m=>rdn ch c fun n g=>lenC n∧kk (.a (.c (.bool (symB n g m)))) ch []
  | none=>False
 | _=>False
theorem sSym_I:SmOK Tryz.prog 136 sSym:=by
 refine smB Tryz.call136 fun args ch kk w X h0 hs=>?_
 unfold sSym at h0
 split at h0
 ·split at h0
  ·rename_i m hm
   obtain ⟨ao,n,c',g,e,hr,hn,h1⟩:=rdn_ok h0 hs
   refine ⟨_,h1,?_⟩
   simp only [List.map_cons,List.map_nil,den_a,den_c,e,asI_den hm]
   exact symI_any ao n c' g m w hr hn
  ·exact h0.elim
 ·exact h0.elim
theorem sSym_S:SmOK Tryz.prog 104 sSym:=by
 refine smB Tryz.call104 fun args ch kk w X h0 hs=>?_
 unfold sSym at h0
 split at h0
 ·split at h0
  ·rename_i m hm
   obtain ⟨ao,n,c',g,e,hr,hn,h1⟩:=rdn_ok h0 hs
   refine ⟨_,h1,?_⟩
   simp only [List.map_cons,List.map_nil,den_a,den_c,e,asI_den hm]
   exact symS_any ao n c' g m w hr hn
  ·exact h0.elim
 ·exact h0.elim
end Go.Proofs.YtmnccapnjphmfaaGreat

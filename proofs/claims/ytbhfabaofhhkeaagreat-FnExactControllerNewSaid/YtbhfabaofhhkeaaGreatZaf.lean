/-
  FnExactControllerNew: a part of the walk (merged and squeezed by program: SxNs).
-/
import Derived.Test.YtbhfabaofhhkeaaGreatZae
namespace Go.Proofs.YtbhfabaofhhkeaaGreat
set_option linter.unusedVariables false
set_option linter.unusedSimpArgs false
open Go.RowKit
set_option maxRecDepth 100000
set_option maxHeartbeats 8000000
def markShareH (ao:Option Addr)(n cap:Nat)(i kk:SC)(g:Nat→Value):List SV:=[.a (.c (.sl 0 ao n cap)),.a (.c kk),.a (.c (.val (g 2))),.a (.c (.val (g 3))),.a (.c (.val (g 4))),.a (.c i),.a (.c (.val (g 6))),.a (.c (.val (g 7))),.a (.c (.val (g 8))),.a (.c (.val (g 9))),.a (.c (.val (g 10))),.a (.c (.val (g 11))),.a (.c (.val (g 12))),.a (.c (.val (g 13))),.a (.c (.val (g 14))),.a (.c (.val (g 15))),.a (.c (.val (g 16))),.a (.c (.val (g 17))),.a (.c (.val (g 18))),.a (.c (.val (g 19))),.a (.c (.val (g 20))),.a (.c (.val (g 21))),.a (.c (.val (g 22))),.a (.c (.val (g 23))),.a (.c (.val (g 24))),.a (.c (.val (g 25))),.a (.c (.val (g 26)))]
def markShareT (ao:Option Addr)(t n rc:Nat)(fs:List (Nat→SC)):List Ch:=[.row ⟨true,ao,t,2,n,rc,fs⟩]
def sMarkShareL (ao:Option Addr)(t n rc cap:Nat)(g0 g1:Nat→Int)(k0:Int):LSm:=fun ts ch k =>
 (ts.map SV.den=(markShareH ao n cap (.il 0) (.int k0) (fun d=>(ts.getD d .undef).den)).map SV.den∧ch=markShareT ao t n rc [fun i=>.int (g0 i),fun i=>.int (g1 i)]) ∧
  ∀ g,k (.exit 0) (markShareH ao n cap (.int (n:Int)) (.int (mk k0 2 0 n)) g) (markShareT ao t n rc [fun i=>.int (mk k0 2 0 i),fun i=>.int (mk k0 2 1 i)])
theorem markShareB (ao:Option Addr)(t n rc cap:Nat)(g0 g1:Nat→Int)(k0:Int)(j:Nat)(g:Nat→Value)(NX:List SV→List Ch→Prop)(kx:Exit→List SV→List Ch→Prop):(exCode Tryz.prog {} 400 (theLoop Tryz.f72 0) (markShareH ao n cap (.int (j:Int)) (.int (mk k0 2 0 j)) g) (markShareT ao t n rc [fun i=>.int (lowI i j (mk k0 2 0 i) (g0 i)),fun i=>.int (lowI i j (mk k0 2 1 i) (g1 i))]) (loopK NX kx))=(
 (fun a:Int=>(fun b:SV=>(fun c:SV=>(fun d:SV=>(fun h:SV=>(fun k:SV=>(fun l:SV=>(fun m:SV=>(fun o:Bool=>(fun p:Prop=>(o=true→ao=ao∧n=n∧p∧ao=ao∧j<n∧ao=ao∧j<n∧rng (a+(1:Int))∧ao=ao∧n=n∧p∧ao=ao∧j<n∧ao=ao∧j<n∧rng ((a+(1:Int))+(1:Int))∧rng (((j:Nat):Int)+(1:Int))∧NX [c,m,vV (g 2),vV (g 3),vV (g 4),l,h,c,iV ((n:Nat):Int),tV,h,l,c,h,d,b,b,d,k,c,h,k,b,rV 0 ao 2 j 1,k,m,vV (g 26)] [Hr true ao t 2 n rc [fun q=>Ci (if q=j then a else (if q<j then (mk k0 2 0 q) else (g0 q))),fun q=>Ci (if q=j then (a+(1:Int)) else (if q<j then (mk k0 2 1 q) else (g1 q)))]])∧(o=false→kx (Exit.exit 0) [c,d,vV (g 2),vV (g 3),vV (g 4),h,h,c,iV ((n:Nat):Int),fV,vV (g 10),vV (g 11),vV (g 12),vV (g 13),vV (g 14),vV (g 15),vV (g 16),vV (g 17),vV (g 18),vV (g 19),vV (g 20),vV (g 21),vV (g 22),vV (g 23),vV (g 24),vV (g 25),vV (g 26)] [Hr true ao t 2 n rc [fun q=>Ci (if q<j then (mk k0 2 0 q) else (g0 q)),fun q=>Ci (if q<j then (mk k0 2 1 q) else (g1 q))]])) (0≤((j:Nat):Int)∧((j:Nat):Int)<((n:Nat):Int))) (decide (((j:Nat):Int)<((n:Nat):Int)))) (iV ((a+(1:Int))+(1:Int)))) (iV (((j:Nat):Int)+(1:Int)))) (iV (a+(1:Int)))) (iV ((j:Nat):Int))) (iV a)) (sV 0 ao n cap)) (rV 0 ao 2 j 0)) (mk k0 2 0 j)):=by kernel_rfl
theorem markShareL_ok (ao:Option Addr)(t n rc cap:Nat)(g0 g1:Nat→Int)(k0:Int)(hn:n≤2097152∧0≤k0∧k0≤1099511627776)(X:Cx):LoopOK Tryz.prog X (theLoop Tryz.f72 0) (sMarkShareL ao t n rc cap g0 g1 k0):=by
 intro ts ch k a w hS hT hd hs
 obtain ⟨⟨h1,rfl⟩,hk⟩:=hS
 refine loop_ok mixed (E:={}) trivial (loopsOK_nil _ _ _) 400 n (fun j ts ch=>∃ g,ts=markShareH ao n cap (.int (j:Int)) (.int (mk k0 2 0 j)) g∧ch=markShareT ao t n rc [fun i=>.int (lowI i j (mk k0 2 0 i) (g0 i)),fun i=>.int (lowI i j (mk k0 2 1 i) (g1 i))]) ?_ ?_ hT hd hs
 ·rintro j _ _ ⟨g,rfl,rfl⟩ hj
  refine (@Eq.mpr _ _ (markShareB ao t n rc cap g0 g1 k0 j g _ _) ?_)
  dsimp -zeta -proj -iota -eta -failIfUnchanged (etaStruct:=.none) only
  have hb:=mk_bound (s:=2) (c:=0) hn hj (by omega) (by omega)
  refine ⟨fun hlt=>?_,fun hge=>?_⟩
  ·have hlt':j<n:=by simpa using hlt
   have hjn:(0:Int)≤(j:Int)∧(j:Int)<(n:Int):=⟨by omega,by omega⟩
   have hnx:=mk_next k0 2 j
   repeat' (first | exact rfl | exact True.intro | assumption | refine And.intro ?_ ?_ | omega)
   refine Next.mk (fun g=>markShareH ao n cap (.int ((j+1:Nat):Int)) (.int (mk k0 2 0 (j+1))) g) _ ⟨_,rfl,rfl⟩ ?_ fun w hw=>hw.re 0 _ rfl [fun i=>.int (lowI i (j+1) (mk k0 2 0 i) (g0 i)),fun i=>.int (lowI i (j+1) (mk k0 2 1 i) (g1 i))] ?_
   ·rw [hnx]
    simp [markShareH,SV.den,SA.den,SC.den]
    try omega
   ·exact ⟨fun i _=>congrArg (Value.int .i64) (mk_low k0 2 0 g0 i j _ (by first | rfl | (simp only [mk];omega))),fun i _=>congrArg (Value.int .i64) (mk_low k0 2 1 g1 i j _ (by first | rfl | (simp only [mk];omega))),trivial⟩
  ·have hjn:j=n:=by have:¬ (j<n):=by simpa using hge
                    omega
   subst hjn
   exact Next.mk (fun g=>markShareH ao j cap (.int (j:Int)) (.int (mk k0 2 0 j)) g) _ (hk _) rfl fun w hw=>hw.re 0 _ rfl [fun i=>.int (mk k0 2 0 i),fun i=>.int (mk k0 2 1 i)] ⟨fun i hi=>by simp only [SC.den,lowI];rw [if_pos hi],fun i hi=>by simp only [SC.den,lowI];rw [if_pos hi],trivial⟩
 ·refine Next.mk (fun g=>markShareH ao n cap (.int ((0:Nat):Int)) (.int (mk k0 2 0 0)) g) _ ⟨_,rfl,rfl⟩ ?_ fun w hw=>hw.re 0 _ rfl [fun i=>.int (lowI i 0 (mk k0 2 0 i) (g0 i)),fun i=>.int (lowI i 0 (mk k0 2 1 i) (g1 i))] ⟨fun i hi=>by simp [SC.den,lowI],fun i hi=>by simp [SC.den,lowI],trivial⟩
  rw [h1]
  simp [markShareH,SV.den,SA.den,SC.den,mk]
theorem markShareS_T (ao:Option Addr)(t n rc cap:Nat)(g0 g1:Nat→Int)(k0:Int):(exFn Tryz.prog {L:=[(2,sMarkShareL ao t n rc cap g0 g1 k0)]} 400 Tryz.f72 ([.a (.c (.sl 0 ao n cap)),.a (.c (.int k0))]) (markShareT ao t n rc [fun i=>.int (g0 i),fun i=>.int (g1 i)]) (fun v ch=>v.den=.int .i64 (mk k0 2 0 n)∧ch[0]?=some (.row ⟨true,ao,t,2,n,rc,[fun i=>.int (mk k0 2 0 i),fun i=>.int (mk k0 2 1 i)]⟩)))=(
 ([Ws ao n cap,Wi k0,Wu [],Wu [],Wi 0,Wi 0,Wu [],Wu [],Wu [],Wu [],Wu [],Wu [],Wu [],Wu [],Wu [],Wu [],Wu [],Wu [],Wu [],Wu [],Wu [],Wu [],Wu [],Wu [],Wu [],Wu [],Wu []]=[Ws ao n cap,Wi k0,Wu [],Wu [],Wi 0,Wi 0,Wu [],Wu [],Wu [],Wu [],Wu [],Wu [],Wu [],Wu [],Wu [],Wu [],Wu [],Wu [],Wu [],Wu [],Wu [],Wu [],Wu [],Wu [],Wu [],Wu [],Wu []]∧[Hr true ao t 2 n rc [fun b=>Ci (g0 b),fun b=>Ci (g1 b)]]=[Hr true ao t 2 n rc [fun b=>Ci (g0 b),fun b=>Ci (g1 b)]])∧∀ b:Nat→Value,(Wi (mk k0 2 0 n))=(Wi (mk k0 2 0 n))∧(Option.some (Hr true ao t 2 n rc [fun d=>Ci (mk k0 2 0 d),fun d=>Ci (mk k0 2 1 d)]))=(Option.some (Hr true ao t 2 n rc [fun d=>Ci (mk k0 2 0 d),fun d=>Ci (mk k0 2 1 d)]))):=by kernel_rfl
theorem markShareS_any (ao:Option Addr)(t n rc cap:Nat)(g0 g1:Nat→Int)(k0:Int)(w:World)(hn:n≤2097152∧0≤k0∧k0≤1099511627776)(h:Row.sat w ⟨true,ao,t,2,n,rc,[fun i=>.int (g0 i),fun i=>.int (g1 i)]⟩) :
  Calls Tryz.prog 72 #[.slice ao n cap,.int .i64 k0] w fun e w'=>e=.returned (.int .i64 (mk k0 2 0 n))∧HS ⟨w,(Ch.row ⟨true,ao,t,2,n,rc,[fun i=>.int (g0 i),fun i=>.int (g1 i)]⟩).at⟩ [.row ⟨true,ao,t,2,n,rc,[fun i=>.int (mk k0 2 0 i),fun i=>.int (mk k0 2 1 i)]⟩] w':=by
 refine fn_ok mixed (E:={ L:=[(2,sMarkShareL ao t n rc cap g0 g1 k0)] }) trivial Tryz.func72 (one_loop (by kernel_rfl) (by kernel_rfl) (markShareL_ok ao t n rc cap g0 g1 k0 hn _)) (@Eq.mpr _ _ (markShareS_T ao t n rc cap g0 g1 k0) ?_) (HS.one h) (fun v ch' w' ⟨hv,hc⟩ hs=>⟨by rw [hv],?_⟩)
 ·refine ⟨⟨rfl,rfl⟩,?_⟩
  intros
  exact ⟨rfl,rfl⟩
 ·have:=hs.sel [0] (by simp)
  simpa [selC,hc] using this
def sMarkShareS:Sm:=fun args ch k =>
 match args with
 | [.a (.c (.sl id ao n _)),.a (.c kc)] =>
  match ch[id]?,asI kc with
  | some (.row r),some k0 =>
   match r.own with
   | true=>∃ g0:Nat→Int,∃ g1:Nat→Int,(ao=r.ao∧n=r.n∧r.fld=[fun i=>.int (g0 i),fun i=>.int (g1 i)]∧markC n k0)∧k (.a (.c (.int (mk k0 2 0 n)))) (ch.set id (.row { r with fld:=[fun i=>.int (mk k0 2 0 i),fun i=>.int (mk k0 2 1 i)] })) [id]
   | false=>False
  | _,_=>False
 | _=>False
theorem sMarkShareS_ok:SmOK Tryz.prog 72 sMarkShareS:=by
 refine smTurn Tryz.call72 fun args ch k w X h0 hs=>?_
 unfold sMarkShareS at h0
 split at h0
 ·rename_i id ao n cap kc
  split at h0
  ·rename_i r k0 hid hkc
   split at h0
   ·rename_i ho
    obtain ⟨g0,g1,⟨rfl,rfl,hf,hn⟩,h0⟩:=h0
    have hr:r.sat w:=hs.sat id _ hid
    have hs':r.s=2:=by have:=hr.1;rw [hf] at this;exact this.symm
    obtain ⟨ow,ao,t,s',n,rc,fs⟩:=r
    simp only at hf ho hs' hr h0 hn
    subst hf
    subst ho
    subst hs'
    refine ⟨_,id,_,[fun i=>.int (mk k0 2 0 i),fun i=>.int (mk k0 2 1 i)],hid,rfl,h0,?_⟩
    simp only [List.map_cons,List.map_nil,den_a,den_c,asI_den hkc]
    exact markShareS_any ao t n rc cap g0 g1 k0 w hn hr
   ·exact h0.elim
  ·exact h0.elim
 ·exact h0.elim
def heldShareH (ao:Option Addr)(n cap:Nat)(i kk:SC)(g:Nat→Value):List SV:=[.a (.c (.sl 0 ao n cap)),.a (.c kk),.a (.c (.val (g 2))),.a (.c (.val (g 3))),.a (.c (.il 0)),.a (.c i),.a (.c (.val (g 6))),.a (.c (.val (g 7))),.a (.c (.val (g 8))),.a (.c (.val (g 9))),.a (.c (.val (g 10))),.a (.c (.val (g 11))),.a (.c (.val (g 12))),.a (.c (.val (g 13))),.a (.c (.val (g 14))),.a (.c (.val (g 15))),.a (.c (.val (g 16))),.a (.c (.val (g 17))),.a (.c (.val (g 18))),.a (.c (.val (g 19))),.a (.c (.val (g 20))),.a (.c (.val (g 21))),.a (.c (.val (g 22))),.a (.c (.val (g 23))),.a (.c (.val (g 24))),.a (.c (.val (g 25))),.a (.c (.val (g 26))),.a (.c (.val (g 27))),.a (.c (.val (g 28))),.a (.c (.val (g 29))),.a (.c (.val (g 30)))]
def heldShareT (ao:Option Addr)(n:Nat)(k0:Int):List Ch:=[.row ⟨false,ao,0,2,n,0,[fun i=>.int (mk k0 2 0 i),fun i=>.int (mk k0 2 1 i)]⟩]
def sHeldShareL (ao:Option Addr)(n cap:Nat)(k0:Int):LSm:=fun ts ch k =>
 (ts.map SV.den=(heldShareH ao n cap (.il 0) (.int k0) (fun d=>(ts.getD d .undef).den)).map SV.den∧ch=heldShareT ao n k0) ∧
  ∀ g,k (.exit 0) (heldShareH ao n cap (.int (n:Int)) (.int (mk k0 2 0 n)) g) (heldShareT ao n k0)
theorem heldShareB (ao:Option Addr)(n cap:Nat)(k0:Int)(j:Nat)(g:Nat→Value)(NX:List SV→List Ch→Prop)(kx:Exit→List SV→List Ch→Prop):(exCode Tryz.prog {} 400 (theLoop Tryz.f86 0) (heldShareH ao n cap (.int (j:Int)) (.int (mk k0 2 0 j)) g) (heldShareT ao n k0) (loopK NX kx))=(
 (fun a:SV=>(fun b:Int=>(fun c:SV=>(fun d:SV=>(fun h:SV=>(fun k:SV=>(fun l:SV=>(fun m:SV=>(fun o:Bool=>(fun p:SV=>(fun q:SV=>(fun r:Bool=>(fun s:Bool=>(fun t:Prop=>(fun u:List Ch=>(s=true→ao=ao∧n=n∧t∧ao=ao∧j<n∧ao=ao∧j<n∧(o=true→kx Exit.ret [d,h,vV (g 2),vV (g 3),lV (-1),l,l,d,k,tV,vV (g 10),vV (g 11),d,l,c,c,h,h,tV,vV (g 19),vV (g 20),vV (g 21),vV (g 22),vV (g 23),vV (g 24),vV (g 25),vV (g 26),vV (g 27),vV (g 28),vV (g 29),a] u)∧(o=false→rng (b+(1:Int))∧ao=ao∧n=n∧t∧ao=ao∧j<n∧ao=ao∧j<n∧(r=true→kx Exit.ret [d,m,vV (g 2),vV (g 3),lV (-1),l,l,d,k,tV,vV (g 10),vV (g 11),d,l,c,c,h,h,fV,h,m,d,l,c,rV 0 ao 2 j 1,iV (mk k0 2 1 j),m,tV,vV (g 28),vV (g 29),a] u)∧(r=false→rng ((b+(1:Int))+(1:Int))∧rng (((j:Nat):Int)+(1:Int))∧NX [d,q,vV (g 2),vV (g 3),lV 0,p,l,d,k,tV,l,p,d,l,c,c,h,h,fV,h,m,d,l,c,rV 0 ao 2 j 1,iV (mk k0 2 1 j),m,fV,m,q,a] u)))∧(s=false→kx (Exit.exit 0) [d,h,vV (g 2),vV (g 3),lV 0,l,l,d,k,fV,vV (g 10),vV (g 11),vV (g 12),vV (g 13),vV (g 14),vV (g 15),vV (g 16),vV (g 17),vV (g 18),vV (g 19),vV (g 20),vV (g 21),vV (g 22),vV (g 23),vV (g 24),vV (g 25),vV (g 26),vV (g 27),vV (g 28),vV (g 29),a] u)) [Hr false ao 0 2 n 0 [fun u=>Ci (mk k0 2 0 u),fun u=>Ci (mk k0 2 1 u)]]) (0≤((j:Nat):Int)∧((j:Nat):Int)<((n:Nat):Int))) (decide (((j:Nat):Int)<((n:Nat):Int)))) ((mk k0 2 1 j) != (b+(1:Int)))) (iV ((b+(1:Int))+(1:Int)))) (iV (((j:Nat):Int)+(1:Int)))) (b != b)) (iV (b+(1:Int)))) (iV ((j:Nat):Int))) (iV ((n:Nat):Int))) (iV b)) (sV 0 ao n cap)) (rV 0 ao 2 j 0)) (mk k0 2 0 j)) (vV (g 30))):=by kernel_rfl
theorem heldShareL_ok (ao:Option Addr)(n cap:Nat)(k0:Int)(hn:n≤2097152∧0≤k0∧k0≤1099511627776)(X:Cx):LoopOK Tryz.prog X (theLoop Tryz.f86 0) (sHeldShareL ao n cap k0):=by
 intro ts ch k a w hS hT hd hs
 obtain ⟨⟨h1,rfl⟩,hk⟩:=hS
 refine loop_ok mixed (E:={}) trivial (loopsOK_nil _ _ _) 400 n (fun j ts ch=>∃ g,ts=heldShareH ao n cap (.int (j:Int)) (.int (mk k0 2 0 j)) g∧ch=heldShareT ao n k0) ?_ ?_ hT hd hs
 ·rintro j _ _ ⟨g,rfl,rfl⟩ hj
  refine (@Eq.mpr _ _ (heldShareB ao n cap k0 j g _ _) ?_)
  dsimp -zeta -proj -iota -eta -failIfUnchanged (etaStruct:=.none) only
  have hb:=mk_bound (s:=2) (c:=0) hn hj (by omega) (by omega)
  refine ⟨fun hlt=>?_,fun hge=>?_⟩
  ·have hlt':j<n:=by simpa using hlt
   have hjn:(0:Int)≤(j:Int)∧(j:Int)<(n:Int):=⟨by omega,by omega⟩
   have hnx:=mk_next k0 2 j
   repeat' (first | exact rfl | exact True.intro | assumption | refine And.intro ?_ ?_ | omega | (intro hne;exfalso;simp [mk] at hne;omega) | (intro hne;exfalso;simp [mk] at hne;done) | intro _)
   refine Next.mk (fun g=>heldShareH ao n cap (.int ((j+1:Nat):Int)) (.int (mk k0 2 0 (j+1))) g) _ ⟨_,rfl,rfl⟩ ?_ fun w hw=>hw
   rw [hnx]
   simp [heldShareH,SV.den,SA.den,SC.den]
   try omega
  ·have hjn:j=n:=by have:¬ (j<n):=by simpa using hge
                    omega
   subst hjn
   exact Next.mk (fun g=>heldShareH ao j cap (.int (j:Int)) (.int (mk k0 2 0 j)) g) _ (hk _) rfl fun w hw=>hw
 ·refine Next.mk (fun g=>heldShareH ao n cap (.int ((0:Nat):Int)) (.int (mk k0 2 0 0)) g) _ ⟨_,rfl,rfl⟩ ?_ fun w hw=>hw
  rw [h1]
  simp [heldShareH,SV.den,SA.den,SC.den,mk]
theorem heldShareS_T (ao:Option Addr)(n cap:Nat)(k0:Int):(exFn Tryz.prog {L:=[(2,sHeldShareL ao n cap k0)]} 400 Tryz.f86 ([.a (.c (.sl 0 ao n cap)),.a (.c (.int k0))]) (heldShareT ao n k0) (fun v _=>v.den=.int .i64 (mk k0 2 0 n)))=(
 ([Ws ao n cap,Wi k0,Wu [],Wu [],Wi 0,Wi 0,Wu [],Wu [],Wu [],Wu [],Wu [],Wu [],Wu [],Wu [],Wu [],Wu [],Wu [],Wu [],Wu [],Wu [],Wu [],Wu [],Wu [],Wu [],Wu [],Wu [],Wu [],Wu [],Wu [],Wu [],Wu []]=[Ws ao n cap,Wi k0,Wu [],Wu [],Wi 0,Wi 0,Wu [],Wu [],Wu [],Wu [],Wu [],Wu [],Wu [],Wu [],Wu [],Wu [],Wu [],Wu [],Wu [],Wu [],Wu [],Wu [],Wu [],Wu [],Wu [],Wu [],Wu [],Wu [],Wu [],Wu [],Wu []]∧[Hr false ao 0 2 n 0 [fun b=>Ci (mk k0 2 0 b),fun b=>Ci (mk k0 2 1 b)]]=[Hr false ao 0 2 n 0 [fun b=>Ci (mk k0 2 0 b),fun b=>Ci (mk k0 2 1 b)]])∧∀ b:Nat→Value,(Wi (mk k0 2 0 n))=(Wi (mk k0 2 0 n))):=by kernel_rfl
theorem heldShareS_any (ao:Option Addr)(n cap:Nat)(k0:Int)(w:World)(hn:n≤2097152∧0≤k0∧k0≤1099511627776)(h:Row.sat w ⟨false,ao,0,2,n,0,[fun i=>.int (mk k0 2 0 i),fun i=>.int (mk k0 2 1 i)]⟩) :
  Calls Tryz.prog 86 #[.slice ao n cap,.int .i64 k0] w fun e w'=>e=.returned (.int .i64 (mk k0 2 0 n))∧Below w.heap.size w w':=by
 refine fn_ok mixed (E:={ L:=[(2,sHeldShareL ao n cap k0)] }) trivial Tryz.func86 (one_loop (by kernel_rfl) (by kernel_rfl) (heldShareL_ok ao n cap k0 hn _)) (@Eq.mpr _ _ (heldShareS_T ao n cap k0) ?_) (HS.rows (fun _=>False) [⟨false,ao,0,2,n,0,[fun i=>.int (mk k0 2 0 i),fun i=>.int (mk k0 2 1 i)]⟩] (by simpa using h)) (fun v ch' w' hv hs=>⟨by rw [hv],hs.below⟩)
 refine ⟨⟨rfl,rfl⟩,?_⟩
 intros
 rfl
def sHeldShareS:Sm:=fun args ch k =>
 match args with
 | [.a (.c (.sl id ao n _)),.a (.c kc)] =>
  match ch[id]?,asI kc with
  | some (.row r),some k0=>(ao=r.ao∧n=r.n∧r.fld=[fun i=>.int (mk k0 2 0 i),fun i=>.int (mk k0 2 1 i)]∧markC n k0)∧k (.a (.c (.int (mk k0 2 0 n)))) ch []
  | _,_=>False
 | _=>False
theorem sHeldShareS_ok:SmOK Tryz.prog 86 sHeldShareS:=by
 refine smB Tryz.call86 fun args ch k w X h0 hs=>?_
 unfold sHeldShareS at h0
 split at h0
 ·rename_i id ao n cap kc
  split at h0
  ·rename_i r k0 hid hkc
   obtain ⟨⟨rfl,rfl,hf,hn⟩,h0⟩:=h0
   refine ⟨_,h0,?_⟩
   simp only [List.map_cons,List.map_nil,den_a,den_c,asI_den hkc]
   exact heldShareS_any r.ao r.n cap k0 w hn (Row.seenAs (hs.sat id _ hid) hf rfl)
  ·exact h0.elim
 ·exact h0.elim
def mkB (k:Int)(i:Nat):Bool:=ieq (imod (mk k 2 0 i) 3) 0
theorem mkB_low (k:Int)(f:Nat→Bool)(i j:Nat):selB i j (mkB k j) (lowB i j (mkB k i) (f i))=lowB i (j+1) (mkB k i) (f i):=by
 simp only [selB,lowB]
 by_cases e:i=j
 ·rw [if_pos e,if_pos (by omega),e]
 ·rw [if_neg e]
  by_cases l:i<j
  ·rw [if_pos l,if_pos (by omega)]
  ·rw [if_neg l,if_neg (by omega)]
def markBankH (ao:Option Addr)(n cap:Nat)(i kk:SC)(g:Nat→Value):List SV:=hdN [(0,.a (.c (.sl 0 ao n cap))),(1,.a (.c kk)),(5,.a (.c i))] g 0 29
def markBankT (ao:Option Addr)(t n rc:Nat)(fs:List (Nat→SC)):List Ch:=[.row ⟨true,ao,t,2,n,rc,fs⟩]
def sMarkBankL (ao:Option Addr)(t n rc cap:Nat)(g0:Nat→Bool)(g1:Nat→Int)(k0:Int):LSm:=fun ts ch k =>
 (ts.map SV.den=(markBankH ao n cap (.il 0) (.int k0) (fun d=>(ts.getD d .undef).den)).map SV.den∧ch=markBankT ao t n rc [fun i=>.bool (g0 i),fun i=>.int (g1 i)]) ∧
  ∀ g,k (.exit 0) (markBankH ao n cap (.int (n:Int)) (.int (mk k0 2 0 n)) g) (markBankT ao t n rc [fun i=>.bool (mkB k0 i),fun i=>.int (mk k0 2 1 i)])
theorem markBankB (ao:Option Addr)(t n rc cap:Nat)(g0:Nat→Bool)(g1:Nat→Int)(k0:Int)(j:Nat)(g:Nat→Value)(NX:List SV→List Ch→Prop)(kx:Exit→List SV→List Ch→Prop):(exCode Tryz.prog {} 400 (theLoop Tryz.f122 0) (markBankH ao n cap (.int (j:Int)) (.int (mk k0 2 0 j)) g) (markBankT ao t n rc [fun i=>.bool (lowB i j (mkB k0 i) (g0 i)),fun i=>.int (lowI i j (mk k0 2 1 i) (g1 i))]) (loopK NX kx))=(
 (fun a:Int=>(fun b:SV=>(fun c:SV=>(fun d:SV=>(fun h:SV=>(fun k:SV=>(fun l:SV=>(fun m:Bool=>(fun o:SV=>(fun p:Bool=>(fun q:Prop=>(p=true→divC a (3:Int)∧ao=ao∧n=n∧q∧ao=ao∧j<n∧ao=ao∧j<n∧rng (a+(1:Int))∧ao=ao∧n=n∧q∧ao=ao∧j<n∧ao=ao∧j<n∧rng ((a+(1:Int))+(1:Int))∧rng (((j:Nat):Int)+(1:Int))∧NX [c,o,vV (g 2),vV (g 3),vV (g 4),l,h,c,iV ((n:Nat):Int),tV,h,l,c,h,d,iV (a % (3:Int)),bV m,b,b,d,k,c,h,k,b,rV 0 ao 2 j 1,k,o,vV (g 28)] [Hr true ao t 2 n rc [fun r=>Cb (if r=j then m else (if r<j then (mkB k0 r) else (g0 r))),fun r=>Ci (if r=j then (a+(1:Int)) else (if r<j then (mk k0 2 1 r) else (g1 r)))]])∧(p=false→kx (Exit.exit 0) [c,d,vV (g 2),vV (g 3),vV (g 4),h,h,c,iV ((n:Nat):Int),fV,vV (g 10),vV (g 11),vV (g 12),vV (g 13),vV (g 14),vV (g 15),vV (g 16),vV (g 17),vV (g 18),vV (g 19),vV (g 20),vV (g 21),vV (g 22),vV (g 23),vV (g 24),vV (g 25),vV (g 26),vV (g 27),vV (g 28)] [Hr true ao t 2 n rc [fun r=>Cb (if r<j then (mkB k0 r) else (g0 r)),fun r=>Ci (if r<j then (mk k0 2 1 r) else (g1 r))]])) (0≤((j:Nat):Int)∧((j:Nat):Int)<((n:Nat):Int))) (decide (((j:Nat):Int)<((n:Nat):Int)))) (iV ((a+(1:Int))+(1:Int)))) ((a % (3:Int)) == (0:Int))) (iV (((j:Nat):Int)+(1:Int)))) (iV (a+(1:Int)))) (iV ((j:Nat):Int))) (iV a)) (sV 0 ao n cap)) (rV 0 ao 2 j 0)) (mk k0 2 0 j)):=by kernel_rfl
theorem markBankL_ok (ao:Option Addr)(t n rc cap:Nat)(g0:Nat→Bool)(g1:Nat→Int)(k0:Int)(hn:n≤2097152∧0≤k0∧k0≤1099511627776)(X:Cx):LoopOK Tryz.prog X (theLoop Tryz.f122 0) (sMarkBankL ao t n rc cap g0 g1 k0):=by
 intro ts ch k a w hS hT hd hs
 obtain ⟨⟨h1,rfl⟩,hk⟩:=hS
 refine loop_ok mixed (E:={}) trivial (loopsOK_nil _ _ _) 400 n (fun j ts ch=>∃ g,ts=markBankH ao n cap (.int (j:Int)) (.int (mk k0 2 0 j)) g∧ch=markBankT ao t n rc [fun i=>.bool (lowB i j (mkB k0 i) (g0 i)),fun i=>.int (lowI i j (mk k0 2 1 i) (g1 i))]) ?_ ?_ hT hd hs
 ·rintro j _ _ ⟨g,rfl,rfl⟩ hj
  refine (@Eq.mpr _ _ (markBankB ao t n rc cap g0 g1 k0 j g _ _) ?_)
  dsimp -zeta -proj -iota -eta -failIfUnchanged (etaStruct:=.none) only
  have hb:=mk_bound (s:=2) (c:=0) hn hj (by omega) (by omega)
  refine ⟨fun hlt=>?_,fun hge=>?_⟩
  ·have hlt':j<n:=by simpa using hlt
   have hjn:(0:Int)≤(j:Int)∧(j:Int)<(n:Int):=⟨by omega,by omega⟩
   have hnx:=mk_next k0 2 j
   repeat' (first | exact rfl | exact True.intro | assumption | refine And.intro ?_ ?_ | omega)
   refine Next.mk (fun g=>markBankH ao n cap (.int ((j+1:Nat):Int)) (.int (mk k0 2 0 (j+1))) g) _ ⟨_,rfl,rfl⟩ ?_ fun w hw=>hw.re 0 _ rfl [fun i=>.bool (lowB i (j+1) (mkB k0 i) (g0 i)),fun i=>.int (lowI i (j+1) (mk k0 2 1 i) (g1 i))] ?_
   ·rw [hnx]
    simp [markBankH,hdN,hdL,SV.den,SA.den,SC.den]
    try omega
   ·exact ⟨fun i _=>congrArg Value.bool (mkB_low k0 g0 i j),fun i _=>congrArg (Value.int .i64) (mk_low k0 2 1 g1 i j _ (by first | rfl | (simp only [mk];omega))),trivial⟩
  ·have hjn:j=n:=by have:¬ (j<n):=by simpa using hge
                    omega
   subst hjn
   exact Next.mk (fun g=>markBankH ao j cap (.int (j:Int)) (.int (mk k0 2 0 j)) g) _ (hk _) rfl fun w hw=>hw.re 0 _ rfl [fun i=>.bool (mkB k0 i),fun i=>.int (mk k0 2 1 i)] ⟨fun i hi=>by simp only [SC.den,lowB];rw [if_pos hi],fun i hi=>by simp only [SC.den,lowI];rw [if_pos hi],trivial⟩
 ·refine Next.mk (fun g=>markBankH ao n cap (.int ((0:Nat):Int)) (.int (mk k0 2 0 0)) g) _ ⟨_,rfl,rfl⟩ ?_ fun w hw=>hw.re 0 _ rfl [fun i=>.bool (lowB i 0 (mkB k0 i) (g0 i)),fun i=>.int (lowI i 0 (mk k0 2 1 i) (g1 i))] ⟨fun i hi=>by simp [SC.den,lowB],fun i hi=>by simp [SC.den,lowI],trivial⟩
  rw [h1]
  simp [markBankH,hdN,hdL,SV.den,SA.den,SC.den,mk]
theorem markBankS_T (ao:Option Addr)(t n rc cap:Nat)(g0:Nat→Bool)(g1:Nat→Int)(k0:Int):(exFn Tryz.prog {L:=[(2,sMarkBankL ao t n rc cap g0 g1 k0)]} 400 Tryz.f122 ([.a (.c (.sl 0 ao n cap)),.a (.c (.int k0))]) (markBankT ao t n rc [fun i=>.bool (g0 i),fun i=>.int (g1 i)]) (fun v ch=>v.den=.int .i64 (mk k0 2 0 n)∧ch[0]?=some (.row ⟨true,ao,t,2,n,rc,[fun i=>.bool (mkB k0 i),fun i=>.int (mk k0 2 1 i)]⟩)))=(
 ([Ws ao n cap,Wi k0,Wu [],Wu [],Wi 0,Wi 0,Wu [],Wu [],Wu [],Wu [],Wu [],Wu [],Wu [],Wu [],Wu [],Wu [],Wu [],Wu [],Wu [],Wu [],Wu [],Wu [],Wu [],Wu [],Wu [],Wu [],Wu [],Wu [],Wu []]=[Ws ao n cap,Wi k0,Wu [],Wu [],Wi 0,Wi 0,Wu [],Wu [],Wu [],Wu [],Wu [],Wu [],Wu [],Wu [],Wu [],Wu [],Wu [],Wu [],Wu [],Wu [],Wu [],Wu [],Wu [],Wu [],Wu [],Wu [],Wu [],Wu [],Wu []]∧[Hr true ao t 2 n rc [fun b=>Cb (g0 b),fun b=>Ci (g1 b)]]=[Hr true ao t 2 n rc [fun b=>Cb (g0 b),fun b=>Ci (g1 b)]])∧∀ b:Nat→Value,(Wi (mk k0 2 0 n))=(Wi (mk k0 2 0 n))∧(Option.some (Hr true ao t 2 n rc [fun d=>Cb (mkB k0 d),fun d=>Ci (mk k0 2 1 d)]))=(Option.some (Hr true ao t 2 n rc [fun d=>Cb (mkB k0 d),fun d=>Ci (mk k0 2 1 d)]))):=by kernel_rfl
theorem markBankS_any (ao:Option Addr)(t n rc cap:Nat)(g0:Nat→Bool)(g1:Nat→Int)(k0:Int)(w:World)(hn:n≤2097152∧0≤k0∧k0≤1099511627776)(h:Row.sat w ⟨true,ao,t,2,n,rc,[fun i=>.bool (g0 i),fun i=>.int (g1 i)]⟩) :
  Calls Tryz.prog 122 #[.slice ao n cap,.int .i64 k0] w fun e w'=>e=.returned (.int .i64 (mk k0 2 0 n))∧HS ⟨w,(Ch.row ⟨true,ao,t,2,n,rc,[fun i=>.bool (g0 i),fun i=>.int (g1 i)]⟩).at⟩ [.row ⟨true,ao,t,2,n,rc,[fun i=>.bool (mkB k0 i),fun i=>.int (mk k0 2 1 i)]⟩] w':=by
 refine fn_ok mixed (E:={ L:=[(2,sMarkBankL ao t n rc cap g0 g1 k0)] }) trivial Tryz.func122 (one_loop (by kernel_rfl) (by kernel_rfl) (markBankL_ok ao t n rc cap g0 g1 k0 hn _)) (@Eq.mpr _ _ (markBankS_T ao t n rc cap g0 g1 k0) ?_) (HS.one h) (fun v ch' w' ⟨hv,hc⟩ hs=>⟨by rw [hv],?_⟩)
 ·refine ⟨⟨rfl,rfl⟩,?_⟩
  intros
  exact ⟨rfl,rfl⟩
 ·have:=hs.sel [0] (by simp)
  simpa [selC,hc] using this
def sMarkBankS:Sm:=fun args ch k =>
 match args with
 | [.a (.c (.sl id ao n _)),.a (.c kc)] =>
  match ch[id]?,asI kc with
  | some (.row r),some k0 =>
   match r.own with
   | true=>∃ g0:Nat→Bool,∃ g1:Nat→Int,(ao=r.ao∧n=r.n∧r.fld=[fun i=>.bool (g0 i),fun i=>.int (g1 i)]∧markC n k0)∧k (.a (.c (.int (mk k0 2 0 n)))) (ch.set id (.row { r with fld:=[fun i=>.bool (mkB k0 i),fun i=>.int (mk k0 2 1 i)] })) [id]
   | false=>False
  | _,_=>False
 | _=>False
theorem sMarkBankS_ok:SmOK Tryz.prog 122 sMarkBankS:=by
 refine smTurn Tryz.call122 fun args ch k w X h0 hs=>?_
 unfold sMarkBankS at h0
 split at h0
 ·rename_i id ao n cap kc
  split at h0
  ·rename_i r k0 hid hkc
   split at h0
   ·rename_i ho
    obtain ⟨g0,g1,⟨rfl,rfl,hf,hn⟩,h0⟩:=h0
    have hr:r.sat w:=hs.sat id _ hid
    have hs':r.s=2:=by have:=hr.1;rw [hf] at this;exact this.symm
    obtain ⟨ow,ao,t,s',n,rc,fs⟩:=r
    simp only at hf ho hs' hr h0 hn
    subst hf
    subst ho
    subst hs'
    refine ⟨_,id,_,[fun i=>.bool (mkB k0 i),fun i=>.int (mk k0 2 1 i)],hid,rfl,h0,?_⟩
    simp only [List.map_cons,List.map_nil,den_a,den_c,asI_den hkc]
    exact markBankS_any ao t n rc cap g0 g1 k0 w hn hr
   ·exact h0.elim
  ·exact h0.elim
 ·exact h0.elim
def heldBankH (ao:Option Addr)(n cap:Nat)(i kk:SC)(g:Nat→Value):List SV:=hdN [(0,.a (.c (.sl 0 ao n cap))),(1,.a (.c kk)),(4,.a (.c (.il 0))),(5,.a (.c i))] g 0 33
def heldBankT (ao:Option Addr)(n:Nat)(k0:Int):List Ch:=[.row ⟨false,ao,0,2,n,0,[fun i=>.bool (mkB k0 i),fun i=>.int (mk k0 2 1 i)]⟩]
def sHeldBankL (ao:Option Addr)(n cap:Nat)(k0:Int):LSm:=fun ts ch k =>
 (ts.map SV.den=(heldBankH ao n cap (.il 0) (.int k0) (fun d=>(ts.getD d .undef).den)).map SV.den∧ch=heldBankT ao n k0) ∧
  ∀ g,k (.exit 0) (heldBankH ao n cap (.int (n:Int)) (.int (mk k0 2 0 n)) g) (heldBankT ao n k0)
theorem heldBankB (ao:Option Addr)(n cap:Nat)(k0:Int)(j:Nat)(g:Nat→Value)(NX:List SV→List Ch→Prop)(kx:Exit→List SV→List Ch→Prop):(exCode Tryz.prog {} 400 (theLoop Tryz.f125 0) (heldBankH ao n cap (.int (j:Int)) (.int (mk k0 2 0 j)) g) (heldBankT ao n k0) (loopK NX kx))=(
 (fun a:SV=>(fun b:Int=>(fun c:SV=>(fun d:SV=>(fun h:SV=>(fun k:SV=>(fun l:SV=>(fun m:SV=>(fun o:SV=>(fun p:SV=>(fun q:SV=>(fun r:Bool=>(fun s:SV=>(fun t:Bool=>(fun u:SV=>(fun v:Bool=>(fun w:Bool=>(fun x:Prop=>(fun y:List Ch=>(v=true→ao=ao∧n=n∧x∧ao=ao∧j<n∧ao=ao∧j<n∧divC b (3:Int)∧(w=true→kx Exit.ret [h,k,vV (g 2),vV (g 3),lV (-1),m,m,h,l,tV,vV (g 10),vV (g 11),h,m,d,d,c,k,p,u,tV,vV (g 21),vV (g 22),vV (g 23),vV (g 24),vV (g 25),vV (g 26),vV (g 27),vV (g 28),vV (g 29),vV (g 30),vV (g 31),a] y)∧(w=false→rng (b+(1:Int))∧ao=ao∧n=n∧x∧ao=ao∧j<n∧ao=ao∧j<n∧(t=true→kx Exit.ret [h,o,vV (g 2),vV (g 3),lV (-1),m,m,h,l,tV,vV (g 10),vV (g 11),h,m,d,d,c,k,p,u,fV,k,o,h,m,d,rV 0 ao 2 j 1,iV (mk k0 2 1 j),o,tV,vV (g 30),vV (g 31),a] y)∧(t=false→rng ((b+(1:Int))+(1:Int))∧rng (((j:Nat):Int)+(1:Int))∧NX [h,s,vV (g 2),vV (g 3),lV 0,q,m,h,l,tV,m,q,h,m,d,d,c,k,p,u,fV,k,o,h,m,d,rV 0 ao 2 j 1,iV (mk k0 2 1 j),o,fV,o,s,a] y)))∧(v=false→kx (Exit.exit 0) [h,k,vV (g 2),vV (g 3),lV 0,m,m,h,l,fV,vV (g 10),vV (g 11),vV (g 12),vV (g 13),vV (g 14),vV (g 15),vV (g 16),vV (g 17),vV (g 18),vV (g 19),vV (g 20),vV (g 21),vV (g 22),vV (g 23),vV (g 24),vV (g 25),vV (g 26),vV (g 27),vV (g 28),vV (g 29),vV (g 30),vV (g 31),a] y)) [Hr false ao 0 2 n 0 [fun y=>Cb (mkB k0 y),fun y=>Ci (mk k0 2 1 y)]]) (0≤((j:Nat):Int)∧((j:Nat):Int)<((n:Nat):Int))) ((mkB k0 j) != r)) (decide (((j:Nat):Int)<((n:Nat):Int)))) (bV r)) ((mk k0 2 1 j) != (b+(1:Int)))) (iV ((b+(1:Int))+(1:Int)))) ((b % (3:Int)) == (0:Int))) (iV (((j:Nat):Int)+(1:Int)))) (iV (b % (3:Int)))) (iV (b+(1:Int)))) (iV ((j:Nat):Int))) (iV ((n:Nat):Int))) (iV b)) (sV 0 ao n cap)) (rV 0 ao 2 j 0)) (bV (mkB k0 j))) (mk k0 2 0 j)) (vV (g 32))):=by kernel_rfl
theorem heldBankL_ok (ao:Option Addr)(n cap:Nat)(k0:Int)(hn:n≤2097152∧0≤k0∧k0≤1099511627776)(X:Cx):LoopOK Tryz.prog X (theLoop Tryz.f125 0) (sHeldBankL ao n cap k0):=by
 intro ts ch k a w hS hT hd hs
 obtain ⟨⟨h1,rfl⟩,hk⟩:=hS
 refine loop_ok mixed (E:={}) trivial (loopsOK_nil _ _ _) 400 n (fun j ts ch=>∃ g,ts=heldBankH ao n cap (.int (j:Int)) (.int (mk k0 2 0 j)) g∧ch=heldBankT ao n k0) ?_ ?_ hT hd hs
 ·rintro j _ _ ⟨g,rfl,rfl⟩ hj
  refine (@Eq.mpr _ _ (heldBankB ao n cap k0 j g _ _) ?_)
  dsimp -zeta -proj -iota -eta -failIfUnchanged (etaStruct:=.none) only
  have hb:=mk_bound (s:=2) (c:=0) hn hj (by omega) (by omega)
  refine ⟨fun hlt=>?_,fun hge=>?_⟩
  ·have hlt':j<n:=by simpa using hlt
   have hjn:(0:Int)≤(j:Int)∧(j:Int)<(n:Int):=⟨by omega,by omega⟩
   have hnx:=mk_next k0 2 j
   repeat' (first | exact rfl | exact True.intro | assumption | refine And.intro ?_ ?_ | omega | (intro hne;exfalso;simp [mkB,ieq,imod] at hne;done) | (intro hne;exfalso;simp [mk] at hne;omega) | (intro hne;exfalso;simp [mk] at hne;done) | intro _)
   refine Next.mk (fun g=>heldBankH ao n cap (.int ((j+1:Nat):Int)) (.int (mk k0 2 0 (j+1))) g) _ ⟨_,rfl,rfl⟩ ?_ fun w hw=>hw
   rw [hnx]
   simp [heldBankH,hdN,hdL,SV.den,SA.den,SC.den]
   try omega
  ·have hjn:j=n:=by have:¬ (j<n):=by simpa using hge
                    omega
   subst hjn
   exact Next.mk (fun g=>heldBankH ao j cap (.int (j:Int)) (.int (mk k0 2 0 j)) g) _ (hk _) rfl fun w hw=>hw
 ·refine Next.mk (fun g=>heldBankH ao n cap (.int ((0:Nat):Int)) (.int (mk k0 2 0 0)) g) _ ⟨_,rfl,rfl⟩ ?_ fun w hw=>hw
  rw [h1]
  simp [heldBankH,hdN,hdL,SV.den,SA.den,SC.den,mk]
theorem heldBankS_T (ao:Option Addr)(n cap:Nat)(k0:Int):(exFn Tryz.prog {L:=[(2,sHeldBankL ao n cap k0)]} 400 Tryz.f125 ([.a (.c (.sl 0 ao n cap)),.a (.c (.int k0))]) (heldBankT ao n k0) (fun v _=>v.den=.int .i64 (mk k0 2 0 n)))=(
 ([Ws ao n cap,Wi k0,Wu [],Wu [],Wi 0,Wi 0,Wu [],Wu [],Wu [],Wu [],Wu [],Wu [],Wu [],Wu [],Wu [],Wu [],Wu [],Wu [],Wu [],Wu [],Wu [],Wu [],Wu [],Wu [],Wu [],Wu [],Wu [],Wu [],Wu [],Wu [],Wu [],Wu [],Wu []]=[Ws ao n cap,Wi k0,Wu [],Wu [],Wi 0,Wi 0,Wu [],Wu [],Wu [],Wu [],Wu [],Wu [],Wu [],Wu [],Wu [],Wu [],Wu [],Wu [],Wu [],Wu [],Wu [],Wu [],Wu [],Wu [],Wu [],Wu [],Wu [],Wu [],Wu [],Wu [],Wu [],Wu [],Wu []]∧[Hr false ao 0 2 n 0 [fun b=>Cb (mkB k0 b),fun b=>Ci (mk k0 2 1 b)]]=[Hr false ao 0 2 n 0 [fun b=>Cb (mkB k0 b),fun b=>Ci (mk k0 2 1 b)]])∧∀ b:Nat→Value,(Wi (mk k0 2 0 n))=(Wi (mk k0 2 0 n))):=by kernel_rfl
theorem heldBankS_any (ao:Option Addr)(n cap:Nat)(k0:Int)(w:World)(hn:n≤2097152∧0≤k0∧k0≤1099511627776)(h:Row.sat w ⟨false,ao,0,2,n,0,[fun i=>.bool (mkB k0 i),fun i=>.int (mk k0 2 1 i)]⟩) :
  Calls Tryz.prog 125 #[.slice ao n cap,.int .i64 k0] w fun e w'=>e=.returned (.int .i64 (mk k0 2 0 n))∧Below w.heap.size w w':=by
 refine fn_ok mixed (E:={ L:=[(2,sHeldBankL ao n cap k0)] }) trivial Tryz.func125 (one_loop (by kernel_rfl) (by kernel_rfl) (heldBankL_ok ao n cap k0 hn _)) (@Eq.mpr _ _ (heldBankS_T ao n cap k0) ?_) (HS.rows (fun _=>False) [⟨false,ao,0,2,n,0,[fun i=>.bool (mkB k0 i),fun i=>.int (mk k0 2 1 i)]⟩] (by simpa using h)) (fun v ch' w' hv hs=>⟨by rw [hv],hs.below⟩)
 refine ⟨⟨rfl,rfl⟩,?_⟩
 intros
 rfl
def sHeldBankS:Sm:=fun args ch k =>
 match args with
 | [.a (.c (.sl id ao n _)),.a (.c kc)] =>
  match ch[id]?,asI kc with
  | some (.row r),some k0=>(ao=r.ao∧n=r.n∧r.fld=[fun i=>.bool (mkB k0 i),fun i=>.int (mk k0 2 1 i)]∧markC n k0)∧k (.a (.c (.int (mk k0 2 0 n)))) ch []
  | _,_=>False
 | _=>False
theorem sHeldBankS_ok:SmOK Tryz.prog 125 sHeldBankS:=by
 refine smB Tryz.call125 fun args ch k w X h0 hs=>?_
 unfold sHeldBankS at h0
 split at h0
 ·rename_i id ao n cap kc
  split at h0
  ·rename_i r k0 hid hkc
   obtain ⟨⟨rfl,rfl,hf,hn⟩,h0⟩:=h0
   refine ⟨_,h0,?_⟩
   simp only [List.map_cons,List.map_nil,den_a,den_c,asI_den hkc]
   exact heldBankS_any r.ao r.n cap k0 w hn (Row.seenAs (hs.sat id _ hid) hf rfl)
  ·exact h0.elim
 ·exact h0.elim
end Go.Proofs.YtbhfabaofhhkeaaGreat

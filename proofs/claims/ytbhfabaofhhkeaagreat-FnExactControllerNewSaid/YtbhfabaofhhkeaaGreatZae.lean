/-
  FnExactControllerNew: a part of the walk (merged and squeezed by program: SxSlA).
-/
import Derived.Test.YtbhfabaofhhkeaaGreatZac
namespace Go.Proofs.YtbhfabaofhhkeaaGreat
set_option linter.unusedVariables false
set_option linter.unusedSimpArgs false
open Go.RowKit
set_option maxRecDepth 100000
def toIntH (ao:Option Addr)(n cap b:Nat)(i:SC)(g:Nat→Value):List SV:=[.a (.c (.sl 0 ao n cap)),.a (.c (.val (g 1))),.a (.c (.val (g 2))),.a (.c (.sl 1 (some ⟨b,0,none⟩) n n)),.a (.c i),.a (.c (.val (g 5))),.a (.c (.val (g 6))),.a (.c (.val (g 7))),.a (.c (.val (g 8))),.a (.c (.val (g 9))),.a (.c (.val (g 10))),.a (.c (.val (g 11))),.a (.c (.val (g 12))),.a (.c (.val (g 13))),.a (.c (.val (g 14))),.a (.c (.val (g 15))),.a (.c (.val (g 16))),.a (.c (.val (g 17))),.a (.c (.val (g 18))),.a (.c (.val (g 19))),.a (.c (.val (g 20))),.a (.c (.val (g 21)))]
def toIntT (ao:Option Addr)(n b:Nat)(g0:Nat→Int)(fs:List (Nat→SC)):List Ch:=[.row ⟨false,ao,0,1,n,0,[fun i=>.int (g0 i)]⟩,.row ⟨true,some ⟨b,0,none⟩,3,1,n,n,fs⟩]
def sToIntL (ao:Option Addr)(n cap:Nat)(g0:Nat→Int):LSm:=fun ts ch k =>
 ∃ b,(ts.map SV.den=(toIntH ao n cap b (.il 0) (fun d=>(ts.getD d .undef).den)).map SV.den∧ch=toIntT ao n b g0 [fun _=>.il 0]) ∧
  ∀ g,k (.exit 0) (toIntH ao n cap b (.int (n:Int)) g) (toIntT ao n b g0 [fun i=>.int (g0 i)])
theorem toIntB (ao:Option Addr)(n cap b j:Nat)(g0:Nat→Int)(g:Nat→Value)(NX:List SV→List Ch→Prop)(kx:Exit→List SV→List Ch→Prop):(exCode Tryz.prog {} 400 (theLoop Tryz.f30 0) (toIntH ao n cap b (.int (j:Int)) g) (toIntT ao n b g0 [fun i=>.int (lowI i j (g0 i) 0)]) (loopK NX kx))=(
 (fun a:Option Addr=>(fun c:SV=>(fun d:SV=>(fun h:SV=>(fun k:SV=>(fun l:Ch=>(fun m:Bool=>(fun o:Prop=>(m=true→ao=ao∧n=n∧o∧ao=ao∧j<n∧a=a∧n=n∧o∧a=a∧j<n∧rng (((j:Nat):Int)+(1:Int))∧NX [c,vV (g 1),vV (g 2),d,k,vV (g 5),vV (g 6),vV (g 7),h,c,iV ((n:Nat):Int),tV,h,k,d,h,c,h,rV 0 ao 1 j 0,iV (g0 j),rV 1 a 1 j 0,vV (g 21)] [l,Hr true a 3 1 n n [fun p=>Ci (if p=j then (g0 j) else (if p<j then (g0 p) else (0:Int)))]])∧(m=false→kx (Exit.exit 0) [c,vV (g 1),vV (g 2),d,h,vV (g 5),vV (g 6),vV (g 7),h,c,iV ((n:Nat):Int),fV,vV (g 12),vV (g 13),vV (g 14),vV (g 15),vV (g 16),vV (g 17),vV (g 18),vV (g 19),vV (g 20),vV (g 21)] [l,Hr true a 3 1 n n [fun p=>Ci (if p<j then (g0 p) else (0:Int))]])) (0≤((j:Nat):Int)∧((j:Nat):Int)<((n:Nat):Int))) (decide (((j:Nat):Int)<((n:Nat):Int)))) (Hr false ao 0 1 n 0 [fun l=>Ci (g0 l)])) (iV (((j:Nat):Int)+(1:Int)))) (iV ((j:Nat):Int))) (sV 1 a n n)) (sV 0 ao n cap)) (Ad b 0)):=by kernel_rfl
theorem toIntL_ok (ao:Option Addr)(n cap:Nat)(g0:Nat→Int)(hn:n≤2097152)(X:Cx):LoopOK Tryz.prog X (theLoop Tryz.f30 0) (sToIntL ao n cap g0):=by
 intro ts ch k a w hS hT hd hs
 obtain ⟨b,⟨h1,rfl⟩,hk⟩:=hS
 refine loop_ok mixed (E:={}) trivial (loopsOK_nil _ _ _) 400 n (fun j ts ch=>∃ g,ts=toIntH ao n cap b (.int (j:Int)) g∧ch=toIntT ao n b g0 [fun i=>.int (lowI i j (g0 i) 0)]) ?_ ?_ hT hd hs
 ·rintro j _ _ ⟨g,rfl,rfl⟩ hj
  refine (@Eq.mpr _ _ (toIntB ao n cap b j g0 g _ _) ?_)
  dsimp -zeta -proj -iota -eta -failIfUnchanged (etaStruct:=.none) only
  refine ⟨fun hlt=>?_,fun hge=>?_⟩
  ·have hlt':j<n:=by simpa using hlt
   have hjn:(0:Int)≤(j:Int)∧(j:Int)<(n:Int):=⟨by omega,by omega⟩
   repeat' (first | exact rfl | exact True.intro | assumption | refine And.intro ?_ ?_ | omega)
   refine Next.mk (fun g=>toIntH ao n cap b (.int ((j+1:Nat):Int)) g) _ ⟨_,rfl,rfl⟩ rfl fun w hw=>hw.re 1 _ rfl [fun i=>.int (lowI i (j+1) (g0 i) 0)] ?_
   exact ⟨fun i _=>congrArg (Value.int .i64) (sel_low g0 i j),trivial⟩
  ·have hjn:j=n:=by have:¬ (j<n):=by simpa using hge
                    omega
   subst hjn
   exact Next.mk (fun g=>toIntH ao j cap b (.int (j:Int)) g) _ (hk _) rfl fun w hw=>hw.re 1 _ rfl [fun i=>.int (g0 i)] ⟨fun i hi=>by simp only [SC.den,lowI];rw [if_pos hi],trivial⟩
 ·exact Next.mk (fun g=>toIntH ao n cap b (.int ((0:Nat):Int)) g) _ ⟨_,rfl,rfl⟩ h1 fun w hw=>hw.re 1 _ rfl [fun i=>.int (lowI i 0 (g0 i) 0)] ⟨fun i hi=>by simp [SC.den,lowI],trivial⟩
theorem toIntS_T (ao:Option Addr)(n cap:Nat)(g0:Nat→Int):(exFn Tryz.prog {L:=[(3,sToIntL ao n cap g0)]} 400 Tryz.f30 ([.a (.c (.sl 0 ao n cap))]) ([.row ⟨false,ao,0,1,n,0,[fun i=>.int (g0 i)]⟩]) (fun v ch=>∃ b,v.den=.slice (some ⟨b,0,none⟩) n n∧ch[1]?=some (.row ⟨true,some ⟨b,0,none⟩,3,1,n,n,[fun i=>.int (g0 i)]⟩)))=(
 ((n:Nat):Int)=((n:Nat):Int)∧mkC 8 ((n:Nat):Int)∧∀ d:Nat,∃ g:Nat,([Ws ao n cap,Wu [],Wn,Ws (Ad d 0) n n,Wi 0,Ws ao n cap,Wi ((n:Nat):Int),Ws (Ad d 0) n n,Wu [],Wu [],Wu [],Wu [],Wu [],Wu [],Wu [],Wu [],Wu [],Wu [],Wu [],Wu [],Wu [],Wu []]=[Ws ao n cap,Wu [],Wn,Ws (Ad g 0) n n,Wi 0,Ws ao n cap,Wi ((n:Nat):Int),Ws (Ad d 0) n n,Wu [],Wu [],Wu [],Wu [],Wu [],Wu [],Wu [],Wu [],Wu [],Wu [],Wu [],Wu [],Wu [],Wu []]∧[Hr false ao 0 1 n 0 [fun h=>Ci (g0 h)],Hr true (Ad d 0) 3 1 n n [fun h=>Cl 0]]=[Hr false ao 0 1 n 0 [fun h=>Ci (g0 h)],Hr true (Ad g 0) 3 1 n n [fun h=>Cl 0]])∧∀ h:Nat→Value,∃ j:Nat,(Ws (Ad g 0) n n)=(Ws (Ad j 0) n n)∧(Option.some (Hr true (Ad g 0) 3 1 n n [fun k=>Ci (g0 k)]))=(Option.some (Hr true (Ad j 0) 3 1 n n [fun k=>Ci (g0 k)]))):=by kernel_rfl
theorem toIntS_any (ao:Option Addr)(n cap:Nat)(g0:Nat→Int)(w:World)(hn:n≤2097152)(h:Row.sat w ⟨false,ao,0,1,n,0,[fun i=>.int (g0 i)]⟩) :
  Calls Tryz.prog 30 #[.slice ao n cap] w fun e w'=>∃ b,e=.returned (.slice (some ⟨b,0,none⟩) n n)∧HS ⟨w,fun _=>False⟩ [.row ⟨true,some ⟨b,0,none⟩,3,1,n,n,[fun i=>.int (g0 i)]⟩] w':=by
 refine fn_ok mixed (E:={ L:=[(3,sToIntL ao n cap g0)] }) trivial Tryz.func30 (one_loop (by kernel_rfl) (by kernel_rfl) (toIntL_ok ao n cap g0 hn _)) (@Eq.mpr _ _ (toIntS_T ao n cap g0) ?_) (HS.rows (fun _=>False) [⟨false,ao,0,1,n,0,[fun i=>.int (g0 i)]⟩] (by simpa using h)) (fun v ch' w' ⟨b,hv,hc⟩ hs=>⟨b,by rw [hv],?_⟩)
 ·repeat' (first | exact True.intro | exact rfl | (refine ⟨by omega,by omega,by omega⟩) | (refine fun b=>⟨b,⟨rfl,rfl⟩,fun g=>⟨b,rfl,rfl⟩⟩) | refine And.intro ?_ ?_)
 ·have:=hs.sel [1] (by simp)
  simpa [selC,hc] using this
def sToIntS:Sm:=fun args ch k =>
 match args with
 | [.a (.c (.sl id ao n _))] =>
  match ch[id]? with
  | some (.row r)=>∃ g0:Nat→Int,(ao=r.ao∧n=r.n∧r.fld=[fun i=>.int (g0 i)]∧capC n) ∧
    ∀ b,k (.a (.c (.sl ch.length (some ⟨b,0,none⟩) n n))) (ch ++ [.row ⟨true,some ⟨b,0,none⟩,3,1,n,n,[fun i=>.int (g0 i)]⟩]) []
  | _=>False
 | _=>False
theorem sToIntS_ok:SmOK Tryz.prog 30 sToIntS:=by
 refine smN Tryz.call30 fun args ch k w X h0 hs=>?_
 unfold sToIntS at h0
 split at h0
 ·rename_i id ao n cap
  split at h0
  ·rename_i r hid
   obtain ⟨g0,⟨rfl,rfl,hf,hn⟩,h0⟩:=h0
   exact Calls.mono (toIntS_any r.ao r.n cap g0 w hn (Row.seenAs (hs.sat id _ hid) hf rfl)) fun e w' ⟨b,he,hs'⟩=>⟨.a (.c (.sl ch.length (some ⟨b,0,none⟩) r.n r.n)),_,he,hs',rfl,h0 b⟩
  ·exact h0.elim
 ·exact h0.elim
def eqIntH (ao bo:Option Addr)(n c d:Nat)(i:SC)(g:Nat→Value):List SV:=[.a (.c (.sl 0 ao n c)),.a (.c (.sl 1 bo n d)),.a (.c (.val (g 2))),.a (.c (.val (g 3))),.a (.c (.lit false)),.a (.c i),.a (.c (.val (g 6))),.a (.c (.val (g 7))),.a (.c (.val (g 8))),.a (.c (.val (g 9))),.a (.c (.val (g 10))),.a (.c (.val (g 11))),.a (.c (.val (g 12))),.a (.c (.val (g 13))),.a (.c (.val (g 14))),.a (.c (.val (g 15))),.a (.c (.val (g 16))),.a (.c (.val (g 17))),.a (.c (.val (g 18))),.a (.c (.val (g 19))),.a (.c (.val (g 20))),.a (.c (.val (g 21))),.a (.c (.val (g 22))),.a (.c (.val (g 23))),.a (.c (.val (g 24))),.a (.c (.val (g 25)))]
def eqIntT (ao bo:Option Addr)(n:Nat)(g0 q0:Nat→Int):List Ch:=[.row ⟨false,ao,0,1,n,0,[fun i=>.int (g0 i)]⟩,.row ⟨false,bo,0,1,n,0,[fun i=>.int (q0 i)]⟩]
def sEqIntL (ao bo:Option Addr)(n c d:Nat)(g0 q0:Nat→Int):LSm:=fun ts ch k =>
 (ts.map SV.den=(eqIntH ao bo n c d (.il 0) (fun d=>(ts.getD d .undef).den)).map SV.den∧ch=eqIntT ao bo n g0 q0) ∧
  ∀ g,k (.exit 0) (eqIntH ao bo n c d (.int (n:Int)) g) (eqIntT ao bo n g0 q0)
theorem eqIntB (ao bo:Option Addr)(n c d j:Nat)(g0 q0:Nat→Int)(g:Nat→Value)(NX:List SV→List Ch→Prop)(kx:Exit→List SV→List Ch→Prop):(exCode Tryz.prog {} 400 (theLoop Tryz.f51 0) (eqIntH ao bo n c d (.int (j:Int)) g) (eqIntT ao bo n g0 q0) (loopK NX kx))=(
 (fun a:SV=>(fun b:SV=>(fun h:SV=>(fun k:SV=>(fun l:SV=>(fun m:Bool=>(fun o:Prop=>(fun p:List Ch=>(m=true→ao=ao∧n=n∧o∧ao=ao∧j<n∧bo=bo∧n=n∧o∧bo=bo∧j<n∧(((g0 j) != (q0 j))=true→kx Exit.ret [b,a,vV (g 2),vV (g 3),fV,k,vV (g 6),vV (g 7),vV (g 8),vV (g 9),vV (g 10),k,b,h,tV,vV (g 15),vV (g 16),b,k,rV 0 ao 1 j 0,iV (g0 j),a,k,rV 1 bo 1 j 0,iV (q0 j),tV] p)∧(((g0 j) != (q0 j))=false→rng (((j:Nat):Int)+(1:Int))∧NX [b,a,vV (g 2),vV (g 3),fV,l,vV (g 6),vV (g 7),vV (g 8),vV (g 9),vV (g 10),k,b,h,tV,k,l,b,k,rV 0 ao 1 j 0,iV (g0 j),a,k,rV 1 bo 1 j 0,iV (q0 j),fV] p))∧(m=false→kx (Exit.exit 0) [b,a,vV (g 2),vV (g 3),fV,k,vV (g 6),vV (g 7),vV (g 8),vV (g 9),vV (g 10),k,b,h,fV,vV (g 15),vV (g 16),vV (g 17),vV (g 18),vV (g 19),vV (g 20),vV (g 21),vV (g 22),vV (g 23),vV (g 24),vV (g 25)] p)) [Hr false ao 0 1 n 0 [fun p=>Ci (g0 p)],Hr false bo 0 1 n 0 [fun p=>Ci (q0 p)]]) (0≤((j:Nat):Int)∧((j:Nat):Int)<((n:Nat):Int))) (decide (((j:Nat):Int)<((n:Nat):Int)))) (iV (((j:Nat):Int)+(1:Int)))) (iV ((j:Nat):Int))) (iV ((n:Nat):Int))) (sV 0 ao n c)) (sV 1 bo n d)):=by kernel_rfl
theorem eqIntL_ok (ao bo:Option Addr)(n c d:Nat)(g0 q0:Nat→Int)(hn:n≤9223372036854775807)(hgh:∀ i,i<n→g0 i=q0 i)(X:Cx):LoopOK Tryz.prog X (theLoop Tryz.f51 0) (sEqIntL ao bo n c d g0 q0):=by
 intro ts ch k a w hS hT hd hs
 obtain ⟨⟨h1,rfl⟩,hk⟩:=hS
 refine loop_ok mixed (E:={}) trivial (loopsOK_nil _ _ _) 400 n (fun j ts ch=>∃ g,ts=eqIntH ao bo n c d (.int (j:Int)) g∧ch=eqIntT ao bo n g0 q0) ?_ ?_ hT hd hs
 ·rintro j _ _ ⟨g,rfl,rfl⟩ hj
  refine (@Eq.mpr _ _ (eqIntB ao bo n c d j g0 q0 g _ _) ?_)
  dsimp -zeta -proj -iota -eta -failIfUnchanged (etaStruct:=.none) only
  refine ⟨fun hlt=>?_,fun hge=>?_⟩
  ·have hlt':j<n:=by simpa using hlt
   have hjn:(0:Int)≤(j:Int)∧(j:Int)<(n:Int):=⟨by omega,by omega⟩
   have he:=hgh j hlt'
   repeat' (first | exact rfl | exact True.intro | assumption | (refine And.intro ?_ ?_) | omega | (intro hne;exfalso;simp [he] at hne;done) | intro _)
   all_goals (refine Next.mk (fun g=>eqIntH ao bo n c d (.int ((j+1:Nat):Int)) g) _ ⟨_,rfl,rfl⟩ rfl fun w hw=>hw)
  ·have hjn:j=n:=by have:¬ (j<n):=by simpa using hge
                    omega
   subst hjn
   exact Next.mk (fun g=>eqIntH ao bo j c d (.int (j:Int)) g) _ (hk _) rfl fun w hw=>hw
 ·exact Next.mk (fun g=>eqIntH ao bo n c d (.int ((0:Nat):Int)) g) _ ⟨_,rfl,rfl⟩ h1 fun w hw=>hw
theorem eqIntS_T (ao bo:Option Addr)(n c d:Nat)(g0 q0:Nat→Int):(exFn Tryz.prog {L:=[(4,sEqIntL ao bo n c d g0 q0)]} 400 Tryz.f51 ([.a (.c (.sl 0 ao n c)),.a (.c (.sl 1 bo n d))]) (eqIntT ao bo n g0 q0) (fun v _=>v.den=.bool true))=(
 ((((n:Nat):Int) != ((n:Nat):Int))=true→(Wb false)=(Wb true))∧((((n:Nat):Int) != ((n:Nat):Int))=false→([Ws ao n c,Ws bo n d,Wu [],Wu [],Wb false,Wi 0,Ws ao n c,Wi ((n:Nat):Int),Ws bo n d,Wi ((n:Nat):Int),Wb false,Wu [],Wu [],Wu [],Wu [],Wu [],Wu [],Wu [],Wu [],Wu [],Wu [],Wu [],Wu [],Wu [],Wu [],Wu []]=[Ws ao n c,Ws bo n d,Wu [],Wu [],Wb false,Wi 0,Ws ao n c,Wi ((n:Nat):Int),Ws bo n d,Wi ((n:Nat):Int),Wb false,Wu [],Wu [],Wu [],Wu [],Wu [],Wu [],Wu [],Wu [],Wu [],Wu [],Wu [],Wu [],Wu [],Wu [],Wu []]∧[Hr false ao 0 1 n 0 [fun b=>Ci (g0 b)],Hr false bo 0 1 n 0 [fun b=>Ci (q0 b)]]=[Hr false ao 0 1 n 0 [fun b=>Ci (g0 b)],Hr false bo 0 1 n 0 [fun b=>Ci (q0 b)]])∧∀ b:Nat→Value,(Wb true)=(Wb true))):=by kernel_rfl
theorem eqIntS_any (ao bo:Option Addr)(n c d:Nat)(g0 q0:Nat→Int)(w:World)(hn:n≤9223372036854775807)(hgh:∀ i,i<n→g0 i=q0 i)
  (h1:Row.sat w ⟨false,ao,0,1,n,0,[fun i=>.int (g0 i)]⟩) (h2:Row.sat w ⟨false,bo,0,1,n,0,[fun i=>.int (q0 i)]⟩):Calls Tryz.prog 51 #[.slice ao n c,.slice bo n d] w fun e w'=>e=.returned (.bool true)∧Below w.heap.size w w':=by
 refine fn_ok mixed (E:={ L:=[(4,sEqIntL ao bo n c d g0 q0)] }) trivial Tryz.func51 (one_loop (by kernel_rfl) (by kernel_rfl) (eqIntL_ok ao bo n c d g0 q0 hn hgh _)) (@Eq.mpr _ _ (eqIntS_T ao bo n c d g0 q0) ?_)
  (HS.rows (fun _=>False) [⟨false,ao,0,1,n,0,[fun i=>.int (g0 i)]⟩,⟨false,bo,0,1,n,0,[fun i=>.int (q0 i)]⟩] (by simpa using ⟨h1,h2⟩)) (fun v ch' w' hv hs=>⟨by rw [hv],hs.below⟩)
 simp
 try (intros;rfl)
def sEqIntS:Sm:=fun args ch k =>
 match args with
 | [.a (.c (.sl id ao n _)),.a (.c (.sl id' bo m _))] =>
  match ch[id]?,ch[id']? with
  | some (.row r),some (.row r')=>∃ g0:Nat→Int,∃ q0:Nat→Int,(ao=r.ao∧n=r.n∧r.fld=[fun i=>.int (g0 i)]∧bo=r'.ao∧m=r'.n∧r'.fld=[fun i=>.int (q0 i)]∧n=m∧capC n)∧((∀ i,ltN i n→g0 i=q0 i)∧k (.a (.c (.lit true))) ch [])
  | _,_=>False
 | _=>False
theorem sEqIntS_ok:SmOK Tryz.prog 51 sEqIntS:=by
 refine smB Tryz.call51 fun args ch k w X h0 hs=>?_
 unfold sEqIntS at h0
 split at h0
 ·rename_i id ao n c id' bo m d
  split at h0
  ·rename_i r r' hid hid'
   obtain ⟨g0,q0,⟨rfl,rfl,hf,rfl,rfl,hf',hnm,hn⟩,hgh,h0⟩:=h0
   have h2:=Row.seenAs (hs.sat id' _ hid') hf' rfl
   rw [← hnm] at h2
   refine ⟨_,h0,?_⟩
   have:=eqIntS_any r.ao r'.ao r.n c d g0 q0 w (by have:=hn;omega) hgh (Row.seenAs (hs.sat id _ hid) hf rfl) h2
   simp only [List.map_cons,List.map_nil,den_a,den_c,SC.den,← hnm]
   exact this
  ·exact h0.elim
 ·exact h0.elim
def markIntH (ao:Option Addr)(n cap:Nat)(i kk:SC)(g:Nat→Value):List SV:=[.a (.c (.sl 0 ao n cap)),.a (.c kk),.a (.c (.val (g 2))),.a (.c (.val (g 3))),.a (.c (.val (g 4))),.a (.c i),.a (.c (.val (g 6))),.a (.c (.val (g 7))),.a (.c (.val (g 8))),.a (.c (.val (g 9))),.a (.c (.val (g 10))),.a (.c (.val (g 11))),.a (.c (.val (g 12))),.a (.c (.val (g 13))),.a (.c (.val (g 14))),.a (.c (.val (g 15))),.a (.c (.val (g 16))),.a (.c (.val (g 17))),.a (.c (.val (g 18)))]
def markIntT (ao:Option Addr)(t n rc:Nat)(fs:List (Nat→SC)):List Ch:=[.row ⟨true,ao,t,1,n,rc,fs⟩]
def sMarkIntL (ao:Option Addr)(t n rc cap:Nat)(g0:Nat→Int)(k0:Int):LSm:=fun ts ch k =>
 (ts.map SV.den=(markIntH ao n cap (.il 0) (.int k0) (fun d=>(ts.getD d .undef).den)).map SV.den∧ch=markIntT ao t n rc [fun i=>.int (g0 i)]) ∧
  ∀ g,k (.exit 0) (markIntH ao n cap (.int (n:Int)) (.int (mk k0 1 0 n)) g) (markIntT ao t n rc [fun i=>.int (mk k0 1 0 i)])
theorem markIntB (ao:Option Addr)(t n rc cap:Nat)(g0:Nat→Int)(k0:Int)(j:Nat)(g:Nat→Value)(NX:List SV→List Ch→Prop)(kx:Exit→List SV→List Ch→Prop):(exCode Tryz.prog {} 400 (theLoop Tryz.f62 0) (markIntH ao n cap (.int (j:Int)) (.int (mk k0 1 0 j)) g) (markIntT ao t n rc [fun i=>.int (lowI i j (mk k0 1 0 i) (g0 i))]) (loopK NX kx))=(
 ((decide (((j:Nat):Int)<((n:Nat):Int)))=true→ao=ao∧n=n∧(0≤((j:Nat):Int)∧((j:Nat):Int)<((n:Nat):Int))∧ao=ao∧j<n∧rng ((mk k0 1 0 j)+(1:Int))∧rng (((j:Nat):Int)+(1:Int))∧NX [sV 0 ao n cap,iV ((mk k0 1 0 j)+(1:Int)),vV (g 2),vV (g 3),vV (g 4),iV (((j:Nat):Int)+(1:Int)),iV ((j:Nat):Int),sV 0 ao n cap,iV ((n:Nat):Int),tV,iV ((j:Nat):Int),iV (((j:Nat):Int)+(1:Int)),sV 0 ao n cap,iV ((j:Nat):Int),iV (mk k0 1 0 j),rV 0 ao 1 j 0,iV (mk k0 1 0 j),iV ((mk k0 1 0 j)+(1:Int)),vV (g 18)] [Hr true ao t 1 n rc [fun a=>Ci (if a=j then (mk k0 1 0 j) else (if a<j then (mk k0 1 0 a) else (g0 a)))]])∧((decide (((j:Nat):Int)<((n:Nat):Int)))=false→kx (Exit.exit 0) [sV 0 ao n cap,iV (mk k0 1 0 j),vV (g 2),vV (g 3),vV (g 4),iV ((j:Nat):Int),iV ((j:Nat):Int),sV 0 ao n cap,iV ((n:Nat):Int),fV,vV (g 10),vV (g 11),vV (g 12),vV (g 13),vV (g 14),vV (g 15),vV (g 16),vV (g 17),vV (g 18)] [Hr true ao t 1 n rc [fun a=>Ci (if a<j then (mk k0 1 0 a) else (g0 a))]])):=by kernel_rfl
theorem markIntL_ok (ao:Option Addr)(t n rc cap:Nat)(g0:Nat→Int)(k0:Int)(hn:n≤2097152∧0≤k0∧k0≤1099511627776)(X:Cx):LoopOK Tryz.prog X (theLoop Tryz.f62 0) (sMarkIntL ao t n rc cap g0 k0):=by
 intro ts ch k a w hS hT hd hs
 obtain ⟨⟨h1,rfl⟩,hk⟩:=hS
 refine loop_ok mixed (E:={}) trivial (loopsOK_nil _ _ _) 400 n (fun j ts ch=>∃ g,ts=markIntH ao n cap (.int (j:Int)) (.int (mk k0 1 0 j)) g∧ch=markIntT ao t n rc [fun i=>.int (lowI i j (mk k0 1 0 i) (g0 i))]) ?_ ?_ hT hd hs
 ·rintro j _ _ ⟨g,rfl,rfl⟩ hj
  refine (@Eq.mpr _ _ (markIntB ao t n rc cap g0 k0 j g _ _) ?_)
  have hb:=mk_bound (s:=1) (c:=0) hn hj (by omega) (by omega)
  refine ⟨fun hlt=>?_,fun hge=>?_⟩
  ·have hlt':j<n:=by simpa using hlt
   have hjn:(0:Int)≤(j:Int)∧(j:Int)<(n:Int):=⟨by omega,by omega⟩
   have hnx:=mk_next k0 1 j
   repeat' (first | exact rfl | exact True.intro | assumption | refine And.intro ?_ ?_ | omega)
   refine Next.mk (fun g=>markIntH ao n cap (.int ((j+1:Nat):Int)) (.int (mk k0 1 0 (j+1))) g) _ ⟨_,rfl,rfl⟩ ?_ fun w hw=>hw.re 0 _ rfl [fun i=>.int (lowI i (j+1) (mk k0 1 0 i) (g0 i))] ?_
   ·rw [hnx]
    simp [markIntH,SV.den,SA.den,SC.den]
    try omega
   ·exact ⟨fun i _=>congrArg (Value.int .i64) (mk_low k0 1 0 g0 i j _ (by first | rfl | (simp only [mk];omega))),trivial⟩
  ·have hjn:j=n:=by have:¬ (j<n):=by simpa using hge
                    omega
   subst hjn
   exact Next.mk (fun g=>markIntH ao j cap (.int (j:Int)) (.int (mk k0 1 0 j)) g) _ (hk _) rfl fun w hw=>hw.re 0 _ rfl [fun i=>.int (mk k0 1 0 i)] ⟨fun i hi=>by simp only [SC.den,lowI];rw [if_pos hi],trivial⟩
 ·refine Next.mk (fun g=>markIntH ao n cap (.int ((0:Nat):Int)) (.int (mk k0 1 0 0)) g) _ ⟨_,rfl,rfl⟩ ?_ fun w hw=>hw.re 0 _ rfl [fun i=>.int (lowI i 0 (mk k0 1 0 i) (g0 i))] ⟨fun i hi=>by simp [SC.den,lowI],trivial⟩
  rw [h1]
  simp [markIntH,SV.den,SA.den,SC.den,mk]
theorem markIntS_T (ao:Option Addr)(t n rc cap:Nat)(g0:Nat→Int)(k0:Int):(exFn Tryz.prog {L:=[(2,sMarkIntL ao t n rc cap g0 k0)]} 400 Tryz.f62 ([.a (.c (.sl 0 ao n cap)),.a (.c (.int k0))]) (markIntT ao t n rc [fun i=>.int (g0 i)]) (fun v ch=>v.den=.int .i64 (mk k0 1 0 n)∧ch[0]?=some (.row ⟨true,ao,t,1,n,rc,[fun i=>.int (mk k0 1 0 i)]⟩)))=(
 ([Ws ao n cap,Wi k0,Wu [],Wu [],Wi 0,Wi 0,Wu [],Wu [],Wu [],Wu [],Wu [],Wu [],Wu [],Wu [],Wu [],Wu [],Wu [],Wu [],Wu []]=[Ws ao n cap,Wi k0,Wu [],Wu [],Wi 0,Wi 0,Wu [],Wu [],Wu [],Wu [],Wu [],Wu [],Wu [],Wu [],Wu [],Wu [],Wu [],Wu [],Wu []]∧[Hr true ao t 1 n rc [fun b=>Ci (g0 b)]]=[Hr true ao t 1 n rc [fun b=>Ci (g0 b)]])∧∀ b:Nat→Value,(Wi (mk k0 1 0 n))=(Wi (mk k0 1 0 n))∧(Option.some (Hr true ao t 1 n rc [fun d=>Ci (mk k0 1 0 d)]))=(Option.some (Hr true ao t 1 n rc [fun d=>Ci (mk k0 1 0 d)]))):=by kernel_rfl
theorem markIntS_any (ao:Option Addr)(t n rc cap:Nat)(g0:Nat→Int)(k0:Int)(w:World)(hn:n≤2097152∧0≤k0∧k0≤1099511627776)(h:Row.sat w ⟨true,ao,t,1,n,rc,[fun i=>.int (g0 i)]⟩) :
  Calls Tryz.prog 62 #[.slice ao n cap,.int .i64 k0] w fun e w'=>e=.returned (.int .i64 (mk k0 1 0 n))∧HS ⟨w,(Ch.row ⟨true,ao,t,1,n,rc,[fun i=>.int (g0 i)]⟩).at⟩ [.row ⟨true,ao,t,1,n,rc,[fun i=>.int (mk k0 1 0 i)]⟩] w':=by
 refine fn_ok mixed (E:={ L:=[(2,sMarkIntL ao t n rc cap g0 k0)] }) trivial Tryz.func62 (one_loop (by kernel_rfl) (by kernel_rfl) (markIntL_ok ao t n rc cap g0 k0 hn _)) (@Eq.mpr _ _ (markIntS_T ao t n rc cap g0 k0) ?_) (HS.one h) (fun v ch' w' ⟨hv,hc⟩ hs=>⟨by rw [hv],?_⟩)
 ·refine ⟨⟨rfl,rfl⟩,?_⟩
  intros
  exact ⟨rfl,rfl⟩
 ·have:=hs.sel [0] (by simp)
  simpa [selC,hc] using this
def sMarkIntS:Sm:=fun args ch k =>
 match args with
 | [.a (.c (.sl id ao n _)),.a (.c kc)] =>
  match ch[id]?,asI kc with
  | some (.row r),some k0 =>
   match r.own with
   | true=>∃ g0:Nat→Int,(ao=r.ao∧n=r.n∧r.fld=[fun i=>.int (g0 i)]∧markC n k0)∧k (.a (.c (.int (mk k0 1 0 n)))) (ch.set id (.row { r with fld:=[fun i=>.int (mk k0 1 0 i)] })) [id]
   | false=>False
  | _,_=>False
 | _=>False
theorem sMarkIntS_ok:SmOK Tryz.prog 62 sMarkIntS:=by
 refine smTurn Tryz.call62 fun args ch k w X h0 hs=>?_
 unfold sMarkIntS at h0
 split at h0
 ·rename_i id ao n cap kc
  split at h0
  ·rename_i r k0 hid hkc
   split at h0
   ·rename_i ho
    obtain ⟨g0,⟨rfl,rfl,hf,hn⟩,h0⟩:=h0
    have hr:r.sat w:=hs.sat id _ hid
    have hs':r.s=1:=by have:=hr.1;rw [hf] at this;exact this.symm
    obtain ⟨ow,ao,t,s',n,rc,fs⟩:=r
    simp only at hf ho hs' hr h0 hn
    subst hf
    subst ho
    subst hs'
    refine ⟨_,id,_,[fun i=>.int (mk k0 1 0 i)],hid,rfl,h0,?_⟩
    simp only [List.map_cons,List.map_nil,den_a,den_c,asI_den hkc]
    exact markIntS_any ao t n rc cap g0 k0 w hn hr
   ·exact h0.elim
  ·exact h0.elim
 ·exact h0.elim
def heldIntH (ao:Option Addr)(n cap:Nat)(i kk:SC)(g:Nat→Value):List SV:=[.a (.c (.sl 0 ao n cap)),.a (.c kk),.a (.c (.val (g 2))),.a (.c (.val (g 3))),.a (.c (.il 0)),.a (.c i),.a (.c (.val (g 6))),.a (.c (.val (g 7))),.a (.c (.val (g 8))),.a (.c (.val (g 9))),.a (.c (.val (g 10))),.a (.c (.val (g 11))),.a (.c (.val (g 12))),.a (.c (.val (g 13))),.a (.c (.val (g 14))),.a (.c (.val (g 15))),.a (.c (.val (g 16))),.a (.c (.val (g 17))),.a (.c (.val (g 18))),.a (.c (.val (g 19))),.a (.c (.val (g 20)))]
def heldIntT (ao:Option Addr)(n:Nat)(k0:Int):List Ch:=[.row ⟨false,ao,0,1,n,0,[fun i=>.int (mk k0 1 0 i)]⟩]
def sHeldIntL (ao:Option Addr)(n cap:Nat)(k0:Int):LSm:=fun ts ch k =>
 (ts.map SV.den=(heldIntH ao n cap (.il 0) (.int k0) (fun d=>(ts.getD d .undef).den)).map SV.den∧ch=heldIntT ao n k0) ∧
  ∀ g,k (.exit 0) (heldIntH ao n cap (.int (n:Int)) (.int (mk k0 1 0 n)) g) (heldIntT ao n k0)
theorem heldIntB (ao:Option Addr)(n cap:Nat)(k0:Int)(j:Nat)(g:Nat→Value)(NX:List SV→List Ch→Prop)(kx:Exit→List SV→List Ch→Prop):(exCode Tryz.prog {} 400 (theLoop Tryz.f83 0) (heldIntH ao n cap (.int (j:Int)) (.int (mk k0 1 0 j)) g) (heldIntT ao n k0) (loopK NX kx))=(
 (fun a:Int=>(fun b:SV=>(fun c:SV=>(fun d:SV=>(fun h:SV=>(fun k:SV=>(fun l:Bool=>(fun m:SV=>(fun o:Bool=>(fun p:List Ch=>(o=true→ao=ao∧n=n∧(0≤((j:Nat):Int)∧((j:Nat):Int)<((n:Nat):Int))∧ao=ao∧j<n∧(l=true→kx Exit.ret [b,c,vV (g 2),vV (g 3),lV (-1),h,h,b,d,tV,vV (g 10),vV (g 11),b,h,rV 0 ao 1 j 0,c,c,tV,vV (g 18),vV (g 19),vV (g 20)] p)∧(l=false→rng (a+(1:Int))∧rng (((j:Nat):Int)+(1:Int))∧NX [b,k,vV (g 2),vV (g 3),lV 0,m,h,b,d,tV,h,m,b,h,rV 0 ao 1 j 0,c,c,fV,c,k,vV (g 20)] p))∧(o=false→kx (Exit.exit 0) [b,c,vV (g 2),vV (g 3),lV 0,h,h,b,d,fV,vV (g 10),vV (g 11),vV (g 12),vV (g 13),vV (g 14),vV (g 15),vV (g 16),vV (g 17),vV (g 18),vV (g 19),vV (g 20)] p)) [Hr false ao 0 1 n 0 [fun p=>Ci (mk k0 1 0 p)]]) (decide (((j:Nat):Int)<((n:Nat):Int)))) (iV (((j:Nat):Int)+(1:Int)))) (a != a)) (iV (a+(1:Int)))) (iV ((j:Nat):Int))) (iV ((n:Nat):Int))) (iV a)) (sV 0 ao n cap)) (mk k0 1 0 j)):=by kernel_rfl
theorem heldIntL_ok (ao:Option Addr)(n cap:Nat)(k0:Int)(hn:n≤2097152∧0≤k0∧k0≤1099511627776)(X:Cx):LoopOK Tryz.prog X (theLoop Tryz.f83 0) (sHeldIntL ao n cap k0):=by
 intro ts ch k a w hS hT hd hs
 obtain ⟨⟨h1,rfl⟩,hk⟩:=hS
 refine loop_ok mixed (E:={}) trivial (loopsOK_nil _ _ _) 400 n (fun j ts ch=>∃ g,ts=heldIntH ao n cap (.int (j:Int)) (.int (mk k0 1 0 j)) g∧ch=heldIntT ao n k0) ?_ ?_ hT hd hs
 ·rintro j _ _ ⟨g,rfl,rfl⟩ hj
  refine (@Eq.mpr _ _ (heldIntB ao n cap k0 j g _ _) ?_)
  dsimp -zeta -proj -iota -eta -failIfUnchanged (etaStruct:=.none) only
  have hb:=mk_bound (s:=1) (c:=0) hn hj (by omega) (by omega)
  refine ⟨fun hlt=>?_,fun hge=>?_⟩
  ·have hlt':j<n:=by simpa using hlt
   have hjn:(0:Int)≤(j:Int)∧(j:Int)<(n:Int):=⟨by omega,by omega⟩
   have hnx:=mk_next k0 1 j
   repeat' (first | exact rfl | exact True.intro | assumption | refine And.intro ?_ ?_ | omega | (intro hne;exfalso;simp [mk] at hne;omega) | (intro hne;exfalso;simp [mk] at hne;done) | intro _)
   refine Next.mk (fun g=>heldIntH ao n cap (.int ((j+1:Nat):Int)) (.int (mk k0 1 0 (j+1))) g) _ ⟨_,rfl,rfl⟩ ?_ fun w hw=>hw
   rw [hnx]
   simp [heldIntH,SV.den,SA.den,SC.den]
   try omega
  ·have hjn:j=n:=by have:¬ (j<n):=by simpa using hge
                    omega
   subst hjn
   exact Next.mk (fun g=>heldIntH ao j cap (.int (j:Int)) (.int (mk k0 1 0 j)) g) _ (hk _) rfl fun w hw=>hw
 ·refine Next.mk (fun g=>heldIntH ao n cap (.int ((0:Nat):Int)) (.int (mk k0 1 0 0)) g) _ ⟨_,rfl,rfl⟩ ?_ fun w hw=>hw
  rw [h1]
  simp [heldIntH,SV.den,SA.den,SC.den,mk]
theorem heldIntS_T (ao:Option Addr)(n cap:Nat)(k0:Int):(exFn Tryz.prog {L:=[(2,sHeldIntL ao n cap k0)]} 400 Tryz.f83 ([.a (.c (.sl 0 ao n cap)),.a (.c (.int k0))]) (heldIntT ao n k0) (fun v _=>v.den=.int .i64 (mk k0 1 0 n)))=(
 ([Ws ao n cap,Wi k0,Wu [],Wu [],Wi 0,Wi 0,Wu [],Wu [],Wu [],Wu [],Wu [],Wu [],Wu [],Wu [],Wu [],Wu [],Wu [],Wu [],Wu [],Wu [],Wu []]=[Ws ao n cap,Wi k0,Wu [],Wu [],Wi 0,Wi 0,Wu [],Wu [],Wu [],Wu [],Wu [],Wu [],Wu [],Wu [],Wu [],Wu [],Wu [],Wu [],Wu [],Wu [],Wu []]∧[Hr false ao 0 1 n 0 [fun b=>Ci (mk k0 1 0 b)]]=[Hr false ao 0 1 n 0 [fun b=>Ci (mk k0 1 0 b)]])∧∀ b:Nat→Value,(Wi (mk k0 1 0 n))=(Wi (mk k0 1 0 n))):=by kernel_rfl
theorem heldIntS_any (ao:Option Addr)(n cap:Nat)(k0:Int)(w:World)(hn:n≤2097152∧0≤k0∧k0≤1099511627776)(h:Row.sat w ⟨false,ao,0,1,n,0,[fun i=>.int (mk k0 1 0 i)]⟩) :
  Calls Tryz.prog 83 #[.slice ao n cap,.int .i64 k0] w fun e w'=>e=.returned (.int .i64 (mk k0 1 0 n))∧Below w.heap.size w w':=by
 refine fn_ok mixed (E:={ L:=[(2,sHeldIntL ao n cap k0)] }) trivial Tryz.func83 (one_loop (by kernel_rfl) (by kernel_rfl) (heldIntL_ok ao n cap k0 hn _)) (@Eq.mpr _ _ (heldIntS_T ao n cap k0) ?_) (HS.rows (fun _=>False) [⟨false,ao,0,1,n,0,[fun i=>.int (mk k0 1 0 i)]⟩] (by simpa using h)) (fun v ch' w' hv hs=>⟨by rw [hv],hs.below⟩)
 refine ⟨⟨rfl,rfl⟩,?_⟩
 intros
 rfl
def sHeldIntS:Sm:=fun args ch k =>
 match args with
 | [.a (.c (.sl id ao n _)),.a (.c kc)] =>
  match ch[id]?,asI kc with
  | some (.row r),some k0=>(ao=r.ao∧n=r.n∧r.fld=[fun i=>.int (mk k0 1 0 i)]∧markC n k0)∧k (.a (.c (.int (mk k0 1 0 n)))) ch []
  | _,_=>False
 | _=>False
theorem sHeldIntS_ok:SmOK Tryz.prog 83 sHeldIntS:=by
 refine smB Tryz.call83 fun args ch k w X h0 hs=>?_
 unfold sHeldIntS at h0
 split at h0
 ·rename_i id ao n cap kc
  split at h0
  ·rename_i r k0 hid hkc
   obtain ⟨⟨rfl,rfl,hf,hn⟩,h0⟩:=h0
   refine ⟨_,h0,?_⟩
   simp only [List.map_cons,List.map_nil,den_a,den_c,asI_den hkc]
   exact heldIntS_any r.ao r.n cap k0 w hn (Row.seenAs (hs.sat id _ hid) hf rfl)
  ·exact h0.elim
 ·exact h0.elim
theorem szIntS_T (ao:Option Addr)(n cap:Nat)(k0:Int):(exFn Tryz.prog {} 400 Tryz.f14 ([.a (.c (.sl 0 ao n cap)),.a (.c (.int k0))]) ([]) (fun v _=>v.den=.int .i64 (szI k0 n)))=(
 rng (k0-((n:Nat):Int))∧((decide ((k0-((n:Nat):Int))<(0:Int)))=true→(Wi (-1))=(Wi (szI k0 n)))∧((decide ((k0-((n:Nat):Int))<(0:Int)))=false→(Wi (k0-((n:Nat):Int)))=(Wi (szI k0 n)))):=by kernel_rfl
theorem szIntS_any (ao:Option Addr)(n cap:Nat)(k0:Int)(w:World)(hn:n≤9223372036854775807∧0≤k0∧k0≤1048576):Calls Tryz.prog 14 #[.slice ao n cap,.int .i64 k0] w fun e w'=>e=.returned (.int .i64 (szI k0 n))∧Below w.heap.size w w':=by
 refine fnB (tb:=[]) trivial Tryz.func14 (@Eq.mpr _ _ (szIntS_T ao n cap k0) ?_) (HS.start w (fun _=>False)) (fun v ch' w' hk hs=>⟨by rw [hk],hs.below⟩)
 refine ⟨⟨by omega,by omega⟩,fun h=>?_,fun h=>?_⟩
 ·have h':k0-(n:Int)<0:=by simpa using h
  simp only [szI,if_pos h']
 ·have h':¬ k0-(n:Int)<0:=by simpa using h
  simp only [szI,if_neg h']
def sSzIntS:Sm:=fun args ch k =>
 match args with
 | [.a (.c (.sl _ _ n _)),.a (.c kc)] =>
  match asI kc with
  | some k0=>szC n k0∧(szLt k0 n→k (.a (.c (.il (-1)))) ch [])∧(szGe k0 n→k (.a (.c (.int (szSub k0 n)))) ch [])
  | none=>False
 | _=>False
theorem sSzIntS_ok:SmOK Tryz.prog 14 sSzIntS:=by
 refine smB Tryz.call14 fun args ch k w X h0 hs=>?_
 unfold sSzIntS at h0
 split at h0
 ·rename_i id ao n cap kc
  split at h0
  ·rename_i k0 hkc
   obtain ⟨hn,h1,h2⟩:=h0
   simp only [List.map_cons,List.map_nil,den_a,den_c,asI_den hkc]
   by_cases hlt:k0-(n:Int)<0
   ·refine ⟨_,h1 (by omega),?_⟩
    have:=szIntS_any ao n cap k0 w hn
    simp only [szI,if_pos hlt] at this
    exact this
   ·refine ⟨_,h2 (by omega),?_⟩
    have:=szIntS_any ao n cap k0 w hn
    simp only [szI,if_neg hlt] at this
    exact this
  ·exact h0.elim
 ·exact h0.elim
end Go.Proofs.YtbhfabaofhhkeaaGreat

/-
  FnExactControllerNew: a part of the walk (merged and squeezed by program: SxHA SxTrk SxTrkE).
-/
import Derived.Test.YtbhfabaofhhkeaaGreatZad
import Derived.Test.YtbhfabaofhhkeaaGreatZae
import Derived.Test.YtbhfabaofhhkeaaGreatZag
namespace Go.Proofs.YtbhfabaofhhkeaaGreat
set_option linter.unusedVariables false
set_option linter.unusedSimpArgs false
open Go.RowKit
set_option maxRecDepth 100000
set_option maxHeartbeats 8000000
structure SeenC (w:World) (x:CD) (O:Option Addr) (so:Nat→Option Addr) (sc:Nat→Nat):Prop where
 h0:∀ id,Row.sat w ⟨false,O,0,2,x.n,0,cellFld id x so sc⟩
 h3:∀ r∈symRows false 0 x so (fun _=>0),r.own=false∧r.sat w
theorem SeenC.all {w:World}{x:CD}{O:Option Addr}{so:Nat→Option Addr}{sc:Nat→Nat}(h:SeenC w x O so sc)(b:Nat){cs:List Ch}(hc:∀ c∈cs,c.own=false∧c.sat w):∀ c∈[Ch.row ⟨false,O,0,2,x.n,0,cellFld b x so sc⟩,.obj false (symRows false 0 x so (fun _=>0))] ++ cs,c.own=false∧c.sat w :=
 seenC_row rfl (h.h0 _) (seenC_obj h.h3 hc)
def rdK (ch:List Ch)(c:SC)(K:CD→Prop):Prop :=
 match c with
 | .sl i0 a0 n0 _ =>
  match ch[i0]? with
  | some (.row r0) =>
   match ch[nidOf r0.fld]? with
   | some (.obj o rs)=>∃ (t:Nat) (y:CD) (so:Nat→Option Addr) (sc sd:Nat→Nat),(rs=symRows o t y so sd∧r0.fld=cellFld (nidOf r0.fld) y so sc∧a0=r0.ao∧n0=r0.n∧n0=y.n)∧K y
   | _=>False
  | _=>False
 | _=>False
theorem rdK_ok {ch:List Ch}{c:SC}{K:CD→Prop}(h:rdK ch c K){X:Cx}{w:World}(hs:HS X ch w):∃ (x:CD) (O:Option Addr) (C:Nat) (so:Nat→Option Addr) (sc:Nat→Nat),c.den=.slice O x.n C∧SeenC w x O so sc∧K x:=by
 unfold rdK at h
 split at h
 ·rename_i i0 a0 n0 c0
  split at h
  ·rename_i r0 h0
   split at h
   ·rename_i o rs h3
    obtain ⟨t,y,so,sc,sd,⟨rfl,f0,rfl,rfl,hn⟩,hk⟩:=h
    refine ⟨y,r0.ao,c0,so,sc,by rw [← hn];rfl,⟨fun id'=>?_,symRows_seen fun r hr=>(hs.seeObj h3 r hr).2⟩,hk⟩
    have:=seenAs' (hs.sat i0 _ h0) f0 rfl
    rw [hn] at this
    exact Row.reF this ⟨fun i hi=>rfl,fun i hi=>rfl,trivial⟩
   ·exact h.elim
  ·exact h.elim
 ·exact h.elim
def totN (sn:Nat→Nat):Nat→Nat
 | 0=>0
 | i+1=>totN sn i+sn i+1
def kAt (k:Int)(sn:Nat→Nat)(i:Nat):Int:=k+(totN sn i:Int)
def mkPo (k:Int)(sn:Nat→Nat)(i:Nat):Bool:=ieq (imod (mk (kAt k sn i) 1 0 (sn i)) 3) 0
def markCD (k:Int)(x:CD):CD:=⟨x.n,x.sn,fun i q=>mk (kAt k x.sn i) 1 0 q,mkPo k x.sn⟩
abbrev capK (x:CD):Prop:=totN x.sn x.n≤2097152
theorem totN_le {sn:Nat→Nat}{i j:Nat}(h:i≤j):totN sn i≤totN sn j:=by
 induction j with
 | zero=>have:i=0:=by omega
         subst this;exact Nat.le_refl _
 | succ j ih =>
  by_cases e:i=j+1
  ·subst e;exact Nat.le_refl _
  ·have:=ih (by omega)
   simp only [totN]
   omega
theorem totN_n {sn:Nat→Nat}:∀ n:Nat,n≤totN sn n:=fun n=>by
 induction n with
 | zero=>exact Nat.zero_le _
 | succ n ih=>simp only [totN];omega
theorem totN_sn {sn:Nat→Nat}{i n:Nat}(h:i<n):totN sn i+sn i+1≤totN sn n:=totN_le (i:=i+1) h
theorem kAt_next {k:Int}{sn:Nat→Nat}{j:Nat}:mk (kAt k sn j) 1 0 (sn j)+1=kAt k sn (j+1):=by
 simp only [mk,kAt,totN]
 omega
theorem kAt_in {k:Int}{sn:Nat→Nat}{j n:Nat}(hj:j≤n)(h:totN sn n≤2097152)(h0:0≤k∧k≤1099509530624):0≤kAt k sn j∧kAt k sn j≤1099511627776:=by
 have:=totN_le (sn:=sn) hj
 simp only [kAt]
 omega
theorem eqc_T (ao bo:Option Addr)(n c d:Nat)(g q:Nat→Int)(b:Bool):(exFn Tryz.prog {tb:=[(51,sEqIntS)]} 400 Tryz.f142 ([.a (.agg [.sl 0 ao n c,.bool b]),.a (.agg [.sl 1 bo n d,.bool b])]) ([.row ⟨false,ao,0,1,n,0,[fun i=>.int (g i)]⟩,.row ⟨false,bo,0,1,n,0,[fun i=>.int (q i)]⟩]) (fun v _=>v.den=.bool true))=(
 ∀ h j:Nat,h=h∧j=j∧∃ k l:Nat→Int,(ao=ao∧n=n∧[fun m=>Ci (g m)]=[fun m=>Ci (k m)]∧bo=bo∧n=n∧[fun m=>Ci (q m)]=[fun m=>Ci (l m)]∧n=n∧capC n)∧(∀ m:Nat,m<n→(k m)=(l m))∧h=h∧j=j∧((b != b)=true→(Wb false)=(Wb true))∧((b != b)=false→(Wb true)=(Wb true))):=by kernel_rfl
theorem eqc_any (ao bo:Option Addr)(n c d:Nat)(g q:Nat→Int)(b:Bool)(w:World)(h1:Row.sat w ⟨false,ao,0,1,n,0,[fun i=>.int (g i)]⟩)(h2:Row.sat w ⟨false,bo,0,1,n,0,[fun i=>.int (q i)]⟩)(hn:n≤2097152)(hgq:∀ i,i<n→g i=q i):Calls Tryz.prog 142 #[.agg #[.slice ao n c,.bool b],.agg #[.slice bo n d,.bool b]] w fun e w'=>e=.returned (.bool true)∧Below w.heap.size w w':=by
 have e:Row.sat w ⟨false,bo,0,1,n,0,[fun i=>.int (g i)]⟩:=Row.reF h2 ⟨fun i hi=>congrArg (Value.int .i64) (hgq i hi).symm,trivial⟩
 refine fnB (tb:=[(51,sEqIntS)]) ⟨sEqIntS_ok,trivial⟩ Tryz.func142 (@Eq.mpr _ _ (eqc_T ao bo n c d g g b) ?_) (HS.rows (fun _=>False) [⟨false,ao,0,1,n,0,[fun i=>.int (g i)]⟩,⟨false,bo,0,1,n,0,[fun i=>.int (g i)]⟩] (by simp;exact ⟨h1,e⟩)) (fun v ch' w' hk hs=>⟨by rw [hk],hs.below⟩)
 clear h1 h2 e
 repeat' (first
  | exact rfl
  | exact True.intro
  | assumption
  | refine And.intro ?_ ?_
  | apply Exists.intro
  | omega
  | (intro h;exfalso;simp at h;done)
  | (intro h;exfalso;simp at h;omega)
  | intro _)
abbrev allEq (n:Nat)(g q:Nat→Int):Prop:=∀ i,i<n→g i=q i
def sEqC:Sm:=fun args ch kk =>
 match args with
 | [.a c,.a d]=>rdC ch c fun n g b=>rdC ch d fun m q b'=>(m=n∧b'=b∧capC n∧allEq n g q)∧kk (.a (.c (.lit true))) ch []
 | _=>False
theorem sEqC_ok:SmOK Tryz.prog 142 sEqC:=by
 refine smB Tryz.call142 fun args ch kk w X h0 hs=>?_
 unfold sEqC at h0
 split at h0
 ·obtain ⟨ao,n,c',g,b,e,hr,h0⟩:=rdC_ok h0 hs
  obtain ⟨bo,m,d',q,b',e2,hr2,⟨rfl,rfl,hn,hgq⟩,h9⟩:=rdC_ok h0 hs
  refine ⟨_,h9,?_⟩
  simp only [List.map_cons,List.map_nil,den_a,e,e2]
  exact eqc_any ao bo _ c' d' g q _ w hr hr2 hn hgq
 ·exact h0.elim
theorem symRows_mark {o:Bool}{t:Nat}{x:CD}{so:Nat→Option Addr}{sc:Nat→Nat}{k:Nat}{f:Nat→Int} :
  (symRows o t x so sc).set k ⟨o,so k,t,1,x.sn k,sc k,[fun q=>.int (f q)]⟩=symRows o t ⟨x.n,x.sn,fun i q=>if i=k then f q else x.sy i q,x.po⟩ so sc:=by
 rw [symRows_set]
 refine symRows_congr rfl fun i _=>?_
 simp only [symRow]
 congr 1
 ·split <;> simp_all
 ·split <;> simp_all
 ·split <;> simp_all
def sMarkN:Sm:=fun args ch kk =>
 match args with
 | [.a (.c (.sl id ao n _)),.a (.c kc)] =>
  match ch[id]?,asI kc with
  | some (.obj true rs),some k0=>∃ (t:Nat) (y:CD) (so:Nat→Option Addr) (sc:Nat→Nat) (i:Nat),(rs=symRows true t y so sc∧ao=so i∧n=y.sn i∧ltN i y.n∧markC n k0)∧kk (.a (.c (.int (mk k0 1 0 n)))) (ch.set id (.obj true (symRows true t ⟨y.n,y.sn,fun a q=>selI a i (mk k0 1 0 q) (y.sy a q),y.po⟩ so sc))) [id]
  | _,_=>False
 | _=>False
theorem sMarkN_ok:SmOK Tryz.prog 62 sMarkN:=by
 refine ⟨Tryz.call62,fun X args ch kk w h0 hs=>?_⟩
 unfold sMarkN at h0
 split at h0
 ·rename_i id ao n cap kc
  split at h0
  ·rename_i rs k0 hid hkc
   obtain ⟨t,y,so,sc,i,⟨rfl,rfl,rfl,hi,hn⟩,h0⟩:=h0
   have hr:=(hs.seeObj hid _ (symRows_mem hi)).2
   simp only [List.map_cons,List.map_nil,den_a,den_c,asI_den hkc]
   refine Calls.mono (markIntS_any (so i) t (y.sn i) (sc i) cap (y.sy i) k0 w hn hr) fun e w' ⟨he,hs'⟩=>⟨.a (.c (.int (mk k0 1 0 (y.sn i)))),_,[id],he,?_,Agree.set _ _ _,h0⟩
   have:=hs.nestTurn hid (symRows_get hi) hs' rfl (fun b hb=>hb)
   rw [symRows_mark] at this
   exact this
  ·exact h0.elim
 ·exact h0.elim
def sHeldN:Sm:=fun args ch kk =>
 match args with
 | [.a (.c c),.a (.c kc)] =>
  match asI kc with
  | some k0=>rdn ch c fun n g=>(markC n k0∧allEq n g (fun q=>mk k0 1 0 q))∧kk (.a (.c (.int (mk k0 1 0 n)))) ch []
  | none=>False
 | _=>False
theorem sHeldN_ok:SmOK Tryz.prog 83 sHeldN:=by
 refine smB Tryz.call83 fun args ch kk w X h0 hs=>?_
 unfold sHeldN at h0
 split at h0
 ·split at h0
  ·rename_i k0 hkc
   obtain ⟨ao,n,c',g,e,hr,⟨hn,hg⟩,h0⟩:=rdn_ok h0 hs
   refine ⟨_,h0,?_⟩
   simp only [List.map_cons,List.map_nil,den_a,den_c,e,asI_den hkc]
   exact heldIntS_any ao n c' k0 w hn (Row.reF hr ⟨fun i hi=>congrArg (Value.int .i64) (hg i hi),trivial⟩)
  ·exact h0.elim
 ·exact h0.elim
def ecH (x:CD)(O:Option Addr)(C:Nat)(so:Nat→Option Addr)(sc:Nat→Nat)(P:Option Addr)(Q:Nat)(sp:Nat→Option Addr)(sq:Nat→Nat)(i:SC)(g:Nat→Value):List SV:=[.a (.c (.sl 0 O x.n C)),.a (.c (.sl 2 P x.n Q)),.a (.c (.val (g 2))),.a (.c (.val (g 3))),.a (.c (.lit false)),.a (.c i),.a (.c (.val (g 6))),.a (.c (.val (g 7))),.a (.c (.val (g 8))),.a (.c (.val (g 9))),.a (.c (.val (g 10))),.a (.c (.val (g 11))),.a (.c (.val (g 12))),.a (.c (.val (g 13))),.a (.c (.val (g 14))),.a (.c (.val (g 15))),.a (.c (.val (g 16))),.a (.c (.val (g 17))),.a (.c (.val (g 18))),.a (.c (.val (g 19))),.a (.c (.val (g 20))),.a (.c (.val (g 21))),.a (.c (.val (g 22))),.a (.c (.val (g 23))),.a (.c (.val (g 24))),.a (.c (.val (g 25))),.a (.c (.val (g 26)))]
def ecT (x:CD)(O:Option Addr)(C:Nat)(so:Nat→Option Addr)(sc:Nat→Nat)(P:Option Addr)(Q:Nat)(sp:Nat→Option Addr)(sq:Nat→Nat):List Ch:=[.row ⟨false,O,0,2,x.n,0,cellFld 1 x so sc⟩,.obj false (symRows false 0 x so (fun _=>0)),.row ⟨false,P,0,2,x.n,0,cellFld 3 x sp sq⟩,.obj false (symRows false 0 x sp (fun _=>0))]
def sec:LSm:=fun ts ch kk=>∃ (x:CD) (O:Option Addr) (C:Nat) (so:Nat→Option Addr) (sc:Nat→Nat) (P:Option Addr) (Q:Nat) (sp:Nat→Option Addr) (sq:Nat→Nat),(ts.map SV.den=(ecH x O C so sc P Q sp sq (.il 0) (fun d=>(ts.getD d .undef).den)).map SV.den∧ch=ecT x O C so sc P Q sp sq∧capK x)∧∀ (g:Nat→Value) (kx:Int),kk (.exit 0) (ecH x O C so sc P Q sp sq (.int kx) g) (ecT x O C so sc P Q sp sq)
theorem ecB (x:CD)(O:Option Addr)(C:Nat)(so:Nat→Option Addr)(sc:Nat→Nat)(P:Option Addr)(Q:Nat)(sp:Nat→Option Addr)(sq:Nat→Nat)(j:Nat)(g:Nat→Value)(NX:List SV→List Ch→Prop)(kx:Exit→List SV→List Ch→Prop):(exCode Tryz.prog {tb:=[(142,sEqC)]} 400 (theLoop Tryz.f114 0) (ecH x O C so sc P Q sp sq (.int (j:Int)) g) (ecT x O C so sc P Q sp sq) (loopK NX kx))=(
 (fun a:SV=>(fun b:SV=>(fun c:SV=>(fun d:Bool=>(fun h:Prop=>(fun k:List Ch=>(d=true→O=O∧x.1=x.1∧h∧O=O∧j<x.1∧P=P∧x.1=x.1∧h∧P=P∧j<x.1∧∃(l:Nat) (m:CD) (n:Nat→Option Addr) (o:Nat→Nat) (p:Nat),((symRows false 0 x so (fun q=>0))=(symRows false l m n o)∧(so j)=(n p)∧(x.2 j)=(m.2 p)∧p<m.1)∧∃(q:Nat) (r:CD) (s:Nat→Option Addr) (t:Nat→Nat) (u:Nat),((symRows false 0 x sp (fun v=>0))=(symRows false q r s t)∧(sp j)=(s u)∧(x.2 j)=(r.2 u)∧u<r.1)∧((x.2 j)=(x.2 j)∧(x.4 j)=(x.4 j)∧capC (x.2 j)∧allEq (x.2 j) (m.3 p) (r.3 u))∧True∧rng (((j:Nat):Int)+(1:Int))∧NX [a,sV 2 P x.1 Q,vV (g 2),vV (g 3),fV,c,vV (g 6),vV (g 7),vV (g 8),vV (g 9),vV (g 10),b,a,iV ((x.1:Nat):Int),tV,b,c,a,b,rV 0 O 2 j 0,aV [Cs 1 (so j) (x.2 j) (sc j),Cb (x.4 j)],sV 2 P x.1 Q,b,rV 2 P 2 j 0,aV [Cs 3 (sp j) (x.2 j) (sq j),Cb (x.4 j)],tV,fV] k)∧(d=false→kx (Exit.exit 0) [a,sV 2 P x.1 Q,vV (g 2),vV (g 3),fV,b,vV (g 6),vV (g 7),vV (g 8),vV (g 9),vV (g 10),b,a,iV ((x.1:Nat):Int),fV,vV (g 15),vV (g 16),vV (g 17),vV (g 18),vV (g 19),vV (g 20),vV (g 21),vV (g 22),vV (g 23),vV (g 24),vV (g 25),vV (g 26)] k)) [Hr false O 0 2 x.1 0 [fun k=>Cs 1 (so k) (x.2 k) (sc k),fun k=>Cb (x.4 k)],Ho false (symRows false 0 x so (fun k=>0)),Hr false P 0 2 x.1 0 [fun k=>Cs 3 (sp k) (x.2 k) (sq k),fun k=>Cb (x.4 k)],Ho false (symRows false 0 x sp (fun k=>0))]) (0≤((j:Nat):Int)∧((j:Nat):Int)<((x.1:Nat):Int))) (decide (((j:Nat):Int)<((x.1:Nat):Int)))) (iV (((j:Nat):Int)+(1:Int)))) (iV ((j:Nat):Int))) (sV 0 O x.1 C)):=by kernel_rfl
theorem ec_ok (X:Cx):LoopOK Tryz.prog X (theLoop Tryz.f114 0) sec:=by
 intro ts ch kk a w hS hT hd hs
 obtain ⟨x,O,C,so,sc,P,Q,sp,sq,⟨h1,rfl,hcap⟩,hk⟩:=hS
 have hn0:=totN_n (sn:=x.sn) x.n
 have hcap':totN x.sn x.n≤2097152:=hcap
 refine loop_ok mixed (E:={tb:=[(142,sEqC)]}) ⟨sEqC_ok,trivial⟩ (loopsOK_nil _ _ _) 400 x.n (fun j ts ch=>∃ g,ts=ecH x O C so sc P Q sp sq (.int (j:Int)) g∧ch=ecT x O C so sc P Q sp sq) ?_ ?_ hT hd hs
 ·rintro j _ _ ⟨g,rfl,rfl⟩ hj
  refine (@Eq.mpr _ _ (ecB x O C so sc P Q sp sq j g _ _) ?_)
  dsimp -zeta -proj -iota -eta -failIfUnchanged (etaStruct:=.none) only
  by_cases hlt:j<x.n
  ·have hsn:capC (x.sn j):=by have:=totN_sn (sn:=x.sn) hlt;show _≤_;omega
   repeat' (first
    | with_reducible exact rfl
    | exact True.intro
    | with_reducible assumption
    | (refine ⟨_,_,_,_,_,⟨rfl,rfl,rfl,?_⟩,?_⟩)
    | (refine ⟨hlt,?_⟩;show Next _ _ _ _;refine Next.mk (fun g=>ecH x O C so sc P Q sp sq (.int ((j+1:Nat):Int)) g) _ ⟨_,rfl,rfl⟩ rfl fun w hw=>hw)
    | (intro i hi;with_reducible exact rfl)
    | refine And.intro ?_ ?_
    | apply Exists.intro
    | (intro h;replace h:=of_decide_eq_true h;first | (exfalso;omega) | skip)
    | (intro h;replace h:=of_decide_eq_false h;first | (exfalso;omega) | skip)
    | intro _
    | omega
    | (simp;omega))
  ·have hjn:j=x.n:=by omega
   repeat' (first
    | with_reducible exact rfl
    | exact True.intro
    | with_reducible assumption
    | (refine Next.mk (fun g=>ecH x O C so sc P Q sp sq (.int (j:Int)) g) _ (hk _ _) rfl fun w hw=>hw)
    | refine And.intro ?_ ?_
    | apply Exists.intro
    | (intro h;replace h:=of_decide_eq_true h;first | (exfalso;omega) | skip)
    | (intro h;replace h:=of_decide_eq_false h;first | (exfalso;omega) | skip)
    | intro _
    | omega
    | (simp;omega))
 ·exact Next.mk (fun g=>ecH x O C so sc P Q sp sq (.int ((0:Nat):Int)) g) _ ⟨_,rfl,rfl⟩ h1 fun w hw=>hw
theorem eqCs_T (x:CD)(O:Option Addr)(C:Nat)(so:Nat→Option Addr)(sc:Nat→Nat)(P:Option Addr)(Q:Nat)(sp:Nat→Option Addr)(sq:Nat→Nat):(exFn Tryz.prog { L:=[(4,sec)] } 400 Tryz.f114 ([.a (.c (.sl 0 O x.n C)),.a (.c (.sl 2 P x.n Q))]) ([.row ⟨false,O,0,2,x.n,0,cellFld 1 x so sc⟩,.obj false (symRows false 0 x so (fun _=>0)),.row ⟨false,P,0,2,x.n,0,cellFld 3 x sp sq⟩,.obj false (symRows false 0 x sp (fun _=>0))]) (fun v _=>v.den=.bool true))=(
 (fun b:Value=>(fun d:Value=>(fun g:Value=>(fun h:Bool=>(h=true→d=(Wb true))∧(h=false→∃(j:CD) (k:Option Addr) (l:Nat) (m:Nat→Option Addr) (o:Nat→Nat) (p:Option Addr) (q:Nat) (r:Nat→Option Addr) (s:Nat→Nat),([Ws O x.1 C,Ws P x.1 Q,b,b,d,Wi 0,Ws O x.1 C,g,Ws P x.1 Q,g,d,b,b,b,b,b,b,b,b,b,b,b,b,b,b,b,b]=[Ws k j.1 l,Ws p j.1 q,b,b,d,Wi 0,Ws O x.1 C,g,Ws P x.1 Q,g,d,b,b,b,b,b,b,b,b,b,b,b,b,b,b,b,b]∧[Hr false O 0 2 x.1 0 [fun t=>Cs 1 (so t) (x.2 t) (sc t),fun t=>Cb (x.4 t)],Ho false (symRows false 0 x so (fun t=>0)),Hr false P 0 2 x.1 0 [fun t=>Cs 3 (sp t) (x.2 t) (sq t),fun t=>Cb (x.4 t)],Ho false (symRows false 0 x sp (fun t=>0))]=[Hr false k 0 2 j.1 0 [fun t=>Cs 1 (m t) (j.2 t) (o t),fun t=>Cb (j.4 t)],Ho false (symRows false 0 j m (fun t=>0)),Hr false p 0 2 j.1 0 [fun t=>Cs 3 (r t) (j.2 t) (s t),fun t=>Cb (j.4 t)],Ho false (symRows false 0 j r (fun t=>0))]∧capK j)∧∀(t:Nat→Value) (u:Int),(Wb true)=(Wb true))) (((x.1:Nat):Int) != ((x.1:Nat):Int))) (Wi ((x.1:Nat):Int))) (Wb false)) (Wu [])):=by kernel_rfl
theorem eqCs_any (x:CD)(O:Option Addr)(C:Nat)(so:Nat→Option Addr)(sc:Nat→Nat)(P:Option Addr)(Q:Nat)(sp:Nat→Option Addr)(sq:Nat→Nat)(w:World)(hA:SeenC w x O so sc)(hB:SeenC w x P sp sq)(hcap:capK x):Calls Tryz.prog 114 #[.slice O x.n C,.slice P x.n Q] w fun e w'=>e=.returned (.bool true)∧Below w.heap.size w w':=by
 refine fn_ok mixed (E:={ L:=[(4,sec)] }) trivial Tryz.func114 (one_loop (by kernel_rfl) (by kernel_rfl) (ec_ok _)) (@Eq.mpr _ _ (eqCs_T x O C so sc P Q sp sq) ?_) (HS.seenAll (fun _=>False) _ (hA.all 1 (hB.all 3 seenC_nil))) (fun v ch' w' hv hs=>⟨by rw [hv],hs.below⟩)
 dsimp -zeta -proj -iota -eta -failIfUnchanged (etaStruct:=.none) only
 clear hA hB
 have hn0:=totN_n (sn:=x.sn) x.n
 have hcap':totN x.sn x.n≤2097152:=hcap
 repeat' (first
  | with_reducible exact rfl
  | exact True.intro
  | with_reducible assumption
  | exact hcap
  | refine And.intro ?_ ?_
  | apply Exists.intro
  | (intro h;exfalso;simp at h;done)
  | intro _
  | omega)
def sEqCs:Sm:=fun args ch kk =>
 match args with
 | [.a (.c c),.a (.c d)]=>rdK ch c fun x=>rdK ch d fun y=>(y=x∧capK x)∧kk (.a (.c (.lit true))) ch []
 | _=>False
theorem sEqCs_ok:SmOK Tryz.prog 114 sEqCs:=by
 refine smB Tryz.call114 fun args ch kk w X h0 hs=>?_
 unfold sEqCs at h0
 split at h0
 ·obtain ⟨x,O,C,so,sc,e,hA,h1⟩:=rdK_ok h0 hs
  obtain ⟨y,P,Q,sp,sq,e2,hB,⟨rfl,hc⟩,h2⟩:=rdK_ok h1 hs
  refine ⟨_,h2,?_⟩
  simp only [List.map_cons,List.map_nil,den_a,den_c,e,e2]
  exact eqCs_any _ O C so sc P Q sp sq w hA hB hc
 ·exact h0.elim
def mcH (x:CD)(O:Option Addr)(C:Nat)(so:Nat→Option Addr)(sc:Nat→Nat)(tt t cap:Nat)(k0:Int)(k i:SC)(g:Nat→Value):List SV:=[.a (.c (.sl 0 O x.n C)),.a (.c k),.a (.c (.val (g 2))),.a (.c (.val (g 3))),.a (.c (.val (g 4))),.a (.c i),.a (.c (.val (g 6))),.a (.c (.val (g 7))),.a (.c (.val (g 8))),.a (.c (.val (g 9))),.a (.c (.val (g 10))),.a (.c (.val (g 11))),.a (.c (.val (g 12))),.a (.c (.val (g 13))),.a (.c (.val (g 14))),.a (.c (.val (g 15))),.a (.c (.val (g 16))),.a (.c (.val (g 17))),.a (.c (.val (g 18))),.a (.c (.val (g 19))),.a (.c (.val (g 20))),.a (.c (.val (g 21))),.a (.c (.val (g 22))),.a (.c (.val (g 23))),.a (.c (.val (g 24))),.a (.c (.val (g 25))),.a (.c (.val (g 26))),.a (.c (.val (g 27))),.a (.c (.val (g 28)))]
def mcT (x:CD)(O:Option Addr)(C:Nat)(so:Nat→Option Addr)(sc:Nat→Nat)(tt t cap:Nat)(k0:Int)(j:Nat):List Ch:=[.row ⟨true,O,tt,2,x.n,cap,[fun i=>.sl 1 (so i) (x.sn i) (sc i),fun i=>.bool (lowB i j (mkPo k0 x.sn i) (x.po i))]⟩,.obj true (symRows true t ⟨x.n,x.sn,fun a q=>lowI a j (mk (kAt k0 x.sn a) 1 0 q) (x.sy a q),x.po⟩ so sc)]
def mcE (x:CD)(O:Option Addr)(C:Nat)(so:Nat→Option Addr)(sc:Nat→Nat)(tt t cap:Nat)(k0:Int):List Ch:=[.row ⟨true,O,tt,2,x.n,cap,cellFld 1 (markCD k0 x) so sc⟩,.obj true (symRows true t (markCD k0 x) so sc)]
theorem mk_po {j n:Nat}{k:Int}{sn:Nat→Nat}{po:Nat→Bool}:∀ i,ltN i n→(SC.bool (if i=j then (mk (kAt k sn j) 1 0 (sn j) % 3 == 0) else if i<j then mkPo k sn i else po i)).den=(SC.bool (if i<j+1 then mkPo k sn i else po i)).den:=fun i hi=>by
 by_cases h1:i<j
 ·have h2:¬ i=j:=by omega
  have h3:i<j+1:=by omega
  simp [SC.den,h1,h2,h3]
 ·by_cases h2:i=j
  ·subst h2
   simp [SC.den,mkPo,imod,ieq]
  ·have h3:¬ i<j+1:=by omega
   simp [SC.den,h1,h2,h3]
theorem mk_rows {o:Bool}{t n j:Nat}{k:Int}{sn:Nat→Nat}{sy:Nat→Nat→Int}{po po2:Nat→Bool}{so:Nat→Option Addr}{sc:Nat→Nat}:symRows o t ⟨n,sn,fun a q=>if a=j then mk (kAt k sn j) 1 0 q else if a<j then mk (kAt k sn a) 1 0 q else sy a q,po⟩ so sc=symRows o t ⟨n,sn,fun a q=>if a<j+1 then mk (kAt k sn a) 1 0 q else sy a q,po2⟩ so sc :=
 symRows_congr rfl fun i hi=>by
  simp only [symRow]
  congr 1
  congr 1
  funext q
  by_cases h1:i<j
  ·have h2:¬ i=j:=by omega
   have h3:i<j+1:=by omega
   simp [h1,h2,h3]
  ·by_cases h2:i=j
   ·subst h2
    simp
   ·have h3:¬ i<j+1:=by omega
    simp [h1,h2,h3]
theorem mk_all {o:Bool}{t:Nat}{k:Int}{x:CD}{po:Nat→Bool}{so:Nat→Option Addr}{sc:Nat→Nat}:symRows o t ⟨x.n,x.sn,fun a q=>if a<x.n then mk (kAt k x.sn a) 1 0 q else x.sy a q,po⟩ so sc=symRows o t (markCD k x) so sc :=
 symRows_congr rfl fun i hi=>by
  have hi:i<x.n:=hi
  simp [symRow,markCD,hi]
theorem mk_none {o:Bool}{t:Nat}{k:Int}{x:CD}{so:Nat→Option Addr}{sc:Nat→Nat}:symRows o t x so sc=symRows o t ⟨x.n,x.sn,fun a q=>if a<0 then mk (kAt k x.sn a) 1 0 q else x.sy a q,x.po⟩ so sc :=
 symRows_congr rfl fun i hi=>by simp [symRow]
theorem mk_poE {n:Nat}{k:Int}{sn:Nat→Nat}{po:Nat→Bool}:∀ i,ltN i n→(SC.bool (if i<n then mkPo k sn i else po i)).den=(SC.bool (mkPo k sn i)).den:=fun i hi=>by
 have h1:i<n:=hi
 simp [SC.den,h1]
def smc:LSm:=fun ts ch kk=>∃ (x:CD) (O:Option Addr) (C:Nat) (so:Nat→Option Addr) (sc:Nat→Nat) (tt t cap:Nat) (k0:Int),(ts.map SV.den=(mcH x O C so sc tt t cap k0 (.int k0) (.il 0) (fun d=>(ts.getD d .undef).den)).map SV.den∧ch=[.row ⟨true,O,tt,2,x.n,cap,cellFld 1 x so sc⟩,.obj true (symRows true t x so sc)]∧capK x∧mrkC k0)∧∀ (g:Nat→Value) (kx:Int),kk (.exit 0) (mcH x O C so sc tt t cap k0 (.int (kAt k0 x.sn x.n)) (.int kx) g) (mcE x O C so sc tt t cap k0)
theorem mcB (x:CD)(O:Option Addr)(C:Nat)(so:Nat→Option Addr)(sc:Nat→Nat)(tt t cap:Nat)(k0:Int)(j:Nat)(g:Nat→Value)(NX:List SV→List Ch→Prop)(kx:Exit→List SV→List Ch→Prop):(exCode Tryz.prog {tb:=[(62,sMarkN)],D:=fun _=>[1]} 400 (theLoop Tryz.f123 0) (mcH x O C so sc tt t cap k0 (.int (kAt k0 x.sn j)) (.int ((j:Nat):Int)) g) (mcT x O C so sc tt t cap k0 j) (loopK NX kx))=(
 (fun a:SV=>(fun b:Int=>(fun c:SV=>(fun d:Int=>(fun h:SV=>(fun k:SV=>(fun l:SV=>(fun m:Bool=>(fun n:Bool=>(fun o:Prop=>(fun p:List Row=>(m=true→O=O∧x.1=x.1∧o∧O=O∧j<x.1∧O=O∧j<x.1∧∃(q:Nat) (r:CD) (s:Nat→Option Addr) (u:Nat→Nat) (v:Nat),(p=(symRows true q r s u)∧(so j)=(s v)∧(x.2 j)=(r.2 v)∧v<r.1∧markC (x.2 j) b)∧divC d (3:Int)∧O=O∧x.1=x.1∧o∧O=O∧j<x.1∧O=O∧j<x.1∧rng (d+(1:Int))∧rng (((j:Nat):Int)+(1:Int))∧NX [a,l,vV (g 2),vV (g 3),vV (g 4),k,c,a,iV ((x.1:Nat):Int),tV,c,k,a,c,rV 0 O 2 j 0,rV 0 O 2 j 0,sV 1 (so j) (x.2 j) (sc j),iV b,h,a,c,h,iV (d % (3:Int)),bV n,rV 0 O 2 j 0,rV 0 O 2 j 1,h,l,vV (g 28)] [Hr true O tt 2 x.1 cap [fun w=>Cs 1 (so w) (x.2 w) (sc w),fun w=>Cb (if w=j then n else (if w<j then (mkPo k0 x.2 w) else (x.4 w)))],Ho true (symRows true q (CD.mk r.1 r.2 (fun w=>fun y=>if w=v then (mk b 1 0 y) else (r.3 w y)) r.4) s u)])∧(m=false→kx (Exit.exit 0) [a,iV b,vV (g 2),vV (g 3),vV (g 4),c,c,a,iV ((x.1:Nat):Int),fV,vV (g 10),vV (g 11),vV (g 12),vV (g 13),vV (g 14),vV (g 15),vV (g 16),vV (g 17),vV (g 18),vV (g 19),vV (g 20),vV (g 21),vV (g 22),vV (g 23),vV (g 24),vV (g 25),vV (g 26),vV (g 27),vV (g 28)] [Hr true O tt 2 x.1 cap [fun q=>Cs 1 (so q) (x.2 q) (sc q),fun q=>Cb (if q<j then (mkPo k0 x.2 q) else (x.4 q))],Ho true p])) (symRows true t (CD.mk x.1 x.2 (fun p=>fun q=>if p<j then (mk (kAt k0 x.2 p) 1 0 q) else (x.3 p q)) x.4) so sc)) (0≤((j:Nat):Int)∧((j:Nat):Int)<((x.1:Nat):Int))) ((d % (3:Int)) == (0:Int))) (decide (((j:Nat):Int)<((x.1:Nat):Int)))) (iV (d+(1:Int)))) (iV (((j:Nat):Int)+(1:Int)))) (iV d)) (mk b 1 0 (x.2 j))) (iV ((j:Nat):Int))) (kAt k0 x.2 j)) (sV 0 O x.1 C)):=by kernel_rfl
theorem mc_ok (X:Cx):LoopOK Tryz.prog X (theLoop Tryz.f123 0) smc:=by
 intro ts ch kk a w hS hT hd hs
 obtain ⟨x,O,C,so,sc,tt,t,cap,k0,⟨h1,rfl,hcap,hk0⟩,hk⟩:=hS
 have hn0:=totN_n (sn:=x.sn) x.n
 have hcap':totN x.sn x.n≤2097152:=hcap
 have hk1:=hk0.1
 have hk2:=hk0.2
 refine loop_ok mixed (E:={tb:=[(62,sMarkN)],D:=fun _=>[1]}) ⟨sMarkN_ok,trivial⟩ (loopsOK_nil _ _ _) 400 x.n (fun j ts ch=>∃ g,ts=mcH x O C so sc tt t cap k0 (.int (kAt k0 x.sn j)) (.int ((j:Nat):Int)) g∧ch=mcT x O C so sc tt t cap k0 j) ?_ ?_ hT hd hs
 ·rintro j _ _ ⟨g,rfl,rfl⟩ hj
  refine (@Eq.mpr _ _ (mcB x O C so sc tt t cap k0 j g _ _) ?_)
  dsimp -zeta -proj -iota -eta -failIfUnchanged (etaStruct:=.none) only
  have hb:=kAt_in (k:=k0) hj hcap' (by omega)
  by_cases hlt:j<x.n
  ·have hsn:x.sn j≤2097152:=by have:=totN_sn (sn:=x.sn) hlt;omega
   have hmc:markC (x.sn j) (kAt k0 x.sn j):=⟨hsn,hb.1,hb.2⟩
   have hm:0≤mk (kAt k0 x.sn j) 1 0 (x.sn j)∧mk (kAt k0 x.sn j) 1 0 (x.sn j)≤1099513724928:=by simp only [mk];omega
   repeat' (first
    | with_reducible exact rfl
    | exact True.intro
    | with_reducible assumption
    | (refine ⟨_,_,_,_,_,⟨rfl,rfl,rfl,?_,hmc⟩,?_⟩)
    | (refine ⟨hlt,?_⟩;show Next _ _ _ _;refine Next.mk (fun g=>mcH x O C so sc tt t cap k0 (.int (kAt k0 x.sn (j+1))) (.int (((j+1):Nat):Int)) g) (mcT x O C so sc tt t cap k0 (j+1)) ⟨_,rfl,rfl⟩ (by rw [← kAt_next];rfl) fun w hw=>SelS.hs (l:=[0,1]) (by refine ⟨?_,rfl⟩;repeat' (first | exact True.intro | exact symRows_push | exact rfl | refine And.intro ?_ ?_ | (intro i hi;show _=_;with_reducible rfl) | (intro i hi;show _=_;rfl) | exact mk_po | exact mk_rows | (intro i hi;show _=_;simp only [SC.den];split <;> rfl))) hw)
    | refine And.intro ?_ ?_
    | apply Exists.intro
    | (intro h;replace h:=of_decide_eq_true h;first | (exfalso;omega) | skip)
    | (intro h;replace h:=of_decide_eq_false h;first | (exfalso;omega) | skip)
    | intro _
    | omega
    | (simp;omega))
  ·have hjn:j=x.n:=by omega
   subst hjn
   repeat' (first
    | with_reducible exact rfl
    | exact True.intro
    | with_reducible assumption
    | (refine Next.mk (fun g=>mcH x O C so sc tt t cap k0 (.int (kAt k0 x.sn x.n)) (.int (x.n:Int)) g) _ (hk _ _) rfl fun w hw=>SelS.hs (l:=[0,1]) (by refine ⟨?_,rfl⟩;repeat' (first | exact True.intro | exact symRows_push | exact rfl | refine And.intro ?_ ?_ | (intro i hi;show _=_;with_reducible rfl) | (intro i hi;show _=_;rfl) | exact mk_all | exact mk_poE | (intro i hi;show _=_;simp only [SC.den];split <;> rfl))) hw)
    | refine And.intro ?_ ?_
    | apply Exists.intro
    | (intro h;replace h:=of_decide_eq_true h;first | (exfalso;omega) | skip)
    | (intro h;replace h:=of_decide_eq_false h;first | (exfalso;omega) | skip)
    | intro _
    | omega
    | (simp;omega))
 ·refine Next.mk (fun g=>mcH x O C so sc tt t cap k0 (.int (kAt k0 x.sn 0)) (.int ((0:Nat):Int)) g) _ ⟨_,rfl,rfl⟩ (by rw [h1];simp [mcH,SV.den,SA.den,SC.den,kAt,totN]) fun w hw=>SelS.hs (l:=[0,1]) (by refine ⟨?_,rfl⟩;repeat' (first | exact True.intro | exact symRows_push | exact rfl | refine And.intro ?_ ?_ | (intro i hi;show _=_;with_reducible rfl) | (intro i hi;show _=_;rfl) | exact mk_none | (intro i hi;simp [SC.den];done) | (intro i hi;show _=_;simp only [SC.den];split <;> rfl))) hw
theorem markCs_T (x:CD)(O:Option Addr)(C:Nat)(so:Nat→Option Addr)(sc:Nat→Nat)(tt t cap:Nat)(k0:Int):(exFn Tryz.prog { L:=[(2,smc)] } 400 Tryz.f123 ([.a (.c (.sl 0 O x.n C)),.a (.c (.int k0))]) ([.row ⟨true,O,tt,2,x.n,cap,cellFld 1 x so sc⟩,.obj true (symRows true t x so sc)]) (fun v ch=>v.den=.int .i64 (kAt k0 x.sn x.n)∧SelS ch [0,1] (mcE x O C so sc tt t cap k0)))=(
 (fun b:Value=>∃(d:CD) (g:Option Addr) (h:Nat) (j:Nat→Option Addr) (k:Nat→Nat) (l m o:Nat) (p:Int),([Ws O x.1 C,Wi k0,b,b,Wi 0,Wi 0,b,b,b,b,b,b,b,b,b,b,b,b,b,b,b,b,b,b,b,b,b,b,b]=[Ws g d.1 h,Wi p,b,b,Wi 0,Wi 0,b,b,b,b,b,b,b,b,b,b,b,b,b,b,b,b,b,b,b,b,b,b,b]∧[Hr true O tt 2 x.1 cap [fun q=>Cs 1 (so q) (x.2 q) (sc q),fun q=>Cb (x.4 q)],Ho true (symRows true t x so sc)]=[Hr true g l 2 d.1 o [fun q=>Cs 1 (j q) (d.2 q) (k q),fun q=>Cb (d.4 q)],Ho true (symRows true m d j k)]∧capK d∧mrkC p)∧∀(q:Nat→Value) (r:Int),(Wi (kAt p d.2 d.1))=(Wi (kAt k0 x.2 x.1))∧SelS [Hr true g l 2 d.1 o [fun s=>Cs 1 (j s) ((markCD p d).2 s) (k s),fun s=>Cb ((markCD p d).4 s)],Ho true (symRows true m (markCD p d) j k)] [0,1] [Hr true O tt 2 x.1 cap [fun s=>Cs 1 (so s) ((markCD k0 x).2 s) (sc s),fun s=>Cb ((markCD k0 x).4 s)],Ho true (symRows true t (markCD k0 x) so sc)]) (Wu [])):=by kernel_rfl
theorem markCs_any (x:CD)(O:Option Addr)(C:Nat)(so:Nat→Option Addr)(sc:Nat→Nat)(tt t cap:Nat)(k0:Int)(w:World)(M:Nat→Prop)(hs:HS ⟨w,M⟩ [.row ⟨true,O,tt,2,x.n,cap,cellFld 1 x so sc⟩,.obj true (symRows true t x so sc)] w)(hcap:capK x)(hk0:mrkC k0):Calls Tryz.prog 123 #[.slice O x.n C,.int .i64 k0] w fun e w'=>e=.returned (.int .i64 (kAt k0 x.sn x.n))∧HS ⟨w,M⟩ (mcE x O C so sc tt t cap k0) w':=by
 refine fn_ok mixed (E:={ L:=[(2,smc)] }) trivial Tryz.func123 (one_loop (by kernel_rfl) (by kernel_rfl) (mc_ok _)) (@Eq.mpr _ _ (markCs_T x O C so sc tt t cap k0) ?_) hs (fun v ch' w' ⟨hv,hc⟩ hs=>⟨by rw [hv],hc.hs hs⟩)
 dsimp -zeta -proj -iota -eta -failIfUnchanged (etaStruct:=.none) only
 clear hs
 repeat' (first
  | with_reducible exact rfl
  | exact True.intro
  | with_reducible assumption
  | exact hcap
  | exact hk0
  | exact (by refine ⟨?_,rfl⟩;repeat' (first | exact True.intro | exact symRows_push | exact rfl | refine And.intro ?_ ?_ | (intro i hi;show _=_;with_reducible rfl) | (intro i hi;show _=_;rfl) | (intro i hi;show _=_;simp only [SC.den];split <;> rfl)))
  | refine And.intro ?_ ?_
  | apply Exists.intro
  | intro _
  | omega)
def sMarkCs:Sm:=fun args ch kk =>
 match args with
 | [.a (.c (.sl i0 a0 n0 _)),.a (.c kc)] =>
  match ch[i0]?,asI kc with
  | some (.row r0),some k0 =>
   match ch[nidOf r0.fld]? with
   | some (.obj true rs)=>∃ (t:Nat) (y:CD) (so:Nat→Option Addr) (sc:Nat→Nat),(rs=symRows true t y so sc∧r0.fld=cellFld (nidOf r0.fld) y so sc∧a0=r0.ao∧n0=r0.n∧n0=y.n∧r0.own=true∧capK y∧mrkC k0) ∧
     kk (.a (.c (.int (kAt k0 y.sn y.n)))) ((ch.set i0 (.row { r0 with fld:=cellFld (nidOf r0.fld) (markCD k0 y) so sc })).set (nidOf r0.fld) (.obj true (symRows true t (markCD k0 y) so sc))) [i0,nidOf r0.fld]
   | _=>False
  | _,_=>False
 | _=>False
theorem row_obj_ne {ch:List Ch}{i j:Nat}{r:Row}{o:Bool}{rs:List Row}(h1:ch[i]?=some (.row r))(h2:ch[j]?=some (.obj o rs)):i ≠ j:=fun e=>by
 rw [e,h2] at h1
 cases h1
theorem sym_at {o:Bool}{t:Nat}{x y:CD}{so:Nat→Option Addr}{sc:Nat→Nat}(hn:y.n=x.n)(hs:∀ i,i<x.n→y.sn i=x.sn i):∀ b,(Ch.obj o (symRows o t y so sc)).at b→(Ch.obj o (symRows o t x so sc)).at b:=fun b ⟨r,hr,ha⟩=>by
 obtain ⟨i,hi,rfl⟩:=List.mem_map.1 hr
 have hi:i<x.n:=by have:=List.mem_range.1 hi;omega
 refine ⟨_,symRows_mem hi,?_⟩
 obtain ⟨h1,off,h2⟩:=ha
 refine ⟨?_,off,h2⟩
 rcases h1 with h1 | h1
 ·exact .inl h1
 ·right
  simp only [symRow] at h1 ⊢
  rw [← hs i hi]
  exact h1
theorem sMarkCs_ok:SmOK Tryz.prog 123 sMarkCs:=by
 refine ⟨Tryz.call123,fun X args ch kk w h0 hs=>?_⟩
 unfold sMarkCs at h0
 split at h0
 ·rename_i i0 a0 n0 c0 kc
  split at h0
  ·rename_i r0 k0 hi0 hkc
   split at h0
   ·rename_i rs hid
    obtain ⟨t,y,so,sc,⟨rfl,f0,rfl,rfl,hn,ho,hc,hk⟩,h1⟩:=h0
    have hne:=row_obj_ne hi0 hid
    have hr:r0.sat w:=hs.sat i0 _ hi0
    have h2:r0.s=2:=by have:=hr.1;rw [f0] at this;exact this.symm
    have hsel:=hs.owns [i0,nidOf r0.fld] (by simp [hne]) (fun b=>(Ch.row r0).at b∨(Ch.obj true (symRows true t y so sc)).at b) (fun i c b hi _ hb=>by
     have e:selC ch [i0,nidOf r0.fld]=[.row r0,.obj true (symRows true t y so sc)]:=by simp [selC,hi0,hid]
     rw [e] at hi
     match i with
     | 0=>simp at hi;subst hi;exact .inl hb
     | 1=>simp at hi;subst hi;exact .inr hb
     | i+2=>simp at hi)
    have e:selC ch [i0,nidOf r0.fld]=[.row r0,.obj true (symRows true t y so sc)]:=by simp [selC,hi0,hid]
    rw [e] at hsel
    obtain ⟨ow,O,tt,s',n,cap,fs⟩:=r0
    simp only at f0 hn ho h2 hr h1 hid hi0 hne hsel ⊢
    subst ho
    subst h2
    subst hn
    simp only [List.map_cons,List.map_nil,den_a,den_c,asI_den hkc]
    have hst:HS ⟨w,fun b=>(Ch.row ⟨true,O,tt,2,y.n,cap,fs⟩).at b∨(Ch.obj true (symRows true t y so sc)).at b⟩ [.row ⟨true,O,tt,2,y.n,cap,cellFld 1 y so sc⟩,.obj true (symRows true t y so sc)] w:=by
     refine hsel.reS ⟨⟨rfl,rfl,rfl,rfl,rfl,rfl,?_⟩,⟨rfl,rfl⟩,trivial⟩
     rw [f0]
     exact ⟨fun i hi=>rfl,fun i hi=>rfl,trivial⟩
    refine Calls.mono (markCs_any y O c0 so sc tt t cap k0 w _ hst hc hk) fun e w' ⟨he,hs'⟩=>⟨.a (.c (.int (kAt k0 y.sn y.n))),_,[i0,nidOf fs],he,?_,?_,h1⟩
    ·refine hs.swap2 hi0 hid hne rfl rfl hs' ?_ (hs'.sat 1 _ rfl) (fun b hb=>⟨.inl rfl,hb.2⟩) (sym_at rfl fun _ _=>rfl)
     exact Row.reF (hs'.sat 0 _ rfl) ⟨fun i hi=>rfl,fun i hi=>rfl,trivial⟩
    ·intro i c hi hm
     have h3:i ≠ i0:=fun q=>hm (by simp [q])
     have h4:i ≠ nidOf fs:=fun q=>hm (by simp [q])
     rw [List.getElem?_set_ne (fun q=>h4 q.symm),List.getElem?_set_ne (fun q=>h3 q.symm)]
     exact hi
   ·exact h0.elim
  ·exact h0.elim
 ·exact h0.elim
def hcH (x:CD)(O:Option Addr)(C:Nat)(so:Nat→Option Addr)(sc:Nat→Nat)(k0:Int)(k i:SC)(g:Nat→Value):List SV:=[.a (.c (.sl 0 O x.n C)),.a (.c k),.a (.c (.val (g 2))),.a (.c (.val (g 3))),.a (.c (.il 0)),.a (.c i),.a (.c (.val (g 6))),.a (.c (.val (g 7))),.a (.c (.val (g 8))),.a (.c (.val (g 9))),.a (.c (.val (g 10))),.a (.c (.val (g 11))),.a (.c (.val (g 12))),.a (.c (.val (g 13))),.a (.c (.val (g 14))),.a (.c (.val (g 15))),.a (.c (.val (g 16))),.a (.c (.val (g 17))),.a (.c (.val (g 18))),.a (.c (.val (g 19))),.a (.c (.val (g 20))),.a (.c (.val (g 21))),.a (.c (.val (g 22))),.a (.c (.val (g 23))),.a (.c (.val (g 24))),.a (.c (.val (g 25))),.a (.c (.val (g 26))),.a (.c (.val (g 27))),.a (.c (.val (g 28))),.a (.c (.val (g 29))),.a (.c (.val (g 30))),.a (.c (.val (g 31))),.a (.c (.val (g 32)))]
def hcT (x:CD)(O:Option Addr)(C:Nat)(so:Nat→Option Addr)(sc:Nat→Nat)(k0:Int):List Ch:=[.row ⟨false,O,0,2,(markCD k0 x).n,0,cellFld 1 (markCD k0 x) so sc⟩,.obj false (symRows false 0 (markCD k0 x) so (fun _=>0))]
def shc:LSm:=fun ts ch kk=>∃ (x:CD) (O:Option Addr) (C:Nat) (so:Nat→Option Addr) (sc:Nat→Nat) (k0:Int),(ts.map SV.den=(hcH x O C so sc k0 (.int k0) (.il 0) (fun d=>(ts.getD d .undef).den)).map SV.den∧ch=hcT x O C so sc k0∧capK x∧mrkC k0)∧∀ (g:Nat→Value) (kx:Int),kk (.exit 0) (hcH x O C so sc k0 (.int (kAt k0 x.sn x.n)) (.int kx) g) (hcT x O C so sc k0)
theorem hcB (x:CD)(O:Option Addr)(C:Nat)(so:Nat→Option Addr)(sc:Nat→Nat)(k0:Int)(j:Nat)(g:Nat→Value)(NX:List SV→List Ch→Prop)(kx:Exit→List SV→List Ch→Prop):(exCode Tryz.prog {tb:=[(83,sHeldN)]} 400 (theLoop Tryz.f126 0) (hcH x O C so sc k0 (.int (kAt k0 x.sn j)) (.int ((j:Nat):Int)) g) (hcT x O C so sc k0) (loopK NX kx))=(
 (fun a:SV=>(fun b:CD=>(fun c:SV=>(fun d:SV=>(fun h:Int=>(fun k:SV=>(fun l:SV=>(fun m:SV=>(fun n:SV=>(fun o:SV=>(fun p:Int=>(fun q:List Row=>(fun r:SV=>(fun s:Bool=>(fun t:SV=>(fun u:SV=>(fun v:Bool=>(fun w:Prop=>(fun y:Bool=>(fun z:SV=>(fun B:Bool=>(fun D:List Ch=>(s=true→O=O∧x.1=b.1∧w∧O=O∧j<b.1∧O=O∧j<b.1∧∃(E:Nat) (F:CD) (G:Nat→Option Addr) (H:Nat→Nat) (I:Nat),(q=(symRows false E F G H)∧(so j)=(G I)∧(b.2 j)=(F.2 I)∧I<F.1)∧(markC (b.2 j) h∧allEq (b.2 j) (F.3 I) (fun J=>mk h 1 0 J))∧(v=true→kx Exit.ret [d,r,vV (g 2),vV (g 3),lV (-1),l,l,d,m,tV,vV (g 10),vV (g 11),d,l,c,c,o,k,r,r,tV,vV (g 21),vV (g 22),vV (g 23),vV (g 24),vV (g 25),vV (g 26),vV (g 27),vV (g 28),vV (g 29),vV (g 30),vV (g 31),a] D)∧(v=false→O=O∧x.1=b.1∧w∧O=O∧j<b.1∧O=O∧j<b.1∧divC p (3:Int)∧(B=true→kx Exit.ret [d,r,vV (g 2),vV (g 3),lV (-1),l,l,d,m,tV,vV (g 10),vV (g 11),d,l,c,c,o,k,r,r,fV,d,l,c,rV 0 O 2 j 1,bV (b.4 j),r,u,z,tV,vV (g 30),vV (g 31),a] D)∧(B=false→rng (p+(1:Int))∧rng (((j:Nat):Int)+(1:Int))∧NX [d,t,vV (g 2),vV (g 3),lV 0,n,l,d,m,tV,l,n,d,l,c,c,o,k,r,r,fV,d,l,c,rV 0 O 2 j 1,bV (b.4 j),r,u,z,fV,r,t,a] D)))∧(s=false→kx (Exit.exit 0) [d,k,vV (g 2),vV (g 3),lV 0,l,l,d,m,fV,vV (g 10),vV (g 11),vV (g 12),vV (g 13),vV (g 14),vV (g 15),vV (g 16),vV (g 17),vV (g 18),vV (g 19),vV (g 20),vV (g 21),vV (g 22),vV (g 23),vV (g 24),vV (g 25),vV (g 26),vV (g 27),vV (g 28),vV (g 29),vV (g 30),vV (g 31),a] D)) [Hr false O 0 2 b.1 0 [fun D=>Cs 1 (so D) (b.2 D) (sc D),fun D=>Cb (b.4 D)],Ho false q]) ((b.4 j) != y)) (bV y)) ((p % (3:Int)) == (0:Int))) (0≤((j:Nat):Int)∧((j:Nat):Int)<((x.1:Nat):Int))) (decide (p<(0:Int)))) (iV (p % (3:Int)))) (iV (p+(1:Int)))) (decide (((j:Nat):Int)<((x.1:Nat):Int)))) (iV p)) (symRows false 0 b so (fun q=>0))) (mk h 1 0 (b.2 j))) (sV 1 (so j) (b.2 j) (sc j))) (iV (((j:Nat):Int)+(1:Int)))) (iV ((x.1:Nat):Int))) (iV ((j:Nat):Int))) (iV h)) (kAt k0 x.2 j)) (sV 0 O x.1 C)) (rV 0 O 2 j 0)) (markCD k0 x)) (vV (g 32))):=by kernel_rfl
theorem hc_ok (X:Cx):LoopOK Tryz.prog X (theLoop Tryz.f126 0) shc:=by
 intro ts ch kk a w hS hT hd hs
 obtain ⟨x,O,C,so,sc,k0,⟨h1,rfl,hcap,hk0⟩,hk⟩:=hS
 have hn0:=totN_n (sn:=x.sn) x.n
 have hcap':totN x.sn x.n≤2097152:=hcap
 have hk1:=hk0.1
 have hk2:=hk0.2
 refine loop_ok mixed (E:={tb:=[(83,sHeldN)]}) ⟨sHeldN_ok,trivial⟩ (loopsOK_nil _ _ _) 400 x.n (fun j ts ch=>∃ g,ts=hcH x O C so sc k0 (.int (kAt k0 x.sn j)) (.int ((j:Nat):Int)) g∧ch=hcT x O C so sc k0) ?_ ?_ hT hd hs
 ·rintro j _ _ ⟨g,rfl,rfl⟩ hj
  refine (@Eq.mpr _ _ (hcB x O C so sc k0 j g _ _) ?_)
  dsimp -zeta -proj -iota -eta -failIfUnchanged (etaStruct:=.none) only
  have hb:=kAt_in (k:=k0) hj hcap' (by omega)
  by_cases hlt:j<x.n
  ·have hsn:x.sn j≤2097152:=by have:=totN_sn (sn:=x.sn) hlt;omega
   have hmc:markC (x.sn j) (kAt k0 x.sn j):=⟨hsn,hb.1,hb.2⟩
   have hlt2:j<(markCD k0 x).n:=hlt
   have hm:0≤mk (kAt k0 x.sn j) 1 0 (x.sn j)∧mk (kAt k0 x.sn j) 1 0 (x.sn j)≤1099513724928:=by simp only [mk];omega
   have e1:(markCD k0 x).sn j=x.sn j:=rfl
   have e2:(markCD k0 x).n=x.n:=rfl
   simp only [e1,e2]
   repeat' (first
    | with_reducible exact rfl
    | exact True.intro
    | with_reducible assumption
    | (refine ⟨_,_,_,_,j,⟨rfl,rfl,rfl,?_⟩,⟨hmc,fun q hq=>rfl⟩,?_⟩)
    | exact ⟨_,_,_,_,j,⟨rfl,rfl,rfl,hlt2⟩,⟨hmc,fun q hq=>rfl⟩,?_⟩
    | (intro h;exfalso;simp [markCD,mkPo,imod,ieq] at h;done)
    | (refine ⟨hlt,?_⟩;show Next _ _ _ _;refine Next.mk (fun g=>hcH x O C so sc k0 (.int (kAt k0 x.sn (j+1))) (.int (((j+1):Nat):Int)) g) _ ⟨_,rfl,rfl⟩ (by rw [← kAt_next];rfl) fun w hw=>hw)
    | refine And.intro ?_ ?_
    | apply Exists.intro
    | (intro h;replace h:=of_decide_eq_true h;first | (exfalso;omega) | skip)
    | (intro h;replace h:=of_decide_eq_false h;first | (exfalso;omega) | skip)
    | intro _
    | omega
    | (simp;omega))
  ·have hjn:j=x.n:=by omega
   subst hjn
   repeat' (first
    | with_reducible exact rfl
    | exact True.intro
    | with_reducible assumption
    | (refine Next.mk (fun g=>hcH x O C so sc k0 (.int (kAt k0 x.sn x.n)) (.int (x.n:Int)) g) _ (hk _ _) rfl fun w hw=>hw)
    | (intro h;exfalso;have e2:(markCD k0 x).n=x.n:=rfl;rw [e2] at h;simp at h;done)
    | refine And.intro ?_ ?_
    | apply Exists.intro
    | (intro h;replace h:=of_decide_eq_true h;first | (exfalso;omega) | skip)
    | (intro h;replace h:=of_decide_eq_false h;first | (exfalso;omega) | skip)
    | intro _
    | omega
    | (simp;omega))
 ·refine Next.mk (fun g=>hcH x O C so sc k0 (.int (kAt k0 x.sn 0)) (.int ((0:Nat):Int)) g) _ ⟨_,rfl,rfl⟩ (by rw [h1];simp [hcH,SV.den,SA.den,SC.den,kAt,totN]) fun w hw=>hw
theorem heldCs_T (x:CD)(O:Option Addr)(C:Nat)(so:Nat→Option Addr)(sc:Nat→Nat)(k0:Int):(exFn Tryz.prog { L:=[(2,shc)] } 400 Tryz.f126 ([.a (.c (.sl 0 O x.n C)),.a (.c (.int k0))]) (hcT x O C so sc k0) (fun v ch=>v.den=.int .i64 (kAt k0 x.sn x.n)))=(
 ∃(b:CD) (d:Option Addr) (g:Nat) (h:Nat→Option Addr) (j:Nat→Nat) (k:Int),([Ws O x.1 C,Wi k0,Wu [],Wu [],Wi 0,Wi 0,Wu [],Wu [],Wu [],Wu [],Wu [],Wu [],Wu [],Wu [],Wu [],Wu [],Wu [],Wu [],Wu [],Wu [],Wu [],Wu [],Wu [],Wu [],Wu [],Wu [],Wu [],Wu [],Wu [],Wu [],Wu [],Wu [],Wu []]=[Ws d b.1 g,Wi k,Wu [],Wu [],Wi 0,Wi 0,Wu [],Wu [],Wu [],Wu [],Wu [],Wu [],Wu [],Wu [],Wu [],Wu [],Wu [],Wu [],Wu [],Wu [],Wu [],Wu [],Wu [],Wu [],Wu [],Wu [],Wu [],Wu [],Wu [],Wu [],Wu [],Wu [],Wu []]∧[Hr false O 0 2 (markCD k0 x).1 0 [fun l=>Cs 1 (so l) ((markCD k0 x).2 l) (sc l),fun l=>Cb ((markCD k0 x).4 l)],Ho false (symRows false 0 (markCD k0 x) so (fun l=>0))]=[Hr false d 0 2 (markCD k b).1 0 [fun l=>Cs 1 (h l) ((markCD k b).2 l) (j l),fun l=>Cb ((markCD k b).4 l)],Ho false (symRows false 0 (markCD k b) h (fun l=>0))]∧capK b∧mrkC k)∧∀(l:Nat→Value) (m:Int),(Wi (kAt k b.2 b.1))=(Wi (kAt k0 x.2 x.1))):=by kernel_rfl
theorem heldCs_any (x:CD)(O:Option Addr)(C:Nat)(so:Nat→Option Addr)(sc:Nat→Nat)(k0:Int)(w:World)(hA:SeenC w (markCD k0 x) O so sc)(hcap:capK x)(hk0:mrkC k0):Calls Tryz.prog 126 #[.slice O x.n C,.int .i64 k0] w fun e w'=>e=.returned (.int .i64 (kAt k0 x.sn x.n))∧Below w.heap.size w w':=by
 refine fn_ok mixed (E:={ L:=[(2,shc)] }) trivial Tryz.func126 (one_loop (by kernel_rfl) (by kernel_rfl) (hc_ok _)) (@Eq.mpr _ _ (heldCs_T x O C so sc k0) ?_) (HS.seenAll (fun _=>False) _ (hA.all 1 seenC_nil)) (fun v ch' w' hv hs=>⟨by rw [hv],hs.below⟩)
 clear hA
 repeat' (first
  | with_reducible exact rfl
  | exact True.intro
  | with_reducible assumption
  | exact hcap
  | exact hk0
  | refine And.intro ?_ ?_
  | apply Exists.intro
  | intro _
  | omega)
def sHeldCs:Sm:=fun args ch kk =>
 match args with
 | [.a (.c c),.a (.c kc)] =>
  match asI kc with
  | some k0=>rdK ch c fun y=>∃ x:CD,(y=markCD k0 x∧capK x∧mrkC k0)∧kk (.a (.c (.int (kAt k0 x.sn x.n)))) ch []
  | none=>False
 | _=>False
theorem sHeldCs_ok:SmOK Tryz.prog 126 sHeldCs:=by
 refine smB Tryz.call126 fun args ch kk w X h0 hs=>?_
 unfold sHeldCs at h0
 split at h0
 ·split at h0
  ·rename_i k0 hkc
   obtain ⟨y,O,C,so,sc,e,hA,x,⟨rfl,hc,hk⟩,h1⟩:=rdK_ok h0 hs
   refine ⟨_,h1,?_⟩
   simp only [List.map_cons,List.map_nil,den_a,den_c,e,asI_den hkc]
   exact heldCs_any x O C so sc k0 w hA hc hk
  ·exact h0.elim
 ·exact h0.elim
def sEqIntR:Sm:=fun args ch k =>
 match args with
 | [.a (.c c),.a (.c d)]=>rdn ch c fun n g0=>rdn ch d fun m q0=>(m=n∧capC n∧∀ i,ltN i n→g0 i=q0 i)∧k (.a (.c (.lit true))) ch []
 | _=>False
theorem sEqIntR_ok:SmOK Tryz.prog 51 sEqIntR:=by
 refine smB Tryz.call51 fun args ch k w X h0 hs=>?_
 unfold sEqIntR at h0
 split at h0
 ·obtain ⟨ao,n,c,g0,e,hr,h0⟩:=rdn_ok h0 hs
  obtain ⟨bo,m,d,q0,e2,hr2,⟨hm,hn,hq⟩,h1⟩:=rdn_ok h0 hs
  subst hm
  refine ⟨_,h1,?_⟩
  simp only [List.map_cons,List.map_nil,den_a,den_c,e,e2]
  exact eqIntS_any ao bo _ c d g0 q0 w (by have:_≤2097152:=hn;omega) hq hr hr2
 ·exact h0.elim
structure TK where
 n:Nat
 rn:Nat→Nat
 ry:Nat→Nat→Int
 qn:Nat→Nat
 qy:Nat→Nat→Int
 sp:Nat→Int
def tkR (x:TK):CD:=⟨x.n,x.rn,x.ry,fun _=>false⟩
def tkQ (x:TK):CD:=⟨x.n,x.qn,x.qy,fun _=>false⟩
def trkFld (a b:Nat)(x:TK)(so:Nat→Option Addr)(sc:Nat→Nat)(uo:Nat→Option Addr)(uc:Nat→Nat):List (Nat→SC):=[fun i=>.sl a (so i) (x.rn i) (sc i),fun i=>.sl b (uo i) (x.qn i) (uc i),fun i=>.int (x.sp i)]
def nid2Of (fs:List (Nat→SC)):Nat :=
 match fs with
 | _::f::_=>idA (f 0) 1000004
 | _=>1000004
structure SeenT (w:World) (x:TK) (O:Option Addr) (so:Nat→Option Addr) (sc:Nat→Nat) (uo:Nat→Option Addr) (uc:Nat→Nat):Prop where
 h0:∀ a b,Row.sat w ⟨false,O,0,3,x.n,0,trkFld a b x so sc uo uc⟩
 h1:∀ r∈symRows false 0 (tkR x) so (fun _=>0),r.own=false∧r.sat w
 h2:∀ r∈symRows false 0 (tkQ x) uo (fun _=>0),r.own=false∧r.sat w
theorem SeenT.all {w:World}{x:TK}{O:Option Addr}{so:Nat→Option Addr}{sc:Nat→Nat}{uo:Nat→Option Addr}{uc:Nat→Nat}(h:SeenT w x O so sc uo uc)(b:Nat){cs:List Ch}(hc:∀ c∈cs,c.own=false∧c.sat w):∀ c∈[Ch.row ⟨false,O,0,3,x.n,0,trkFld b (b+1) x so sc uo uc⟩,.obj false (symRows false 0 (tkR x) so (fun _=>0)),.obj false (symRows false 0 (tkQ x) uo (fun _=>0))] ++ cs,c.own=false∧c.sat w :=
 seenC_row rfl (h.h0 _ _) (seenC_obj h.h1 (seenC_obj h.h2 hc))
def rdT (ch:List Ch)(c:SC)(K:TK→Prop):Prop :=
 match c with
 | .sl i0 a0 n0 _ =>
  match ch[i0]? with
  | some (.row r0) =>
   match ch[nidOf r0.fld]?,ch[nid2Of r0.fld]? with
   | some (.obj o rs),some (.obj p us)=>∃ (t t2:Nat) (y:TK) (so:Nat→Option Addr) (sc sd:Nat→Nat) (uo:Nat→Option Addr) (uc ud:Nat→Nat),(rs=symRows o t (tkR y) so sd∧us=symRows p t2 (tkQ y) uo ud∧r0.fld=trkFld (nidOf r0.fld) (nid2Of r0.fld) y so sc uo uc∧a0=r0.ao∧n0=r0.n∧n0=y.n)∧K y
   | _,_=>False
  | _=>False
 | _=>False
theorem rdT_ok {ch:List Ch}{c:SC}{K:TK→Prop}(h:rdT ch c K){X:Cx}{w:World}(hs:HS X ch w):∃ (x:TK) (O:Option Addr) (C:Nat) (so:Nat→Option Addr) (sc:Nat→Nat) (uo:Nat→Option Addr) (uc:Nat→Nat),c.den=.slice O x.n C∧SeenT w x O so sc uo uc∧K x:=by
 unfold rdT at h
 split at h
 ·rename_i i0 a0 n0 c0
  split at h
  ·rename_i r0 h0
   split at h
   ·rename_i o rs p us h3 h4
    obtain ⟨t,t2,y,so,sc,sd,uo,uc,ud,⟨rfl,rfl,f0,rfl,rfl,hn⟩,hk⟩:=h
    refine ⟨y,r0.ao,c0,so,sc,uo,uc,by rw [← hn];rfl,⟨fun a b=>?_,symRows_seen fun r hr=>(hs.seeObj h3 r hr).2,symRows_seen fun r hr=>(hs.seeObj h4 r hr).2⟩,hk⟩
    have:=seenAs' (hs.sat i0 _ h0) f0 rfl
    rw [hn] at this
    exact Row.reF this ⟨fun i hi=>rfl,fun i hi=>rfl,fun i hi=>rfl,trivial⟩
   ·exact h.elim
  ·exact h.elim
 ·exact h.elim
abbrev capT (x:TK):Prop:=x.n≤2097152∧∀ i,i<x.n→x.rn i≤2097152∧x.qn i≤2097152
def sEqTrk:Sm:=inlM Tryz.prog {tb:=[(51,sEqIntR)]} 300 Tryz.f115
theorem sEqTrk_ok:SmOK Tryz.prog 115 sEqTrk:=inlM_ok mixed (E:={tb:=[(51,sEqIntR)]}) ⟨sEqIntR_ok,trivial⟩ Tryz.func115 Tryz.call115 (fun _ _ _=>loopsOK_nil _ _ _)
def teH (x:TK)(O:Option Addr)(C:Nat)(so:Nat→Option Addr)(sc:Nat→Nat)(uo:Nat→Option Addr)(uc:Nat→Nat)(P:Option Addr)(Q:Nat)(sp:Nat→Option Addr)(sq:Nat→Nat)(vp:Nat→Option Addr)(vq:Nat→Nat)(i:SC)(g:Nat→Value):List SV:=hdN [(0,.a (.c (.sl 0 O x.n C))),(1,.a (.c (.sl 3 P x.n Q))),(4,.a (.c (.lit false))),(5,.a (.c i))] g 0 27
def teT (x:TK)(O:Option Addr)(C:Nat)(so:Nat→Option Addr)(sc:Nat→Nat)(uo:Nat→Option Addr)(uc:Nat→Nat)(P:Option Addr)(Q:Nat)(sp:Nat→Option Addr)(sq:Nat→Nat)(vp:Nat→Option Addr)(vq:Nat→Nat):List Ch:=[.row ⟨false,O,0,3,x.n,0,trkFld 1 2 x so sc uo uc⟩,.obj false (symRows false 0 (tkR x) so (fun _=>0)),.obj false (symRows false 0 (tkQ x) uo (fun _=>0)),.row ⟨false,P,0,3,x.n,0,trkFld 4 5 x sp sq vp vq⟩,.obj false (symRows false 0 (tkR x) sp (fun _=>0)),.obj false (symRows false 0 (tkQ x) vp (fun _=>0))]
def ste:LSm:=fun ts ch kk=>∃ (x:TK) (O:Option Addr) (C:Nat) (so:Nat→Option Addr) (sc:Nat→Nat) (uo:Nat→Option Addr) (uc:Nat→Nat) (P:Option Addr) (Q:Nat) (sp:Nat→Option Addr) (sq:Nat→Nat) (vp:Nat→Option Addr) (vq:Nat→Nat),(ts.map SV.den=(teH x O C so sc uo uc P Q sp sq vp vq (.il 0) (fun d=>(ts.getD d .undef).den)).map SV.den∧ch=teT x O C so sc uo uc P Q sp sq vp vq∧capT x)∧∀ (g:Nat→Value) (kx:Int),kk (.exit 0) (teH x O C so sc uo uc P Q sp sq vp vq (.int kx) g) (teT x O C so sc uo uc P Q sp sq vp vq)
theorem teB (x:TK)(O:Option Addr)(C:Nat)(so:Nat→Option Addr)(sc:Nat→Nat)(uo:Nat→Option Addr)(uc:Nat→Nat)(P:Option Addr)(Q:Nat)(sp:Nat→Option Addr)(sq:Nat→Nat)(vp:Nat→Option Addr)(vq:Nat→Nat)(j:Nat)(g:Nat→Value)(NX:List SV→List Ch→Prop)(kx:Exit→List SV→List Ch→Prop):(exCode Tryz.prog {tb:=[(115,sEqTrk)]} 400 (theLoop Tryz.f50 0) (teH x O C so sc uo uc P Q sp sq vp vq (.int (j:Int)) g) (teT x O C so sc uo uc P Q sp sq vp vq) (loopK NX kx))=(
 (fun a:SV=>(fun b:SV=>(fun c:SV=>(fun d:SV=>(fun h:CD=>(fun k:CD=>(fun l:SV=>(fun m:Bool=>(fun n:List Row=>(fun o:List Row=>(fun p:List Row=>(fun q:List Row=>(fun r:Prop=>(fun s:List SC=>(fun t:List SC=>(fun u:Ch=>(fun v:Ch=>(fun w:Ch=>(fun y:Ch=>(fun z:SV=>(fun B:SV=>(fun D:Ch=>(fun E:Ch=>(m=true→O=O∧x.1=x.1∧r∧O=O∧j<x.1∧P=P∧x.1=x.1∧r∧P=P∧j<x.1∧∀ F G:Nat,F=F∧G=G∧∃(H:Nat) (I:CD) (J:Nat→Option Addr) (K:Nat→Nat) (L:Nat),(q=(symRows false H I J K)∧(so j)=(J L)∧(x.2 j)=(I.2 L)∧L<I.1)∧∃(M:Nat) (N:CD) (R:Nat→Option Addr) (S:Nat→Nat) (T:Nat),(p=(symRows false M N R S)∧(sp j)=(R T)∧(x.2 j)=(N.2 T)∧T<N.1)∧((x.2 j)=(x.2 j)∧capC (x.2 j)∧∀ U:Nat,U<(x.2 j)→(I.3 L U)=(N.3 T U))∧F=F∧G=G∧∃(U:Nat) (V:CD) (W:Nat→Option Addr) (X:Nat→Nat) (Y:Nat),(o=(symRows false U V W X)∧(uo j)=(W Y)∧(x.4 j)=(V.2 Y)∧Y<V.1)∧∃(Z:Nat) (aa:CD) (ab:Nat→Option Addr) (ac:Nat→Nat) (ad:Nat),(n=(symRows false Z aa ab ac)∧(vp j)=(ab ad)∧(x.4 j)=(aa.2 ad)∧ad<aa.1)∧((x.4 j)=(x.4 j)∧capC (x.4 j)∧∀ af:Nat,af<(x.4 j)→(V.3 Y af)=(aa.3 ad af))∧F=F∧G=G∧(((x.6 j) != (x.6 j))=true→True∧kx Exit.ret [b,a,vV (g 2),vV (g 3),fV,c,vV (g 6),vV (g 7),vV (g 8),vV (g 9),vV (g 10),c,b,d,tV,vV (g 15),vV (g 16),b,c,rV 0 O 3 j 0,B,a,c,rV 3 P 3 j 0,z,fV,tV] [E,y,w,D,v,u,Hc F 98 t,Hc G 98 s])∧(((x.6 j) != (x.6 j))=false→True∧rng (((j:Nat):Int)+(1:Int))∧NX [b,a,vV (g 2),vV (g 3),fV,l,vV (g 6),vV (g 7),vV (g 8),vV (g 9),vV (g 10),c,b,d,tV,c,l,b,c,rV 0 O 3 j 0,B,a,c,rV 3 P 3 j 0,z,tV,fV] [E,y,w,D,v,u,Hc F 98 t,Hc G 98 s]))∧(m=false→kx (Exit.exit 0) [b,a,vV (g 2),vV (g 3),fV,c,vV (g 6),vV (g 7),vV (g 8),vV (g 9),vV (g 10),c,b,d,fV,vV (g 15),vV (g 16),vV (g 17),vV (g 18),vV (g 19),vV (g 20),vV (g 21),vV (g 22),vV (g 23),vV (g 24),vV (g 25),vV (g 26)] [E,y,w,D,v,u])) (Hr false O 0 3 x.1 0 [fun E=>Cs 1 (so E) (x.2 E) (sc E),fun E=>Cs 2 (uo E) (x.4 E) (uc E),fun E=>Ci (x.6 E)])) (Hr false P 0 3 x.1 0 [fun D=>Cs 4 (sp D) (x.2 D) (sq D),fun D=>Cs 5 (vp D) (x.4 D) (vq D),fun D=>Ci (x.6 D)])) (aV t)) (aV s)) (Ho false q)) (Ho false o)) (Ho false p)) (Ho false n)) [Cs 1 (so j) (x.2 j) (sc j),Cs 2 (uo j) (x.4 j) (uc j),Ci (x.6 j)]) [Cs 4 (sp j) (x.2 j) (sq j),Cs 5 (vp j) (x.4 j) (vq j),Ci (x.6 j)]) (0≤((j:Nat):Int)∧((j:Nat):Int)<((x.1:Nat):Int))) (symRows false 0 k so (fun q=>0))) (symRows false 0 k sp (fun p=>0))) (symRows false 0 h uo (fun o=>0))) (symRows false 0 h vp (fun n=>0))) (decide (((j:Nat):Int)<((x.1:Nat):Int)))) (iV (((j:Nat):Int)+(1:Int)))) (CD.mk x.1 x.2 x.3 (fun k=>false))) (CD.mk x.1 x.4 x.5 (fun h=>false))) (iV ((x.1:Nat):Int))) (iV ((j:Nat):Int))) (sV 0 O x.1 C)) (sV 3 P x.1 Q)):=by kernel_rfl
theorem te_ok (X:Cx):LoopOK Tryz.prog X (theLoop Tryz.f50 0) ste:=by
 intro ts ch kk a w hS hT hd hs
 obtain ⟨x,O,C,so,sc,uo,uc,P,Q,sp,sq,vp,vq,⟨h1,rfl,hcap⟩,hk⟩:=hS
 have hn0:=hcap.1
 refine loop_ok mixed (E:={tb:=[(115,sEqTrk)]}) ⟨sEqTrk_ok,trivial⟩ (loopsOK_nil _ _ _) 400 x.n (fun j ts ch=>∃ g,ts=teH x O C so sc uo uc P Q sp sq vp vq (.int (j:Int)) g∧ch=teT x O C so sc uo uc P Q sp sq vp vq) ?_ ?_ hT hd hs
 ·rintro j _ _ ⟨g,rfl,rfl⟩ hj
  refine (@Eq.mpr _ _ (teB x O C so sc uo uc P Q sp sq vp vq j g _ _) ?_)
  dsimp -zeta -proj -iota -eta -failIfUnchanged (etaStruct:=.none) only
  by_cases hlt:j<x.n
  ·have hsr:capC (x.rn j):=(hcap.2 j hlt).1
   have hsq:capC (x.qn j):=(hcap.2 j hlt).2
   repeat' (first
    | with_reducible exact rfl
    | exact True.intro
    | with_reducible assumption
    | (refine ⟨hlt,?_⟩;show Next _ _ _ _;exact Next.mk (fun g=>teH x O C so sc uo uc P Q sp sq vp vq (.int ((j+1:Nat):Int)) g) _ ⟨_,rfl,rfl⟩ (by kernel_rfl) fun w hw=>hw.sel [0,1,2,3,4,5] (by simp))
    | refine And.intro ?_ ?_
    | apply Exists.intro
    | (intro h;exfalso;simp at h;done)
    | (intro h;replace h:=of_decide_eq_true h;first | (exfalso;omega) | skip)
    | (intro h;replace h:=of_decide_eq_false h;first | (exfalso;omega) | skip)
    | intro _
    | omega)
  ·have hjn:j=x.n:=by omega
   subst hjn
   repeat' (first
    | with_reducible exact rfl
    | exact True.intro
    | with_reducible assumption
    | (exact Next.mk (fun g=>teH x O C so sc uo uc P Q sp sq vp vq (.int (x.n:Int)) g) _ (hk _ _) (by kernel_rfl) fun w hw=>hw)
    | refine And.intro ?_ ?_
    | apply Exists.intro
    | (intro h;exfalso;simp at h;done)
    | (intro h;replace h:=of_decide_eq_true h;first | (exfalso;omega) | skip)
    | (intro h;replace h:=of_decide_eq_false h;first | (exfalso;omega) | skip)
    | intro _
    | omega)
 ·exact Next.mk (fun g=>teH x O C so sc uo uc P Q sp sq vp vq (.int ((0:Nat):Int)) g) _ ⟨_,rfl,rfl⟩ h1 fun w hw=>hw
theorem eqTs_T (x:TK)(O:Option Addr)(C:Nat)(so:Nat→Option Addr)(sc:Nat→Nat)(uo:Nat→Option Addr)(uc:Nat→Nat)(P:Option Addr)(Q:Nat)(sp:Nat→Option Addr)(sq:Nat→Nat)(vp:Nat→Option Addr)(vq:Nat→Nat):(exFn Tryz.prog { L:=[(4,ste)] } 400 Tryz.f50 ([.a (.c (.sl 0 O x.n C)),.a (.c (.sl 3 P x.n Q))]) (teT x O C so sc uo uc P Q sp sq vp vq) (fun v _=>v.den=.bool true))=(
 (fun b:Value=>(fun d:Value=>(fun g:Value=>(fun h:CD=>(fun j:CD=>(fun k:Bool=>(k=true→d=(Wb true))∧(k=false→∃(l:TK) (m:Option Addr) (o:Nat) (p:Nat→Option Addr) (q:Nat→Nat) (r:Nat→Option Addr) (s:Nat→Nat) (t:Option Addr) (u:Nat) (w:Nat→Option Addr) (y:Nat→Nat) (z:Nat→Option Addr) (B:Nat→Nat),(fun D:CD=>(fun E:CD=>([Ws O x.1 C,Ws P x.1 Q,b,b,d,Wi 0,Ws O x.1 C,g,Ws P x.1 Q,g,d,b,b,b,b,b,b,b,b,b,b,b,b,b,b,b,b]=[Ws m l.1 o,Ws t l.1 u,b,b,d,Wi 0,Ws O x.1 C,g,Ws P x.1 Q,g,d,b,b,b,b,b,b,b,b,b,b,b,b,b,b,b,b]∧[Hr false O 0 3 x.1 0 [fun F=>Cs 1 (so F) (x.2 F) (sc F),fun F=>Cs 2 (uo F) (x.4 F) (uc F),fun F=>Ci (x.6 F)],Ho false (symRows false 0 j so (fun F=>0)),Ho false (symRows false 0 h uo (fun F=>0)),Hr false P 0 3 x.1 0 [fun F=>Cs 4 (sp F) (x.2 F) (sq F),fun F=>Cs 5 (vp F) (x.4 F) (vq F),fun F=>Ci (x.6 F)],Ho false (symRows false 0 j sp (fun F=>0)),Ho false (symRows false 0 h vp (fun F=>0))]=[Hr false m 0 3 l.1 0 [fun F=>Cs 1 (p F) (l.2 F) (q F),fun F=>Cs 2 (r F) (l.4 F) (s F),fun F=>Ci (l.6 F)],Ho false (symRows false 0 E p (fun F=>0)),Ho false (symRows false 0 D r (fun F=>0)),Hr false t 0 3 l.1 0 [fun F=>Cs 4 (w F) (l.2 F) (y F),fun F=>Cs 5 (z F) (l.4 F) (B F),fun F=>Ci (l.6 F)],Ho false (symRows false 0 E w (fun F=>0)),Ho false (symRows false 0 D z (fun F=>0))]∧capT l)∧∀(F:Nat→Value) (G:Int),(Wb true)=(Wb true)) (CD.mk l.1 l.2 l.3 (fun E=>false))) (CD.mk l.1 l.4 l.5 (fun D=>false)))) (((x.1:Nat):Int) != ((x.1:Nat):Int))) (CD.mk x.1 x.2 x.3 (fun j=>false))) (CD.mk x.1 x.4 x.5 (fun h=>false))) (Wi ((x.1:Nat):Int))) (Wb false)) (Wu [])):=by kernel_rfl
theorem eqTs_any (x:TK)(O:Option Addr)(C:Nat)(so:Nat→Option Addr)(sc:Nat→Nat)(uo:Nat→Option Addr)(uc:Nat→Nat)(P:Option Addr)(Q:Nat)(sp:Nat→Option Addr)(sq:Nat→Nat)(vp:Nat→Option Addr)(vq:Nat→Nat)(w:World)(hA:SeenT w x O so sc uo uc)(hB:SeenT w x P sp sq vp vq)(hcap:capT x):Calls Tryz.prog 50 #[.slice O x.n C,.slice P x.n Q] w fun e w'=>e=.returned (.bool true)∧Below w.heap.size w w':=by
 refine fn_ok mixed (E:={ L:=[(4,ste)] }) trivial Tryz.func50 (one_loop (by kernel_rfl) (by kernel_rfl) (te_ok _)) (@Eq.mpr _ _ (eqTs_T x O C so sc uo uc P Q sp sq vp vq) ?_) (HS.seenAll (fun _=>False) _ (hA.all 1 (hB.all 4 seenC_nil))) (fun v ch' w' hv hs=>⟨by rw [hv],hs.below⟩)
 dsimp -zeta -proj -iota -eta -failIfUnchanged (etaStruct:=.none) only
 clear hA hB
 repeat' (first
  | with_reducible exact rfl
  | exact True.intro
  | with_reducible assumption
  | exact hcap
  | refine And.intro ?_ ?_
  | apply Exists.intro
  | (intro h;exfalso;simp at h;done)
  | intro _
  | exact rfl)
def sEqTs:Sm:=fun args ch kk =>
 match args with
 | [.a (.c c),.a (.c d)]=>rdT ch c fun x=>rdT ch d fun y=>(y=x∧capT x)∧kk (.a (.c (.lit true))) ch []
 | _=>False
theorem sEqTs_ok:SmOK Tryz.prog 50 sEqTs:=by
 refine smB Tryz.call50 fun args ch kk w X h0 hs=>?_
 unfold sEqTs at h0
 split at h0
 ·obtain ⟨x,O,C,so,sc,uo,uc,e,hA,h0⟩:=rdT_ok h0 hs
  obtain ⟨y,P,Q,sp,sq,vp,vq,e2,hB,⟨hyx,hc⟩,h1⟩:=rdT_ok h0 hs
  subst hyx
  refine ⟨_,h1,?_⟩
  simp only [List.map_cons,List.map_nil,den_a,den_c,e,e2]
  exact eqTs_any _ O C so sc uo uc P Q sp sq vp vq w hA hB hc
 ·exact h0.elim
end Go.Proofs.YtbhfabaofhhkeaaGreat

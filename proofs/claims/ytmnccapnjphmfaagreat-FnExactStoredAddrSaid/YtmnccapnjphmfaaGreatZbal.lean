/-
  FnExactStoredAddr: a part of the walk (merged and squeezed by program: SxHA).
-/
import Derived.Test.YtmnccapnjphmfaaGreatZbad
import Derived.Test.YtmnccapnjphmfaaGreatZbaj
import Derived.Test.YtmnccapnjphmfaaGreatZbak
namespace Go.Proofs.YtmnccapnjphmfaaGreat
set_option linter.unusedVariables false
set_option linter.unusedSimpArgs false
open Go.RowKit
set_option maxRecDepth 100000
set_option maxHeartbeats 8000000
structure SeenC (w:World) (x:CD) (O:Option Addr) (so:Nat→Option Addr) (sc:Nat→Nat):Prop where
 h0:∀ id,Row.sat w ⟨false,O,0,2,x.n,0,cellFld id x so sc⟩
 h3:∀ r∈symRows false 0 x so (fun _=>0),r.own=false∧r.sat w
theorem SeenC.all {w:World}{x:CD}{O:Option Addr}{so:Nat→Option Addr}{sc:Nat→Nat}(h:SeenC w x O so sc)(b:Nat){cs:List Ch}(hc:∀ c∈cs,c.own=false∧c.sat w):∀ c∈[Ch.row ⟨false,O,0,2,x.n,0,cellFld b x so sc⟩,.obj false (symRows false 0 x so (fun _=>0))] ++ cs,c.own=false∧c.sat w :=
 seenC_row rfl (h.h0 _) (seenC_obj h.h3 hc)
def rdK (ch:List Ch)(c:SC)(K:CD→Prop):Prop :=
 match c with
 | .sl i0 a0 n0 _ =>
  match ch[i0]? with
  | some (.row r0) =>
   match ch[nidOf r0.fld]? with
   | some (.obj o rs)=>∃ (t:Nat) (y:CD) (so:Nat→Option Addr) (sc sd:Nat→Nat),(rs=symRows o t y so sd∧r0.fld=cellFld (nidOf r0.fld) y so sc∧a0=r0.ao∧n0=r0.n∧n0=y.n)∧K y
   | _=>False
  | _=>False
 | _=>False
theorem rdK_ok {ch:List Ch}{c:SC}{K:CD→Prop}(h:rdK ch c K){X:Cx}{w:World}(hs:HS X ch w):∃ (x:CD) (O:Option Addr) (C:Nat) (so:Nat→Option Addr) (sc:Nat→Nat),c.den=.slice O x.n C∧SeenC w x O so sc∧K x:=by
 unfold rdK at h
 split at h
 ·rename_i i0 a0 n0 c0
  split at h
  ·rename_i r0 h0
   split at h
   ·rename_i o rs h3
    obtain ⟨t,y,so,sc,sd,⟨rfl,f0,rfl,rfl,hn⟩,hk⟩:=h
    refine ⟨y,r0.ao,c0,so,sc,by rw [← hn];rfl,⟨fun id'=>?_,symRows_seen fun r hr=>(hs.seeObj h3 r hr).2⟩,hk⟩
    have:=seenAs' (hs.sat i0 _ h0) f0 rfl
    rw [hn] at this
    exact Row.reF this ⟨fun i hi=>rfl,fun i hi=>rfl,trivial⟩
   ·exact h.elim
  ·exact h.elim
 ·exact h.elim
def totN (sn:Nat→Nat):Nat→Nat
 | 0=>0
 | i+1=>totN sn i+sn i+1
abbrev capK (x:CD):Prop:=totN x.sn x.n≤2097152
theorem totN_le {sn:Nat→Nat}{i j:Nat}(h:i≤j):totN sn i≤totN sn j:=by
 induction j with
 | zero=>have:i=0:=by omega
         subst this;exact Nat.le_refl _
 | succ j ih =>
  by_cases e:i=j+1
  ·subst e;exact Nat.le_refl _
  ·have:=ih (by omega)
   simp only [totN]
   omega
theorem totN_n {sn:Nat→Nat}:∀ n:Nat,n≤totN sn n:=fun n=>by
 induction n with
 | zero=>exact Nat.zero_le _
 | succ n ih=>simp only [totN];omega
theorem totN_sn {sn:Nat→Nat}{i n:Nat}(h:i<n):totN sn i+sn i+1≤totN sn n:=totN_le (i:=i+1) h
theorem toc_T (cSymbolsO:Option Addr)(cSymbolsN cSymbolsC:Nat)(cSymbolsg0:Nat→Int)(cPoison:Bool):(exFn Tryz.prog {tb:=[(50,sToIntS)]} 400 Tryz.f172 ([.a (.agg [.sl 0 cSymbolsO cSymbolsN cSymbolsC,.bool cPoison])]) ([.row ⟨false,cSymbolsO,0,1,cSymbolsN,0,[fun i=>.int (cSymbolsg0 i)]⟩]) (fun v ch=>∃ (ro0:Option Addr) (rc0:Nat),OutR v ch (.agg #[.slice ro0 (cSymbolsN) rc0,.bool (cPoison)]) [.row ⟨true,ro0,3,1,cSymbolsN,rc0,[fun i=>.int (cSymbolsg0 i)]⟩]))=(
 ∀ b c d:Nat,b=b∧∃ g:Nat→Int,(cSymbolsO=cSymbolsO∧cSymbolsN=cSymbolsN∧[fun h=>Ci (cSymbolsg0 h)]=[fun h=>Ci (g h)]∧capC cSymbolsN)∧∀ h:Nat,d=d∧b=b∧d=d∧d=d∧c=c∧c=c∧∃(j:Option Addr) (k:Nat),(Wa [Ws (Ad h 0) cSymbolsN cSymbolsN,Wb cPoison])=(Wa [Ws j cSymbolsN k,Wb cPoison])∧((true=true∧(Ad h 0)=j∧3=3∧1=1∧cSymbolsN=cSymbolsN∧cSymbolsN=k∧(∀ l:Nat,l<cSymbolsN→(Wi (g l))=(Wi (cSymbolsg0 l)))∧True)∧True)∧true=true):=by kernel_rfl
theorem toc_any (cSymbolsO:Option Addr)(cSymbolsN cSymbolsC:Nat)(cSymbolsg0:Nat→Int)(cPoison:Bool)(w:World)(hrcSymbols:Row.sat w ⟨false,cSymbolsO,0,1,cSymbolsN,0,[fun i=>.int (cSymbolsg0 i)]⟩)(hpre:capC cSymbolsN):Calls Tryz.prog 172 #[.agg #[.slice cSymbolsO cSymbolsN cSymbolsC,.bool cPoison]] w fun e w'=>∃ (ro0:Option Addr) (rc0:Nat),e=.returned (.agg #[.slice ro0 (cSymbolsN) rc0,.bool (cPoison)])∧HS ⟨w,fun _=>False⟩ [.row ⟨true,ro0,3,1,cSymbolsN,rc0,[fun i=>.int (cSymbolsg0 i)]⟩] w':=by
 refine fnB (tb:=[(50,sToIntS)]) ⟨sToIntS_ok,trivial⟩ Tryz.func172 (@Eq.mpr _ _ (toc_T cSymbolsO cSymbolsN cSymbolsC cSymbolsg0 cPoison) ?_) (HS.rows (fun _=>False) [⟨false,cSymbolsO,0,1,cSymbolsN,0,[fun i=>.int (cSymbolsg0 i)]⟩] (by simp;exact hrcSymbols)) (fun v ch' w' ⟨ro0,rc0,hk⟩ hs=>⟨ro0,rc0,by rw [hk.1],hk.hs hs⟩)
 clear hrcSymbols
 repeat' (first
  | exact rfl
  | exact True.intro
  | refine And.intro ?_ ?_
  | apply Exists.intro
  | assumption
  | omega
  | intro _)
def sToC:Sm:=fun args ch kk =>
 match args with
 | [.a c]=>rdC ch c fun n g b=>capC n∧∀ (ro:Option Addr) (rc:Nat),kk (.a (.agg [.sl ch.length ro n rc,.bool b])) (ch ++ [.row ⟨true,ro,3,1,n,rc,[fun i=>.int (g i)]⟩]) []
 | _=>False
theorem sToC_ok:SmOK Tryz.prog 172 sToC:=by
 refine smN Tryz.call172 fun args ch kk w X h0 hs=>?_
 unfold sToC at h0
 split at h0
 ·obtain ⟨ao,n,c',g,b,e,hr,hn,h0⟩:=rdC_ok h0 hs
  refine Calls.mono (?_:Calls Tryz.prog 172 _ w (fun e w'=>∃ (ro0:Option Addr) (rc0:Nat),e=.returned (.agg #[.slice ro0 n rc0,.bool b])∧HS ⟨w,fun _=>False⟩ [.row ⟨true,ro0,3,1,n,rc0,[fun i=>.int (g i)]⟩] w')) (fun e w' ⟨ro0,rc0,he,hs'⟩=>⟨_,_,?_,hs',rfl,h0 ro0 rc0⟩)
  ·simp only [List.map_cons,List.map_nil,den_a,e]
   exact toc_any ao n c' g b w hr hn
  ·rw [he]
   rfl
 ·exact h0.elim
theorem eqc_T (ao bo:Option Addr)(n c d:Nat)(g q:Nat→Int)(b:Bool):(exFn Tryz.prog {tb:=[(82,sEqIntS)]} 400 Tryz.f185 ([.a (.agg [.sl 0 ao n c,.bool b]),.a (.agg [.sl 1 bo n d,.bool b])]) ([.row ⟨false,ao,0,1,n,0,[fun i=>.int (g i)]⟩,.row ⟨false,bo,0,1,n,0,[fun i=>.int (q i)]⟩]) (fun v _=>v.den=.bool true))=(
 ∀ h j:Nat,h=h∧j=j∧∃ k l:Nat→Int,(ao=ao∧n=n∧[fun m=>Ci (g m)]=[fun m=>Ci (k m)]∧bo=bo∧n=n∧[fun m=>Ci (q m)]=[fun m=>Ci (l m)]∧n=n∧capC n)∧(∀ m:Nat,m<n→(k m)=(l m))∧h=h∧j=j∧((b != b)=true→(Wb false)=(Wb true))∧((b != b)=false→(Wb true)=(Wb true))):=by kernel_rfl
theorem eqc_any (ao bo:Option Addr)(n c d:Nat)(g q:Nat→Int)(b:Bool)(w:World)(h1:Row.sat w ⟨false,ao,0,1,n,0,[fun i=>.int (g i)]⟩)(h2:Row.sat w ⟨false,bo,0,1,n,0,[fun i=>.int (q i)]⟩)(hn:n≤2097152)(hgq:∀ i,i<n→g i=q i):Calls Tryz.prog 185 #[.agg #[.slice ao n c,.bool b],.agg #[.slice bo n d,.bool b]] w fun e w'=>e=.returned (.bool true)∧Below w.heap.size w w':=by
 have e:Row.sat w ⟨false,bo,0,1,n,0,[fun i=>.int (g i)]⟩:=Row.reF h2 ⟨fun i hi=>congrArg (Value.int .i64) (hgq i hi).symm,trivial⟩
 refine fnB (tb:=[(82,sEqIntS)]) ⟨sEqIntS_ok,trivial⟩ Tryz.func185 (@Eq.mpr _ _ (eqc_T ao bo n c d g g b) ?_) (HS.rows (fun _=>False) [⟨false,ao,0,1,n,0,[fun i=>.int (g i)]⟩,⟨false,bo,0,1,n,0,[fun i=>.int (g i)]⟩] (by simp;exact ⟨h1,e⟩)) (fun v ch' w' hk hs=>⟨by rw [hk],hs.below⟩)
 clear h1 h2 e
 repeat' (first
  | exact rfl
  | exact True.intro
  | assumption
  | refine And.intro ?_ ?_
  | apply Exists.intro
  | omega
  | (intro h;exfalso;simp at h;done)
  | (intro h;exfalso;simp at h;omega)
  | intro _)
abbrev allEq (n:Nat)(g q:Nat→Int):Prop:=∀ i,i<n→g i=q i
def sEqC:Sm:=fun args ch kk =>
 match args with
 | [.a c,.a d]=>rdC ch c fun n g b=>rdC ch d fun m q b'=>(m=n∧b'=b∧capC n∧allEq n g q)∧kk (.a (.c (.lit true))) ch []
 | _=>False
theorem sEqC_ok:SmOK Tryz.prog 185 sEqC:=by
 refine smB Tryz.call185 fun args ch kk w X h0 hs=>?_
 unfold sEqC at h0
 split at h0
 ·obtain ⟨ao,n,c',g,b,e,hr,h0⟩:=rdC_ok h0 hs
  obtain ⟨bo,m,d',q,b',e2,hr2,⟨rfl,rfl,hn,hgq⟩,h9⟩:=rdC_ok h0 hs
  refine ⟨_,h9,?_⟩
  simp only [List.map_cons,List.map_nil,den_a,e,e2]
  exact eqc_any ao bo _ c' d' g q _ w hr hr2 hn hgq
 ·exact h0.elim
def tcH (x:CD)(O:Option Addr)(C:Nat)(so:Nat→Option Addr)(sc:Nat→Nat)(bm:Nat)(i:SC)(g:Nat→Value):List SV:=[.a (.c (.sl 0 O x.n C)),.a (.c (.val (g 1))),.a (.c (.val (g 2))),.a (.c (.sl 2 (some ⟨bm,0,none⟩) x.n x.n)),.a (.c i),.a (.c (.val (g 5))),.a (.c (.val (g 6))),.a (.c (.val (g 7))),.a (.c (.val (g 8))),.a (.c (.val (g 9))),.a (.c (.val (g 10))),.a (.c (.val (g 11))),.a (.c (.val (g 12))),.a (.c (.val (g 13))),.a (.c (.val (g 14))),.a (.c (.val (g 15))),.a (.c (.val (g 16))),.a (.c (.val (g 17))),.a (.c (.val (g 18))),.a (.c (.val (g 19))),.a (.c (.val (g 20))),.a (.c (.val (g 21))),.a (.c (.val (g 22)))]
def tcT (x:CD)(O:Option Addr)(C:Nat)(so:Nat→Option Addr)(sc:Nat→Nat)(bm:Nat)(j:Nat)(soq:Nat→Option Addr)(scq:Nat→Nat):List Ch:=[.row ⟨false,O,0,2,x.n,0,cellFld 1 x so sc⟩,.obj false (symRows false 0 x so (fun _=>0)),.row ⟨true,some ⟨bm,0,none⟩,190,2,x.n,x.n,[fun i=>.val (lowV i j (.slice (soq i) (x.sn i) (scq i)) (.slice none 0 0)),fun i=>.bool (lowB i j (x.po i) false)]⟩,.obj true (symRows true 3 ⟨j,x.sn,x.sy,x.po⟩ soq scq)]
def tcE (x:CD)(O:Option Addr)(C:Nat)(so:Nat→Option Addr)(sc:Nat→Nat)(bm:Nat)(soq:Nat→Option Addr)(scq:Nat→Nat):List Ch:=[.row ⟨false,O,0,2,x.n,0,cellFld 1 x so sc⟩,.obj false (symRows false 0 x so (fun _=>0)),.row ⟨true,some ⟨bm,0,none⟩,190,2,x.n,x.n,cellFld 3 x soq scq⟩,.obj true (symRows true 3 x soq scq)]
theorem st_hd {j:Nat}{sn scq:Nat→Nat}{soq:Nat→Option Addr}{ro:Option Addr}{rc n:Nat}:∀ i,ltN i n→(SC.val (if i=j then Value.slice ro (sn j) rc else if i<j then Value.slice (soq i) (sn i) (scq i) else Value.slice none 0 0)).den=(SC.val (if i<j+1 then Value.slice (if i<j then soq i else ro) (sn i) (if i<j then scq i else rc) else Value.slice none 0 0)).den:=fun i hi=>by
 by_cases h1:i<j
 ·have h2:¬ i=j:=by omega
  have h3:i<j+1:=by omega
  simp [SC.den,h1,h2,h3]
 ·by_cases h2:i=j
  ·subst h2
   simp [SC.den]
  ·have h3:¬ i<j+1:=by omega
   simp [SC.den,h1,h2,h3]
theorem st_po {j:Nat}{po:Nat→Bool}{n:Nat}:∀ i,ltN i n→(SC.bool (if i=j then po j else if i<j then po i else false)).den=(SC.bool (if i<j+1 then po i else false)).den:=fun i hi=>by
 by_cases h1:i<j
 ·have h2:¬ i=j:=by omega
  have h3:i<j+1:=by omega
  simp [SC.den,h1,h2,h3]
 ·by_cases h2:i=j
  ·subst h2
   simp [SC.den]
  ·have h3:¬ i<j+1:=by omega
   simp [SC.den,h1,h2,h3]
theorem low_hd {sn scq:Nat→Nat}{soq:Nat→Option Addr}{n id:Nat}:∀ i,ltN i n→(SC.val (if i<n then Value.slice (soq i) (sn i) (scq i) else Value.slice none 0 0)).den=(SC.sl id (soq i) (sn i) (scq i)).den:=fun i hi=>by
 have h1:i<n:=hi
 simp [SC.den,h1]
theorem low_po {po:Nat→Bool}{n:Nat}:∀ i,ltN i n→(SC.bool (if i<n then po i else false)).den=(SC.bool (po i)).den:=fun i hi=>by
 have h1:i<n:=hi
 simp [SC.den,h1]
def stc:LSm:=fun ts ch kk=>∃ (x:CD) (O:Option Addr) (C:Nat) (so:Nat→Option Addr) (sc:Nat→Nat) (bm:Nat),(ts.map SV.den=(tcH x O C so sc bm (.il 0) (fun d=>(ts.getD d .undef).den)).map SV.den∧SelS ch [0,1,2,1000000] (tcT x O C so sc bm 0 (fun _=>none) (fun _=>0))∧capK x) ∧
  ∀ (g:Nat→Value) (kx:Int) (soq:Nat→Option Addr) (scq:Nat→Nat),kk (.exit 0) (tcH x O C so sc bm (.int kx) g) (tcE x O C so sc bm soq scq)
theorem tcB (x:CD)(O:Option Addr)(C:Nat)(so:Nat→Option Addr)(sc:Nat→Nat)(bm:Nat)(soq:Nat→Option Addr)(scq:Nat→Nat)(j:Nat)(g:Nat→Value)(NX:List SV→List Ch→Prop)(kx:Exit→List SV→List Ch→Prop):(exCode Tryz.prog {tb:=[(172,sToC)],D:=fun _=>[2]} 400 (theLoop Tryz.f121 0) (tcH x O C so sc bm (.int (j:Int)) g) (tcT x O C so sc bm j soq scq) (loopK NX kx))=(
 (fun a:Option Addr=>(fun b:SV=>(fun c:SV=>(fun d:SV=>(fun h:SV=>(fun k:Ch=>(fun l:Bool=>(fun m:Ch=>(fun n:Prop=>(fun o:Ch=>(l=true→O=O∧x.1=x.1∧n∧O=O∧j<x.1∧∃(p:Nat) (q:CD) (r:Nat→Option Addr) (s:Nat→Nat) (t:Nat),((symRows false 0 x so (fun u=>0))=(symRows false p q r s)∧(so j)=(r t)∧(x.2 j)=(q.2 t)∧t<q.1)∧capC (x.2 j)∧∀(u:Option Addr) (v:Nat),a=a∧x.1=x.1∧n∧a=a∧j<x.1∧rng (((j:Nat):Int)+(1:Int))∧NX [b,vV (g 1),vV (g 2),d,h,vV (g 5),vV (g 6),vV (g 7),c,b,iV ((x.1:Nat):Int),tV,c,h,d,c,b,c,rV 0 O 2 j 0,aV [Cs 1 (so j) (x.2 j) (sc j),Cb (x.4 j)],aV [Cs 4 u (x.2 j) v,Cb (x.4 j)],rV 2 a 2 j 0,vV (g 22)] [o,k,Hr true a 190 2 x.1 x.1 [fun w=>Cv (if w=j then (Ws u (x.2 j) v) else (if w<j then (Ws (soq w) (x.2 w) (scq w)) else Wn)),fun w=>Cb (if w=j then (x.4 j) else (if w<j then (x.4 w) else false))],m,Hr true u 3 1 (x.2 j) v [fun w=>Ci (q.3 t w)]])∧(l=false→kx (Exit.exit 0) [b,vV (g 1),vV (g 2),d,c,vV (g 5),vV (g 6),vV (g 7),c,b,iV ((x.1:Nat):Int),fV,vV (g 12),vV (g 13),vV (g 14),vV (g 15),vV (g 16),vV (g 17),vV (g 18),vV (g 19),vV (g 20),vV (g 21),vV (g 22)] [o,k,Hr true a 190 2 x.1 x.1 [fun p=>Cv (if p<j then (Ws (soq p) (x.2 p) (scq p)) else Wn),fun p=>Cb (if p<j then (x.4 p) else false)],m])) (Hr false O 0 2 x.1 0 [fun o=>Cs 1 (so o) (x.2 o) (sc o),fun o=>Cb (x.4 o)])) (0≤((j:Nat):Int)∧((j:Nat):Int)<((x.1:Nat):Int))) (Ho true (symRows true 3 (CD.mk j x.2 x.3 x.4) soq scq))) (decide (((j:Nat):Int)<((x.1:Nat):Int)))) (Ho false (symRows false 0 x so (fun k=>0)))) (iV (((j:Nat):Int)+(1:Int)))) (sV 2 a x.1 x.1)) (iV ((j:Nat):Int))) (sV 0 O x.1 C)) (Ad bm 0)):=by kernel_rfl
theorem tc_ok (X:Cx):LoopOK Tryz.prog X (theLoop Tryz.f121 0) stc:=by
 intro ts ch kk a w hS hT hd hs
 obtain ⟨x,O,C,so,sc,bm,⟨h1,hch,hcap⟩,hk⟩:=hS
 have hn0:=totN_n (sn:=x.sn) x.n
 have hcap':totN x.sn x.n≤2097152:=hcap
 refine loop_ok mixed (E:={tb:=[(172,sToC)],D:=fun _=>[2]}) ⟨sToC_ok,trivial⟩ (loopsOK_nil _ _ _) 400 x.n (fun j ts ch=>∃ g soq scq,ts=tcH x O C so sc bm (.int (j:Int)) g∧ch=tcT x O C so sc bm j soq scq) ?_ ?_ hT hd hs
 ·rintro j _ _ ⟨g,soq,scq,rfl,rfl⟩ hj
  refine (@Eq.mpr _ _ (tcB x O C so sc bm soq scq j g _ _) ?_)
  dsimp -zeta -proj -iota -eta -failIfUnchanged (etaStruct:=.none) only
  by_cases hlt:j<x.n
  ·have hsn:capC (x.sn j):=by have:=totN_sn (sn:=x.sn) hlt;show _≤_;omega
   repeat' (first
    | with_reducible exact rfl
    | exact True.intro
    | with_reducible assumption
    | (refine ⟨hlt,?_⟩;show Next _ _ _ _;rename_i ro rc;refine Next.mk (fun g=>tcH x O C so sc bm (.int ((j+1:Nat):Int)) g) (tcT x O C so sc bm (j+1) (fun i=>if i<j then soq i else ro) (fun i=>if i<j then scq i else rc)) ⟨_,_,_,rfl,rfl⟩ rfl fun w hw=>SelS.hs (l:=[0,1,2,3]) (by refine ⟨?_,rfl⟩;repeat' (first | exact True.intro | exact symRows_push | exact rfl | refine And.intro ?_ ?_ | (intro i hi;show _=_;with_reducible rfl) | (intro i hi;show _=_;rfl) | exact st_hd | exact st_po | (intro i hi;show _=_;simp only [SC.den];split <;> rfl))) (hw.nestApp 3 4 rfl rfl rfl (by decide)))
    | refine And.intro ?_ ?_
    | apply Exists.intro
    | (intro h;replace h:=of_decide_eq_true h;first | (exfalso;omega) | skip)
    | (intro h;replace h:=of_decide_eq_false h;first | (exfalso;omega) | skip)
    | intro _
    | omega
    | (simp;omega))
  ·have hjn:j=x.n:=by omega
   subst hjn
   repeat' (first
    | with_reducible exact rfl
    | exact True.intro
    | with_reducible assumption
    | (refine Next.mk (fun g=>tcH x O C so sc bm (.int (x.n:Int)) g) _ (hk _ _ soq scq) rfl fun w hw=>SelS.hs (l:=[0,1,2,3]) (by refine ⟨?_,rfl⟩;repeat' (first | exact True.intro | exact symRows_push | exact rfl | refine And.intro ?_ ?_ | (intro i hi;show _=_;with_reducible rfl) | (intro i hi;show _=_;rfl) | exact low_hd | exact low_po | (intro i hi;show _=_;simp only [SC.den];split <;> rfl))) hw)
    | refine And.intro ?_ ?_
    | (intro h;replace h:=of_decide_eq_true h;first | (exfalso;omega) | skip)
    | (intro h;replace h:=of_decide_eq_false h;first | (exfalso;omega) | skip)
    | intro _
    | omega)
 ·exact Next.mk (fun g=>tcH x O C so sc bm (.int ((0:Nat):Int)) g) _ ⟨_,_,_,rfl,rfl⟩ h1 fun w hw=>hch.hs hw
theorem toCs_T (x:CD)(O:Option Addr)(C:Nat)(so:Nat→Option Addr)(sc:Nat→Nat):(exFn Tryz.prog { L:=[(3,stc)] } 400 Tryz.f121 ([.a (.c (.sl 0 O x.n C))]) ([.row ⟨false,O,0,2,x.n,0,cellFld 1 x so sc⟩,.obj false (symRows false 0 x so (fun _=>0))]) (fun v ch=>∃ (bm:Nat) (soq:Nat→Option Addr) (scq:Nat→Nat),v.den=.slice (some ⟨bm,0,none⟩) x.n x.n∧SelS ch [2,3] [.row ⟨true,some ⟨bm,0,none⟩,190,2,x.n,x.n,cellFld 1 x soq scq⟩,.obj true (symRows true 3 x soq scq)]))=(
 (fun b:Value=>((x.1:Nat):Int)=((x.1:Nat):Int)∧mkC 32 ((x.1:Nat):Int)∧∀ d:Nat,(fun g:Value=>∃(h:CD) (j:Option Addr) (k:Nat) (l:Nat→Option Addr) (m:Nat→Nat) (o:Nat),(fun p:Ch=>(fun q:Ch=>([Ws O x.1 C,b,Wn,g,Wi 0,Ws O x.1 C,Wi ((x.1:Nat):Int),g,b,b,b,b,b,b,b,b,b,b,b,b,b,b,b]=[Ws j h.1 k,b,Wn,Ws (Ad o 0) h.1 h.1,Wi 0,Ws O x.1 C,Wi ((x.1:Nat):Int),g,b,b,b,b,b,b,b,b,b,b,b,b,b,b,b]∧SelS [Hr false O 0 2 x.1 0 [fun r=>Cs 1 (so r) (x.2 r) (sc r),fun r=>Cb (x.4 r)],Ho false (symRows false 0 x so (fun r=>0)),Hr true (Ad d 0) 190 2 x.1 x.1 [fun r=>Cz,fun r=>Cf]] [0,1,2,1000000] [q,p,Hr true (Ad o 0) 190 2 h.1 h.1 [fun r=>Cv (if r<0 then (Value.slice (none:Option Addr) (h.2 r) 0) else Wn),fun r=>Cb (if r<0 then (h.4 r) else false)],Ho true (symRows true 3 (CD.mk 0 h.2 h.3 h.4) (fun r=>(none:Option Addr)) (fun r=>0))]∧capK h)∧∀(r:Nat→Value) (s:Int) (t:Nat→Option Addr) (u:Nat→Nat),∃(w:Nat) (y:Nat→Option Addr) (z:Nat→Nat),(Ws (Ad o 0) h.1 h.1)=(Ws (Ad w 0) x.1 x.1)∧SelS [q,p,Hr true (Ad o 0) 190 2 h.1 h.1 [fun B=>Cs 3 (t B) (h.2 B) (u B),fun B=>Cb (h.4 B)],Ho true (symRows true 3 h t u)] [2,3] [Hr true (Ad w 0) 190 2 x.1 x.1 [fun B=>Cs 1 (y B) (x.2 B) (z B),fun B=>Cb (x.4 B)],Ho true (symRows true 3 x y z)]) (Hr false j 0 2 h.1 0 [fun q=>Cs 1 (l q) (h.2 q) (m q),fun q=>Cb (h.4 q)])) (Ho false (symRows false 0 h l (fun p=>0)))) (Ws (Ad d 0) x.1 x.1)) (Wu [])):=by kernel_rfl
theorem toCs_any (x:CD)(O:Option Addr)(C:Nat)(so:Nat→Option Addr)(sc:Nat→Nat)(w:World)(hA:SeenC w x O so sc)(hcap:capK x):Calls Tryz.prog 121 #[.slice O x.n C] w fun e w'=>∃ (bm:Nat) (soq:Nat→Option Addr) (scq:Nat→Nat),e=.returned (.slice (some ⟨bm,0,none⟩) x.n x.n)∧HS ⟨w,fun _=>False⟩ [.row ⟨true,some ⟨bm,0,none⟩,190,2,x.n,x.n,cellFld 1 x soq scq⟩,.obj true (symRows true 3 x soq scq)] w':=by
 refine fn_ok mixed (E:={ L:=[(3,stc)] }) trivial Tryz.func121 (one_loop (by kernel_rfl) (by kernel_rfl) (tc_ok _)) (@Eq.mpr _ _ (toCs_T x O C so sc) ?_) (HS.seenAll (fun _=>False) _ (hA.all 1 seenC_nil)) (fun v ch' w' ⟨bm,soq,scq,hv,hc⟩ hs=>⟨bm,soq,scq,by rw [hv],hc.hs hs⟩)
 dsimp -zeta -proj -iota -eta -failIfUnchanged (etaStruct:=.none) only
 clear hA
 have hn0:=totN_n (sn:=x.sn) x.n
 have hcap':totN x.sn x.n≤2097152:=hcap
 repeat' (first
  | with_reducible exact rfl
  | exact True.intro
  | with_reducible assumption
  | exact hcap
  | exact (by refine ⟨?_,rfl⟩;repeat' (first | exact True.intro | exact symRows_push | exact rfl | refine And.intro ?_ ?_ | (intro i hi;show _=_;with_reducible rfl) | (intro i hi;show _=_;rfl) | exact symRows_nil | (intro i hi;simp [SC.den];done) | (intro i hi;show _=_;simp only [SC.den];split <;> rfl)))
  | refine And.intro ?_ ?_
  | apply Exists.intro
  | (intro h;replace h:=of_decide_eq_true h;first | (exfalso;omega) | skip)
  | (intro h;replace h:=of_decide_eq_false h;first | (exfalso;omega) | skip)
  | (intro i hi;with_reducible exact rfl)
  | intro _
  | omega
  | exact rfl)
def sToCs:Sm:=fun args ch kk =>
 match args with
 | [.a (.c c)]=>rdK ch c fun x=>capK x∧∀ (bm:Nat) (soq:Nat→Option Addr) (scq:Nat→Nat),kk (.a (.c (.sl ch.length (some ⟨bm,0,none⟩) x.n x.n))) (ch ++ [.row ⟨true,some ⟨bm,0,none⟩,190,2,x.n,x.n,cellFld (ch.length+1) x soq scq⟩,.obj true (symRows true 3 x soq scq)]) []
 | _=>False
theorem cells_at {b id:Nat}{x:CD}{O:Option Addr}{C t t2:Nat}{so:Nat→Option Addr}{sc:Nat→Nat}{X:Cx}{w:World}(h:HS X [.row ⟨true,O,t,2,x.n,C,cellFld id x so sc⟩,.obj true (symRows true t2 x so sc)] w):HS X [.row ⟨true,O,t,2,x.n,C,cellFld b x so sc⟩,.obj true (symRows true t2 x so sc)] w :=
 h.reS ⟨⟨rfl,rfl,rfl,rfl,rfl,rfl,fun i hi=>rfl,fun i hi=>rfl,trivial⟩,⟨rfl,rfl⟩,trivial⟩
theorem sToCs_ok:SmOK Tryz.prog 121 sToCs:=by
 refine smN Tryz.call121 fun args ch kk w X h0 hs=>?_
 unfold sToCs at h0
 split at h0
 ·obtain ⟨x,O,C,so,sc,e,hA,hc,h0⟩:=rdK_ok h0 hs
  simp only [List.map_cons,List.map_nil,den_a,den_c,e]
  exact Calls.mono (toCs_any x O C so sc w hA hc) fun e w' ⟨bm,soq,scq,he,hs'⟩=>⟨.a (.c (.sl ch.length (some ⟨bm,0,none⟩) x.n x.n)),_,he,cells_at hs',rfl,h0 bm soq scq⟩
 ·exact h0.elim
def ecH (x:CD)(O:Option Addr)(C:Nat)(so:Nat→Option Addr)(sc:Nat→Nat)(P:Option Addr)(Q:Nat)(sp:Nat→Option Addr)(sq:Nat→Nat)(i:SC)(g:Nat→Value):List SV:=[.a (.c (.sl 0 O x.n C)),.a (.c (.sl 2 P x.n Q)),.a (.c (.val (g 2))),.a (.c (.val (g 3))),.a (.c (.lit false)),.a (.c i),.a (.c (.val (g 6))),.a (.c (.val (g 7))),.a (.c (.val (g 8))),.a (.c (.val (g 9))),.a (.c (.val (g 10))),.a (.c (.val (g 11))),.a (.c (.val (g 12))),.a (.c (.val (g 13))),.a (.c (.val (g 14))),.a (.c (.val (g 15))),.a (.c (.val (g 16))),.a (.c (.val (g 17))),.a (.c (.val (g 18))),.a (.c (.val (g 19))),.a (.c (.val (g 20))),.a (.c (.val (g 21))),.a (.c (.val (g 22))),.a (.c (.val (g 23))),.a (.c (.val (g 24))),.a (.c (.val (g 25))),.a (.c (.val (g 26)))]
def ecT (x:CD)(O:Option Addr)(C:Nat)(so:Nat→Option Addr)(sc:Nat→Nat)(P:Option Addr)(Q:Nat)(sp:Nat→Option Addr)(sq:Nat→Nat):List Ch:=[.row ⟨false,O,0,2,x.n,0,cellFld 1 x so sc⟩,.obj false (symRows false 0 x so (fun _=>0)),.row ⟨false,P,0,2,x.n,0,cellFld 3 x sp sq⟩,.obj false (symRows false 0 x sp (fun _=>0))]
def sec:LSm:=fun ts ch kk=>∃ (x:CD) (O:Option Addr) (C:Nat) (so:Nat→Option Addr) (sc:Nat→Nat) (P:Option Addr) (Q:Nat) (sp:Nat→Option Addr) (sq:Nat→Nat),(ts.map SV.den=(ecH x O C so sc P Q sp sq (.il 0) (fun d=>(ts.getD d .undef).den)).map SV.den∧ch=ecT x O C so sc P Q sp sq∧capK x)∧∀ (g:Nat→Value) (kx:Int),kk (.exit 0) (ecH x O C so sc P Q sp sq (.int kx) g) (ecT x O C so sc P Q sp sq)
theorem ecB (x:CD)(O:Option Addr)(C:Nat)(so:Nat→Option Addr)(sc:Nat→Nat)(P:Option Addr)(Q:Nat)(sp:Nat→Option Addr)(sq:Nat→Nat)(j:Nat)(g:Nat→Value)(NX:List SV→List Ch→Prop)(kx:Exit→List SV→List Ch→Prop):(exCode Tryz.prog {tb:=[(185,sEqC)]} 400 (theLoop Tryz.f152 0) (ecH x O C so sc P Q sp sq (.int (j:Int)) g) (ecT x O C so sc P Q sp sq) (loopK NX kx))=(
 (fun a:SV=>(fun b:SV=>(fun c:SV=>(fun d:Bool=>(fun h:Prop=>(fun k:List Ch=>(d=true→O=O∧x.1=x.1∧h∧O=O∧j<x.1∧P=P∧x.1=x.1∧h∧P=P∧j<x.1∧∃(l:Nat) (m:CD) (n:Nat→Option Addr) (o:Nat→Nat) (p:Nat),((symRows false 0 x so (fun q=>0))=(symRows false l m n o)∧(so j)=(n p)∧(x.2 j)=(m.2 p)∧p<m.1)∧∃(q:Nat) (r:CD) (s:Nat→Option Addr) (t:Nat→Nat) (u:Nat),((symRows false 0 x sp (fun v=>0))=(symRows false q r s t)∧(sp j)=(s u)∧(x.2 j)=(r.2 u)∧u<r.1)∧((x.2 j)=(x.2 j)∧(x.4 j)=(x.4 j)∧capC (x.2 j)∧allEq (x.2 j) (m.3 p) (r.3 u))∧True∧rng (((j:Nat):Int)+(1:Int))∧NX [a,sV 2 P x.1 Q,vV (g 2),vV (g 3),fV,c,vV (g 6),vV (g 7),vV (g 8),vV (g 9),vV (g 10),b,a,iV ((x.1:Nat):Int),tV,b,c,a,b,rV 0 O 2 j 0,aV [Cs 1 (so j) (x.2 j) (sc j),Cb (x.4 j)],sV 2 P x.1 Q,b,rV 2 P 2 j 0,aV [Cs 3 (sp j) (x.2 j) (sq j),Cb (x.4 j)],tV,fV] k)∧(d=false→kx (Exit.exit 0) [a,sV 2 P x.1 Q,vV (g 2),vV (g 3),fV,b,vV (g 6),vV (g 7),vV (g 8),vV (g 9),vV (g 10),b,a,iV ((x.1:Nat):Int),fV,vV (g 15),vV (g 16),vV (g 17),vV (g 18),vV (g 19),vV (g 20),vV (g 21),vV (g 22),vV (g 23),vV (g 24),vV (g 25),vV (g 26)] k)) [Hr false O 0 2 x.1 0 [fun k=>Cs 1 (so k) (x.2 k) (sc k),fun k=>Cb (x.4 k)],Ho false (symRows false 0 x so (fun k=>0)),Hr false P 0 2 x.1 0 [fun k=>Cs 3 (sp k) (x.2 k) (sq k),fun k=>Cb (x.4 k)],Ho false (symRows false 0 x sp (fun k=>0))]) (0≤((j:Nat):Int)∧((j:Nat):Int)<((x.1:Nat):Int))) (decide (((j:Nat):Int)<((x.1:Nat):Int)))) (iV (((j:Nat):Int)+(1:Int)))) (iV ((j:Nat):Int))) (sV 0 O x.1 C)):=by kernel_rfl
theorem ec_ok (X:Cx):LoopOK Tryz.prog X (theLoop Tryz.f152 0) sec:=by
 intro ts ch kk a w hS hT hd hs
 obtain ⟨x,O,C,so,sc,P,Q,sp,sq,⟨h1,rfl,hcap⟩,hk⟩:=hS
 have hn0:=totN_n (sn:=x.sn) x.n
 have hcap':totN x.sn x.n≤2097152:=hcap
 refine loop_ok mixed (E:={tb:=[(185,sEqC)]}) ⟨sEqC_ok,trivial⟩ (loopsOK_nil _ _ _) 400 x.n (fun j ts ch=>∃ g,ts=ecH x O C so sc P Q sp sq (.int (j:Int)) g∧ch=ecT x O C so sc P Q sp sq) ?_ ?_ hT hd hs
 ·rintro j _ _ ⟨g,rfl,rfl⟩ hj
  refine (@Eq.mpr _ _ (ecB x O C so sc P Q sp sq j g _ _) ?_)
  dsimp -zeta -proj -iota -eta -failIfUnchanged (etaStruct:=.none) only
  by_cases hlt:j<x.n
  ·have hsn:capC (x.sn j):=by have:=totN_sn (sn:=x.sn) hlt;show _≤_;omega
   repeat' (first
    | with_reducible exact rfl
    | exact True.intro
    | with_reducible assumption
    | (refine ⟨_,_,_,_,_,⟨rfl,rfl,rfl,?_⟩,?_⟩)
    | (refine ⟨hlt,?_⟩;show Next _ _ _ _;refine Next.mk (fun g=>ecH x O C so sc P Q sp sq (.int ((j+1:Nat):Int)) g) _ ⟨_,rfl,rfl⟩ rfl fun w hw=>hw)
    | (intro i hi;with_reducible exact rfl)
    | refine And.intro ?_ ?_
    | apply Exists.intro
    | (intro h;replace h:=of_decide_eq_true h;first | (exfalso;omega) | skip)
    | (intro h;replace h:=of_decide_eq_false h;first | (exfalso;omega) | skip)
    | intro _
    | omega
    | (simp;omega))
  ·have hjn:j=x.n:=by omega
   repeat' (first
    | with_reducible exact rfl
    | exact True.intro
    | with_reducible assumption
    | (refine Next.mk (fun g=>ecH x O C so sc P Q sp sq (.int (j:Int)) g) _ (hk _ _) rfl fun w hw=>hw)
    | refine And.intro ?_ ?_
    | apply Exists.intro
    | (intro h;replace h:=of_decide_eq_true h;first | (exfalso;omega) | skip)
    | (intro h;replace h:=of_decide_eq_false h;first | (exfalso;omega) | skip)
    | intro _
    | omega
    | (simp;omega))
 ·exact Next.mk (fun g=>ecH x O C so sc P Q sp sq (.int ((0:Nat):Int)) g) _ ⟨_,rfl,rfl⟩ h1 fun w hw=>hw
theorem eqCs_T (x:CD)(O:Option Addr)(C:Nat)(so:Nat→Option Addr)(sc:Nat→Nat)(P:Option Addr)(Q:Nat)(sp:Nat→Option Addr)(sq:Nat→Nat):(exFn Tryz.prog { L:=[(4,sec)] } 400 Tryz.f152 ([.a (.c (.sl 0 O x.n C)),.a (.c (.sl 2 P x.n Q))]) ([.row ⟨false,O,0,2,x.n,0,cellFld 1 x so sc⟩,.obj false (symRows false 0 x so (fun _=>0)),.row ⟨false,P,0,2,x.n,0,cellFld 3 x sp sq⟩,.obj false (symRows false 0 x sp (fun _=>0))]) (fun v _=>v.den=.bool true))=(
 (fun b:Value=>(fun d:Value=>(fun g:Value=>(fun h:Bool=>(h=true→d=(Wb true))∧(h=false→∃(j:CD) (k:Option Addr) (l:Nat) (m:Nat→Option Addr) (o:Nat→Nat) (p:Option Addr) (q:Nat) (r:Nat→Option Addr) (s:Nat→Nat),([Ws O x.1 C,Ws P x.1 Q,b,b,d,Wi 0,Ws O x.1 C,g,Ws P x.1 Q,g,d,b,b,b,b,b,b,b,b,b,b,b,b,b,b,b,b]=[Ws k j.1 l,Ws p j.1 q,b,b,d,Wi 0,Ws O x.1 C,g,Ws P x.1 Q,g,d,b,b,b,b,b,b,b,b,b,b,b,b,b,b,b,b]∧[Hr false O 0 2 x.1 0 [fun t=>Cs 1 (so t) (x.2 t) (sc t),fun t=>Cb (x.4 t)],Ho false (symRows false 0 x so (fun t=>0)),Hr false P 0 2 x.1 0 [fun t=>Cs 3 (sp t) (x.2 t) (sq t),fun t=>Cb (x.4 t)],Ho false (symRows false 0 x sp (fun t=>0))]=[Hr false k 0 2 j.1 0 [fun t=>Cs 1 (m t) (j.2 t) (o t),fun t=>Cb (j.4 t)],Ho false (symRows false 0 j m (fun t=>0)),Hr false p 0 2 j.1 0 [fun t=>Cs 3 (r t) (j.2 t) (s t),fun t=>Cb (j.4 t)],Ho false (symRows false 0 j r (fun t=>0))]∧capK j)∧∀(t:Nat→Value) (u:Int),(Wb true)=(Wb true))) (((x.1:Nat):Int) != ((x.1:Nat):Int))) (Wi ((x.1:Nat):Int))) (Wb false)) (Wu [])):=by kernel_rfl
theorem eqCs_any (x:CD)(O:Option Addr)(C:Nat)(so:Nat→Option Addr)(sc:Nat→Nat)(P:Option Addr)(Q:Nat)(sp:Nat→Option Addr)(sq:Nat→Nat)(w:World)(hA:SeenC w x O so sc)(hB:SeenC w x P sp sq)(hcap:capK x):Calls Tryz.prog 152 #[.slice O x.n C,.slice P x.n Q] w fun e w'=>e=.returned (.bool true)∧Below w.heap.size w w':=by
 refine fn_ok mixed (E:={ L:=[(4,sec)] }) trivial Tryz.func152 (one_loop (by kernel_rfl) (by kernel_rfl) (ec_ok _)) (@Eq.mpr _ _ (eqCs_T x O C so sc P Q sp sq) ?_) (HS.seenAll (fun _=>False) _ (hA.all 1 (hB.all 3 seenC_nil))) (fun v ch' w' hv hs=>⟨by rw [hv],hs.below⟩)
 dsimp -zeta -proj -iota -eta -failIfUnchanged (etaStruct:=.none) only
 clear hA hB
 have hn0:=totN_n (sn:=x.sn) x.n
 have hcap':totN x.sn x.n≤2097152:=hcap
 repeat' (first
  | with_reducible exact rfl
  | exact True.intro
  | with_reducible assumption
  | exact hcap
  | refine And.intro ?_ ?_
  | apply Exists.intro
  | (intro h;exfalso;simp at h;done)
  | intro _
  | omega)
def sEqCs:Sm:=fun args ch kk =>
 match args with
 | [.a (.c c),.a (.c d)]=>rdK ch c fun x=>rdK ch d fun y=>(y=x∧capK x)∧kk (.a (.c (.lit true))) ch []
 | _=>False
theorem sEqCs_ok:SmOK Tryz.prog 152 sEqCs:=by
 refine smB Tryz.call152 fun args ch kk w X h0 hs=>?_
 unfold sEqCs at h0
 split at h0
 ·obtain ⟨x,O,C,so,sc,e,hA,h1⟩:=rdK_ok h0 hs
  obtain ⟨y,P,Q,sp,sq,e2,hB,⟨rfl,hc⟩,h2⟩:=rdK_ok h1 hs
  refine ⟨_,h2,?_⟩
  simp only [List.map_cons,List.map_nil,den_a,den_c,e,e2]
  exact eqCs_any _ O C so sc P Q sp sq w hA hB hc
 ·exact h0.elim
def sSzC:Sm:=inlM Tryz.prog {tb:=[(20,sSzIntS)]} 300 Tryz.f162
theorem sSzC_ok:SmOK Tryz.prog 162 sSzC:=inlM_ok mixed (E:={tb:=[(20,sSzIntS)]}) ⟨sSzIntS_ok,trivial⟩ Tryz.func162 Tryz.call162 (fun _ _ _=>loopsOK_nil _ _ _)
def scH (x:CD)(O:Option Addr)(C:Nat)(so:Nat→Option Addr)(sc:Nat→Nat)(k0:Int)(k i:SC)(g:Nat→Value):List SV:=[.a (.c (.sl 0 O x.n C)),.a (.c k),.a (.c (.val (g 2))),.a (.c (.val (g 3))),.a (.c (.val (g 4))),.a (.c i),.a (.c (.val (g 6))),.a (.c (.val (g 7))),.a (.c (.val (g 8))),.a (.c (.val (g 9))),.a (.c (.val (g 10))),.a (.c (.val (g 11))),.a (.c (.val (g 12))),.a (.c (.val (g 13))),.a (.c (.val (g 14))),.a (.c (.val (g 15))),.a (.c (.val (g 16))),.a (.c (.val (g 17))),.a (.c (.val (g 18))),.a (.c (.val (g 19))),.a (.c (.val (g 20))),.a (.c (.val (g 21))),.a (.c (.val (g 22))),.a (.c (.val (g 23))),.a (.c (.val (g 24))),.a (.c (.val (g 25))),.a (.c (.val (g 26)))]
def scR (x:CD)(O:Option Addr)(C:Nat)(so:Nat→Option Addr)(sc:Nat→Nat)(k0:Int)(g:Nat→Value):List SV:=[.a (.c (.val (g 0))),.a (.c (.val (g 1))),.a (.c (.val (g 2))),.a (.c (.val (g 3))),.a (.c (.il (-1))),.a (.c (.val (g 5))),.a (.c (.val (g 6))),.a (.c (.val (g 7))),.a (.c (.val (g 8))),.a (.c (.val (g 9))),.a (.c (.val (g 10))),.a (.c (.val (g 11))),.a (.c (.val (g 12))),.a (.c (.val (g 13))),.a (.c (.val (g 14))),.a (.c (.val (g 15))),.a (.c (.val (g 16))),.a (.c (.val (g 17))),.a (.c (.val (g 18))),.a (.c (.val (g 19))),.a (.c (.val (g 20))),.a (.c (.val (g 21))),.a (.c (.val (g 22))),.a (.c (.val (g 23))),.a (.c (.val (g 24))),.a (.c (.val (g 25))),.a (.c (.val (g 26)))]
abbrev leZ2 (a b:Int):Prop:=a≤b
def leftC (k:Int)(x:CD)(j:Nat):Int:=k-(x.n:Int)-(totN x.sn j:Int)+(j:Int)
def scT (x:CD)(O:Option Addr)(C:Nat)(so:Nat→Option Addr)(sc:Nat→Nat)(k0:Int):List Ch:=[.row ⟨false,O,0,2,x.n,0,cellFld 1 x so sc⟩,.obj false (symRows false 0 x so (fun _=>0))]
abbrev szK2 (k:Int)(x:CD):Prop:=0≤k∧k≤1048576∧x.n≤9223372036854775807∧∀ i,i<x.n→x.sn i≤9223372036854775807
def ssc:LSm:=fun ts ch kk=>∃ (x:CD) (O:Option Addr) (C:Nat) (so:Nat→Option Addr) (sc:Nat→Nat) (k0:Int),(ts.map SV.den=(scH x O C so sc k0 (.int (isub k0 (x.n:Int))) (.il 0) (fun d=>(ts.getD d .undef).den)).map SV.den∧ch=scT x O C so sc k0∧szK2 k0 x∧leZ2 0 (isub k0 (x.n:Int))) ∧
  (∀ (g:Nat→Value) (kx:Int),leZ2 0 (leftC k0 x x.n)→kk (.exit 0) (scH x O C so sc k0 (.int (leftC k0 x x.n)) (.int kx) g) (scT x O C so sc k0))∧(∀ (g:Nat→Value),kk .ret (scR x O C so sc k0 g) (scT x O C so sc k0))
theorem scB (x:CD)(O:Option Addr)(C:Nat)(so:Nat→Option Addr)(sc:Nat→Nat)(k0:Int)(j:Nat)(g:Nat→Value)(NX:List SV→List Ch→Prop)(kx:Exit→List SV→List Ch→Prop):(exCode Tryz.prog {tb:=[(162,sSzC)]} 400 (theLoop Tryz.f96 0) (scH x O C so sc k0 (.int (leftC k0 x j)) (.int (j:Int)) g) (scT x O C so sc k0) (loopK NX kx))=(
 (fun a:SV=>(fun b:SV=>(fun c:SV=>(fun d:SV=>(fun h:Int=>(fun k:SV=>(fun l:SV=>(fun m:SV=>(fun n:SV=>(fun o:List SC=>(fun p:Ch=>(fun q:SV=>(fun r:SV=>(fun s:Bool=>(fun t:Bool=>(fun u:Ch=>(fun v:List SV=>(s=true→O=O∧x.1=x.1∧(0≤((j:Nat):Int)∧((j:Nat):Int)<((x.1:Nat):Int))∧O=O∧j<x.1∧∀ w:Nat,(fun y:Ch=>w=w∧szC (x.2 j) h∧(h<(((x.2 j):Nat):Int)→kx Exit.ret v [u,p,y])∧((((x.2 j):Nat):Int)≤h→(t=true→kx Exit.ret v [u,p,y])∧(t=false→(t=true→kx Exit.ret [d,q,vV (g 2),vV (g 3),lV (-1),l,vV (g 6),vV (g 7),vV (g 8),vV (g 9),c,b,l,d,m,tV,vV (g 16),vV (g 17),d,l,rV 0 O 2 j 0,r,k,q,q,tV,a] [u,p,y])∧(t=false→rng (((j:Nat):Int)+(1:Int))∧NX [d,q,vV (g 2),vV (g 3),vV (g 4),n,vV (g 6),vV (g 7),vV (g 8),vV (g 9),c,b,l,d,m,tV,l,n,d,l,rV 0 O 2 j 0,r,k,q,q,fV,a] [u,p,y])))) (Hc w 255 o))∧(s=false→kx (Exit.exit 0) [d,k,vV (g 2),vV (g 3),vV (g 4),l,vV (g 6),vV (g 7),vV (g 8),vV (g 9),c,b,l,d,m,fV,vV (g 16),vV (g 17),vV (g 18),vV (g 19),vV (g 20),vV (g 21),vV (g 22),vV (g 23),vV (g 24),vV (g 25),a] [u,p])) [d,lV (-1),vV (g 2),vV (g 3),lV (-1),l,vV (g 6),vV (g 7),vV (g 8),vV (g 9),c,b,l,d,m,tV,vV (g 16),vV (g 17),d,l,rV 0 O 2 j 0,r,k,lV (-1),lV (-1),tV,a]) (Hr false O 0 2 x.1 0 [fun u=>Cs 1 (so u) (x.2 u) (sc u),fun u=>Cb (x.4 u)])) (decide ((h-(((x.2 j):Nat):Int))<(0:Int)))) (decide (((j:Nat):Int)<((x.1:Nat):Int)))) (aV o)) (iV (h-(((x.2 j):Nat):Int)))) (Ho false (symRows false 0 x so (fun p=>0)))) [Cs 1 (so j) (x.2 j) (sc j),Cb (x.4 j)]) (iV (((j:Nat):Int)+(1:Int)))) (iV ((x.1:Nat):Int))) (iV ((j:Nat):Int))) (iV h)) (leftC k0 x j)) (sV 0 O x.1 C)) (vV (g 10))) (vV (g 11))) (vV (g 26))):=by kernel_rfl
theorem left_next {k:Int}{x:CD}{j:Nat}:leftC k x j-(x.sn j:Int)=leftC k x (j+1):=by
 simp only [leftC,totN]
 omega
theorem sc_ok (X:Cx):LoopOK Tryz.prog X (theLoop Tryz.f96 0) ssc:=by
 intro ts ch kk a w hS hT hd hs
 obtain ⟨x,O,C,so,sc,k0,⟨h1,rfl,hk0,hl0⟩,hk,hr⟩:=hS
 have hl1:0≤k0-(x.n:Int):=hl0
 have hk1:=hk0.1
 have hk2:=hk0.2.1
 refine loop_ok mixed (E:={tb:=[(162,sSzC)]}) ⟨sSzC_ok,trivial⟩ (loopsOK_nil _ _ _) 400 x.n (fun j ts ch=>∃ g,(0≤leftC k0 x j∧leftC k0 x j≤1048576)∧ts=scH x O C so sc k0 (.int (leftC k0 x j)) (.int (j:Int)) g∧ch=scT x O C so sc k0) ?_ ?_ hT hd hs
 ·rintro j _ _ ⟨g,hlj,rfl,rfl⟩ hj
  refine (@Eq.mpr _ _ (scB x O C so sc k0 j g _ _) ?_)
  dsimp -zeta -proj -iota -eta -failIfUnchanged (etaStruct:=.none) only
  have hl:=hlj.1
  have hl2:=hlj.2
  by_cases hlt:j<x.n
  ·have hnx:=left_next (k:=k0) (x:=x) (j:=j)
   have hsn:=hk0.2.2.2 j hlt
   repeat' (first
    | with_reducible exact rfl
    | exact True.intro
    | with_reducible assumption
    | (refine ⟨hlt,?_⟩;show Next _ _ _ _;refine Next.mk (fun g=>scH x O C so sc k0 (.int (leftC k0 x (j+1))) (.int ((j+1:Nat):Int)) g) _ ⟨_,⟨by omega,by omega⟩,rfl,rfl⟩ (by rw [← hnx];rfl) fun w hw=>hw.sel [0,1] (by simp))
    | (refine Next.mk (fun g=>scR x O C so sc k0 g) _ (hr _) rfl fun w hw=>hw.sel [0,1] (by simp))
    | refine And.intro ?_ ?_
    | apply Exists.intro
    | (intro h;replace h:=of_decide_eq_true h;first | (exfalso;omega) | skip)
    | (intro h;replace h:=of_decide_eq_false h;first | (exfalso;omega) | skip)
    | intro _
    | omega
    | (simp;omega))
  ·have hjn:j=x.n:=by omega
   subst hjn
   repeat' (first
    | with_reducible exact rfl
    | exact True.intro
    | with_reducible assumption
    | (refine Next.mk (fun g=>scH x O C so sc k0 (.int (leftC k0 x x.n)) (.int (x.n:Int)) g) _ (hk _ _ hlj.1) rfl fun w hw=>hw)
    | refine And.intro ?_ ?_
    | apply Exists.intro
    | (intro h;replace h:=of_decide_eq_true h;first | (exfalso;omega) | skip)
    | (intro h;replace h:=of_decide_eq_false h;first | (exfalso;omega) | skip)
    | intro _
    | omega
    | (simp;omega))
 ·refine Next.mk (fun g=>scH x O C so sc k0 (.int (leftC k0 x 0)) (.int ((0:Nat):Int)) g) _ ⟨_,⟨by simp only [leftC,totN];omega,by simp only [leftC,totN];omega⟩,rfl,rfl⟩ (by rw [h1];simp [scH,SV.den,SA.den,SC.den,leftC,totN]) fun w hw=>hw
abbrev szPC (z k:Int)(x:CD):Prop:=z=-1∨(0≤z∧z=leftC k x x.n)
theorem szCs_T (x:CD)(O:Option Addr)(C:Nat)(so:Nat→Option Addr)(sc:Nat→Nat)(k0:Int):(exFn Tryz.prog { L:=[(5,ssc)] } 400 Tryz.f96 ([.a (.c (.sl 0 O x.n C)),.a (.c (.int k0))]) (scT x O C so sc k0) (fun v ch=>∃ z:Int,v.den=.int .i64 z∧szPC z k0 x))=(
 (fun b:Value=>(fun d:Value=>(fun g:Prop=>(fun h:Bool=>rng (k0-((x.1:Nat):Int))∧(h=true→g)∧(h=false→∃(j:CD) (k:Option Addr) (l:Nat) (m:Nat→Option Addr) (o:Nat→Nat) (p:Int),([Ws O x.1 C,d,b,b,Wi 0,Wi 0,Wi k0,Ws O x.1 C,Wi ((x.1:Nat):Int),d,d,Wb false,b,b,b,b,b,b,b,b,b,b,b,b,b,b,b]=[Ws k j.1 l,Wi (p-((j.1:Nat):Int)),b,b,Wi 0,Wi 0,Wi k0,Ws O x.1 C,Wi ((x.1:Nat):Int),d,d,Wb false,b,b,b,b,b,b,b,b,b,b,b,b,b,b,b]∧[Hr false O 0 2 x.1 0 [fun q=>Cs 1 (so q) (x.2 q) (sc q),fun q=>Cb (x.4 q)],Ho false (symRows false 0 x so (fun q=>0))]=[Hr false k 0 2 j.1 0 [fun q=>Cs 1 (m q) (j.2 q) (o q),fun q=>Cb (j.4 q)],Ho false (symRows false 0 j m (fun q=>0))]∧szK2 p j∧leZ2 (0:Int) (p-((j.1:Nat):Int)))∧(∀(q:Nat→Value) (r:Int),leZ2 (0:Int) (leftC p j j.1)→∃ s:Int,(Wi (leftC p j j.1))=(Wi s)∧szPC s k0 x)∧∀ q:Nat→Value,g)) (decide ((k0-((x.1:Nat):Int))<(0:Int)))) (∃ g:Int,(Wi (-1))=(Wi g)∧szPC g k0 x)) (Wi (k0-((x.1:Nat):Int)))) (Wu [])):=by kernel_rfl
theorem szCs_any (x:CD)(O:Option Addr)(C:Nat)(so:Nat→Option Addr)(sc:Nat→Nat)(k0:Int)(w:World)(hA:SeenC w x O so sc)(hk0:szK2 k0 x):Calls Tryz.prog 96 #[.slice O x.n C,.int .i64 k0] w fun e w'=>∃ z:Int,szPC z k0 x∧e=.returned (.int .i64 z)∧Below w.heap.size w w':=by
 refine fn_ok mixed (E:={ L:=[(5,ssc)] }) trivial Tryz.func96 (one_loop (by kernel_rfl) (by kernel_rfl) (sc_ok _)) (@Eq.mpr _ _ (szCs_T x O C so sc k0) ?_) (HS.seenAll (fun _=>False) _ (hA.all 1 seenC_nil)) (fun v ch' w' ⟨z,hv,hz⟩ hs=>⟨z,hz,by rw [hv],hs.below⟩)
 dsimp -zeta -proj -iota -eta -failIfUnchanged (etaStruct:=.none) only
 clear hA
 have hk1:=hk0.1
 have hk2:=hk0.2.1
 have hk3:=hk0.2.2.1
 repeat' (first
  | with_reducible exact rfl
  | exact True.intro
  | with_reducible assumption
  | exact hk0
  | (refine ⟨_,rfl,?_⟩;first | exact .inl rfl | exact .inr ⟨by with_reducible assumption,rfl⟩)
  | refine And.intro ?_ ?_
  | apply Exists.intro
  | (intro h;replace h:=of_decide_eq_true h;first | (exfalso;omega) | skip)
  | (intro h;replace h:=of_decide_eq_false h;first | (exfalso;omega) | skip)
  | intro _
  | omega
  | (show _≤_;simp only [isub];omega))
def sSzCs:Sm:=fun args ch kk =>
 match args with
 | [.a (.c c),.a (.c kc)] =>
  match asI kc with
  | some k0=>rdK ch c fun x=>szK2 k0 x∧∀ z:Int,szPC z k0 x→kk (.a (.c (.int z))) ch []
  | none=>False
 | _=>False
theorem sSzCs_ok:SmOK Tryz.prog 96 sSzCs:=by
 refine smV Tryz.call96 fun args ch kk w X h0 hs=>?_
 unfold sSzCs at h0
 split at h0
 ·split at h0
  ·rename_i k0 hkc
   obtain ⟨x,O,C,so,sc,e,hA,hk,h1⟩:=rdK_ok h0 hs
   simp only [List.map_cons,List.map_nil,den_a,den_c,e,asI_den hkc]
   exact Calls.mono (szCs_any x O C so sc k0 w hA hk) fun e w' ⟨z,hz,he,hb⟩=>⟨.a (.c (.int z)),he,hb,h1 z hz⟩
  ·exact h0.elim
 ·exact h0.elim
abbrev szK1 (k:Int):Prop:=0≤k∧k≤1048576
theorem has_cells {w:World}{ao:Option Addr}{len cap:Nat}{cs:List Value}(hcs:cs=[.slice ao len cap])(h:Has w (.slice (.cons (.slice .int) (.cons .bool .nil))) cs) :
  ∃ (x:CD) (so:Nat→Option Addr) (sc:Nat→Nat),x.n=len∧len≤maxLen∧(∀ i,i<x.n→x.sn i≤maxLen)∧SeenC w x ao so sc:=by
 obtain ⟨ao',len',cap',h1,hlen,h2⟩:=h
 rw [hcs] at h1
 injection h1 with h1
 injection h1 with e1 e2 e3
 subst e1 e2
 have hel:∀ i,∃ (O:Option Addr) (N C:Nat) (p:Bool) (g:Nat→Int),i<len→(∃ b off,ao=some ⟨b,off,none⟩∧b<w.heap.size∧w.cell? ⟨b,off+i*2,none⟩=some (.slice O N C)∧w.cell? ⟨b,off+(i*2+1),none⟩=some (.bool p))∧N≤maxLen∧Row.sat w ⟨false,O,0,1,N,0,[fun k=>.int (g k)]⟩:=fun i=>by
  by_cases hi:i<len
  ·obtain ⟨b,off,es,ha,hl,hc,hh⟩:=h2 i hi
   obtain ⟨O,N,C,r1,rfl,hs,hh1⟩:=has_slice hh
   obtain ⟨p,r2,rfl,hh2⟩:=has_bool hh1
   obtain rfl:=has_nil hh2
   obtain ⟨hN,G,_,hr⟩:=row_of_has (s:=1) (.inl ⟨rfl,rfl⟩) (by omega) rfl hs
   refine ⟨O,N,C,p,G 0,fun _=>⟨⟨b,off,ha,?_,?_,?_⟩,hN,hr⟩⟩
   ·have:=hc 0 (by decide)
    exact World.block_lt_of_cell? w _ this
   ·have:=hc 0 (by decide)
    simpa [Ty.size] using this
   ·have:=hc 1 (by decide)
    simpa [Ty.size,Nat.add_assoc] using this
  ·exact ⟨none,0,0,false,fun _=>0,fun h=>absurd h hi⟩
 refine ⟨⟨len,fun i=>(hel i).choose_spec.choose,fun i=>(hel i).choose_spec.choose_spec.choose_spec.choose_spec.choose,fun i=>(hel i).choose_spec.choose_spec.choose_spec.choose⟩,fun i=>(hel i).choose,fun i=>(hel i).choose_spec.choose_spec.choose,rfl,hlen,fun i hi=>?_,fun id=>?_,fun r hr=>?_⟩
 ·exact ((hel i).choose_spec.choose_spec.choose_spec.choose_spec.choose_spec hi).2.1
 ·refine ⟨rfl,fun _ hn=>?_,fun ho=>(by cases ho)⟩
  have hn:0<len:=hn
  obtain ⟨⟨b,off,ha,hb,_⟩,_⟩:=(hel 0).choose_spec.choose_spec.choose_spec.choose_spec.choose_spec hn
  refine ⟨b,off,ha,hb,fun i hi c f hf=>?_⟩
  obtain ⟨⟨b',off',ha',_,h3,h4⟩,_⟩:=(hel i).choose_spec.choose_spec.choose_spec.choose_spec.choose_spec hi
  rw [ha] at ha'
  injection ha' with ha'
  injection ha' with e1 e2
  subst e1 e2
  match c with
  | 0=>simp [cellFld] at hf;subst hf;simpa [SC.den] using h3
  | 1=>simp [cellFld] at hf;subst hf;simpa [SC.den] using h4
  | c+2=>simp [cellFld] at hf
 ·obtain ⟨i,hi,rfl⟩:=List.mem_map.1 hr
  exact ⟨rfl,((hel i).choose_spec.choose_spec.choose_spec.choose_spec.choose_spec (List.mem_range.1 hi)).2.2⟩
end Go.Proofs.YtmnccapnjphmfaaGreat

/-
  FnExactStoredAddr: a part of the walk (merged and squeezed by program: SxTrk).
-/
import Derived.Test.YtmnccapnjphmfaaGreatZbal
namespace Go.Proofs.YtmnccapnjphmfaaGreat
set_option linter.unusedVariables false
set_option linter.unusedSimpArgs false
open Go.RowKit
set_option maxRecDepth 100000
set_option maxHeartbeats 8000000
def sToIntR:Sm:=fun args ch k =>
 match args with
 | [.a (.c c)]=>rdn ch c fun n g0=>capC n∧∀ b,k (.a (.c (.sl ch.length (some ⟨b,0,none⟩) n n))) (ch ++ [.row ⟨true,some ⟨b,0,none⟩,3,1,n,n,[fun i=>.int (g0 i)]⟩]) []
 | _=>False
theorem sToIntR_ok:SmOK Tryz.prog 50 sToIntR:=by
 refine smN Tryz.call50 fun args ch k w X h0 hs=>?_
 unfold sToIntR at h0
 split at h0
 ·obtain ⟨ao,n,c,g0,e,hr,hn,h0⟩:=rdn_ok h0 hs
  simp only [List.map_cons,List.map_nil,den_a,den_c,e]
  exact Calls.mono (toIntS_any ao n c g0 w hn hr) fun e w' ⟨b,he,hs'⟩=>⟨.a (.c (.sl ch.length (some ⟨b,0,none⟩) n n)),_,he,hs',rfl,h0 b⟩
 ·exact h0.elim
def sEqIntR:Sm:=fun args ch k =>
 match args with
 | [.a (.c c),.a (.c d)]=>rdn ch c fun n g0=>rdn ch d fun m q0=>(m=n∧capC n∧∀ i,ltN i n→g0 i=q0 i)∧k (.a (.c (.lit true))) ch []
 | _=>False
theorem sEqIntR_ok:SmOK Tryz.prog 82 sEqIntR:=by
 refine smB Tryz.call82 fun args ch k w X h0 hs=>?_
 unfold sEqIntR at h0
 split at h0
 ·obtain ⟨ao,n,c,g0,e,hr,h0⟩:=rdn_ok h0 hs
  obtain ⟨bo,m,d,q0,e2,hr2,⟨hm,hn,hq⟩,h1⟩:=rdn_ok h0 hs
  subst hm
  refine ⟨_,h1,?_⟩
  simp only [List.map_cons,List.map_nil,den_a,den_c,e,e2]
  exact eqIntS_any ao bo _ c d g0 q0 w (by have:_≤2097152:=hn;omega) hq hr hr2
 ·exact h0.elim
structure TK where
 n:Nat
 rn:Nat→Nat
 ry:Nat→Nat→Int
 qn:Nat→Nat
 qy:Nat→Nat→Int
 sp:Nat→Int
def tkR (x:TK):CD:=⟨x.n,x.rn,x.ry,fun _=>false⟩
def tkQ (x:TK):CD:=⟨x.n,x.qn,x.qy,fun _=>false⟩
def trkFld (a b:Nat)(x:TK)(so:Nat→Option Addr)(sc:Nat→Nat)(uo:Nat→Option Addr)(uc:Nat→Nat):List (Nat→SC):=[fun i=>.sl a (so i) (x.rn i) (sc i),fun i=>.sl b (uo i) (x.qn i) (uc i),fun i=>.int (x.sp i)]
def nid2Of (fs:List (Nat→SC)):Nat :=
 match fs with
 | _::f::_=>idA (f 0) 1000004
 | _=>1000004
structure SeenT (w:World) (x:TK) (O:Option Addr) (so:Nat→Option Addr) (sc:Nat→Nat) (uo:Nat→Option Addr) (uc:Nat→Nat):Prop where
 h0:∀ a b,Row.sat w ⟨false,O,0,3,x.n,0,trkFld a b x so sc uo uc⟩
 h1:∀ r∈symRows false 0 (tkR x) so (fun _=>0),r.own=false∧r.sat w
 h2:∀ r∈symRows false 0 (tkQ x) uo (fun _=>0),r.own=false∧r.sat w
theorem SeenT.all {w:World}{x:TK}{O:Option Addr}{so:Nat→Option Addr}{sc:Nat→Nat}{uo:Nat→Option Addr}{uc:Nat→Nat}(h:SeenT w x O so sc uo uc)(b:Nat){cs:List Ch}(hc:∀ c∈cs,c.own=false∧c.sat w):∀ c∈[Ch.row ⟨false,O,0,3,x.n,0,trkFld b (b+1) x so sc uo uc⟩,.obj false (symRows false 0 (tkR x) so (fun _=>0)),.obj false (symRows false 0 (tkQ x) uo (fun _=>0))] ++ cs,c.own=false∧c.sat w :=
 seenC_row rfl (h.h0 _ _) (seenC_obj h.h1 (seenC_obj h.h2 hc))
def rdT (ch:List Ch)(c:SC)(K:TK→Prop):Prop :=
 match c with
 | .sl i0 a0 n0 _ =>
  match ch[i0]? with
  | some (.row r0) =>
   match ch[nidOf r0.fld]?,ch[nid2Of r0.fld]? with
   | some (.obj o rs),some (.obj p us)=>∃ (t t2:Nat) (y:TK) (so:Nat→Option Addr) (sc sd:Nat→Nat) (uo:Nat→Option Addr) (uc ud:Nat→Nat),(rs=symRows o t (tkR y) so sd∧us=symRows p t2 (tkQ y) uo ud∧r0.fld=trkFld (nidOf r0.fld) (nid2Of r0.fld) y so sc uo uc∧a0=r0.ao∧n0=r0.n∧n0=y.n)∧K y
   | _,_=>False
  | _=>False
 | _=>False
theorem rdT_ok {ch:List Ch}{c:SC}{K:TK→Prop}(h:rdT ch c K){X:Cx}{w:World}(hs:HS X ch w):∃ (x:TK) (O:Option Addr) (C:Nat) (so:Nat→Option Addr) (sc:Nat→Nat) (uo:Nat→Option Addr) (uc:Nat→Nat),c.den=.slice O x.n C∧SeenT w x O so sc uo uc∧K x:=by
 unfold rdT at h
 split at h
 ·rename_i i0 a0 n0 c0
  split at h
  ·rename_i r0 h0
   split at h
   ·rename_i o rs p us h3 h4
    obtain ⟨t,t2,y,so,sc,sd,uo,uc,ud,⟨rfl,rfl,f0,rfl,rfl,hn⟩,hk⟩:=h
    refine ⟨y,r0.ao,c0,so,sc,uo,uc,by rw [← hn];rfl,⟨fun a b=>?_,symRows_seen fun r hr=>(hs.seeObj h3 r hr).2,symRows_seen fun r hr=>(hs.seeObj h4 r hr).2⟩,hk⟩
    have:=seenAs' (hs.sat i0 _ h0) f0 rfl
    rw [hn] at this
    exact Row.reF this ⟨fun i hi=>rfl,fun i hi=>rfl,fun i hi=>rfl,trivial⟩
   ·exact h.elim
  ·exact h.elim
 ·exact h.elim
abbrev capT (x:TK):Prop:=x.n≤2097152∧∀ i,i<x.n→x.rn i≤2097152∧x.qn i≤2097152
theorem sp_set {j:Nat}{sp:Nat→Int}{n:Nat}:∀ i,ltN i n→(SC.int (if i=j then sp j else if i<j then sp i else 0)).den=(SC.int (if i<j+1 then sp i else 0)).den:=fun i hi=>by
 by_cases h1:i<j
 ·have h2:¬ i=j:=by omega
  have h3:i<j+1:=by omega
  simp [SC.den,h1,h2,h3]
 ·by_cases h2:i=j
  ·subst h2
   simp [SC.den]
  ·have h3:¬ i<j+1:=by omega
   simp [SC.den,h1,h2,h3]
theorem sp_all {sp:Nat→Int}{n:Nat}:∀ i,ltN i n→(SC.int (if i<n then sp i else 0)).den=(SC.int (sp i)).den:=fun i hi=>by
 have h1:i<n:=hi
 simp [SC.den,h1]
def sToTrk:Sm:=inlM Tryz.prog {tb:=[(50,sToIntR)]} 300 Tryz.f122
theorem sToTrk_ok:SmOK Tryz.prog 122 sToTrk:=inlM_ok mixed (E:={tb:=[(50,sToIntR)]}) ⟨sToIntR_ok,trivial⟩ Tryz.func122 Tryz.call122 (fun _ _ _=>loopsOK_nil _ _ _)
def ttH (x:TK)(O:Option Addr)(C:Nat)(so:Nat→Option Addr)(sc:Nat→Nat)(uo:Nat→Option Addr)(uc:Nat→Nat)(bm:Nat)(i:SC)(g:Nat→Value):List SV:=hdN [(0,.a (.c (.sl 0 O x.n C))),(3,.a (.c (.sl 3 (some ⟨bm,0,none⟩) x.n x.n))),(4,.a (.c i))] g 0 23
def ttT (x:TK)(O:Option Addr)(C:Nat)(so:Nat→Option Addr)(sc:Nat→Nat)(uo:Nat→Option Addr)(uc:Nat→Nat)(bm j:Nat)(soq:Nat→Option Addr)(scq:Nat→Nat)(uoq:Nat→Option Addr)(ucq:Nat→Nat):List Ch:=[.row ⟨false,O,0,3,x.n,0,trkFld 1 2 x so sc uo uc⟩,.obj false (symRows false 0 (tkR x) so (fun _=>0)),.obj false (symRows false 0 (tkQ x) uo (fun _=>0)),.row ⟨true,some ⟨bm,0,none⟩,194,3,x.n,x.n,[fun i=>.val (lowV i j (.slice (soq i) (x.rn i) (scq i)) (.slice none 0 0)),fun i=>.val (lowV i j (.slice (uoq i) (x.qn i) (ucq i)) (.slice none 0 0)),fun i=>.int (lowI i j (x.sp i) 0)]⟩,.obj true (symRows true 3 ⟨j,x.rn,x.ry,fun _=>false⟩ soq scq),.obj true (symRows true 3 ⟨j,x.qn,x.qy,fun _=>false⟩ uoq ucq)]
def ttE (x:TK)(O:Option Addr)(C:Nat)(so:Nat→Option Addr)(sc:Nat→Nat)(uo:Nat→Option Addr)(uc:Nat→Nat)(bm:Nat)(soq:Nat→Option Addr)(scq:Nat→Nat)(uoq:Nat→Option Addr)(ucq:Nat→Nat):List Ch:=[.row ⟨false,O,0,3,x.n,0,trkFld 1 2 x so sc uo uc⟩,.obj false (symRows false 0 (tkR x) so (fun _=>0)),.obj false (symRows false 0 (tkQ x) uo (fun _=>0)),.row ⟨true,some ⟨bm,0,none⟩,194,3,x.n,x.n,trkFld 4 (4+1) x soq scq uoq ucq⟩,.obj true (symRows true 3 (tkR x) soq scq),.obj true (symRows true 3 (tkQ x) uoq ucq)]
def stt:LSm:=fun ts ch kk=>∃ (x:TK) (O:Option Addr) (C:Nat) (so:Nat→Option Addr) (sc:Nat→Nat) (uo:Nat→Option Addr) (uc:Nat→Nat) (bm:Nat),(ts.map SV.den=(ttH x O C so sc uo uc bm (.il 0) (fun d=>(ts.getD d .undef).den)).map SV.den∧SelS ch [0,1,2,3,1000000,1000003] (ttT x O C so sc uo uc bm 0 (fun _=>none) (fun _=>0) (fun _=>none) (fun _=>0))∧capT x) ∧
  ∀ (g:Nat→Value) (kx:Int) (soq:Nat→Option Addr) (scq:Nat→Nat) (uoq:Nat→Option Addr) (ucq:Nat→Nat),kk (.exit 0) (ttH x O C so sc uo uc bm (.int kx) g) (ttE x O C so sc uo uc bm soq scq uoq ucq)
theorem ttB (x:TK)(O:Option Addr)(C:Nat)(so:Nat→Option Addr)(sc:Nat→Nat)(uo:Nat→Option Addr)(uc:Nat→Nat)(bm:Nat)(soq:Nat→Option Addr)(scq:Nat→Nat)(uoq:Nat→Option Addr)(ucq:Nat→Nat)(j:Nat)(g:Nat→Value)(NX:List SV→List Ch→Prop)(kx:Exit→List SV→List Ch→Prop):(exCode Tryz.prog {tb:=[(122,sToTrk)],D:=fun _=>[3]} 400 (theLoop Tryz.f49 0) (ttH x O C so sc uo uc bm (.int (j:Int)) g) (ttT x O C so sc uo uc bm j soq scq uoq ucq) (loopK NX kx))=(
 (fun a:Option Addr=>(fun b:SC=>(fun c:SV=>(fun d:SV=>(fun h:SV=>(fun k:SV=>(fun l:Bool=>(fun m:List Row=>(fun n:List Row=>(fun o:Ch=>(fun p:Ch=>(fun q:Prop=>(fun r:List SC=>(fun s:Ch=>(fun t:Ch=>(fun u:Ch=>(l=true→O=O∧x.1=x.1∧q∧O=O∧j<x.1∧∀ v w y:Nat,v=v∧∃(z:Nat) (B:CD) (E:Nat→Option Addr) (F:Nat→Nat) (G:Nat),(n=(symRows false z B E F)∧(so j)=(E G)∧(x.2 j)=(B.2 G)∧G<B.1)∧capC (x.2 j)∧∀ H:Nat,(fun I:SC=>y=y∧v=v∧∃(J:Nat) (K:CD) (L:Nat→Option Addr) (M:Nat→Nat) (N:Nat),(m=(symRows false J K L M)∧(uo j)=(L N)∧(x.4 j)=(K.2 N)∧N<K.1)∧capC (x.4 j)∧∀ P:Nat,(fun Q:SC=>y=y∧v=v∧y=y∧y=y∧w=w∧w=w∧a=a∧x.1=x.1∧q∧a=a∧j<x.1∧rng (((j:Nat):Int)+(1:Int))∧NX [c,vV (g 1),vV (g 2),h,k,vV (g 5),vV (g 6),vV (g 7),d,c,iV ((x.1:Nat):Int),tV,d,k,h,d,c,d,rV 0 O 3 j 0,aV r,aV [I,Q,b],rV 3 a 3 j 0,vV (g 22)] [u,t,s,Hr true a 194 3 x.1 x.1 [fun R=>Cv (if R=j then (Ws (Ad H 0) (x.2 j) (x.2 j)) else (if R<j then (Ws (soq R) (x.2 R) (scq R)) else Wn)),fun R=>Cv (if R=j then (Ws (Ad P 0) (x.4 j) (x.4 j)) else (if R<j then (Ws (uoq R) (x.4 R) (ucq R)) else Wn)),fun R=>Ci (if R=j then (x.6 j) else (if R<j then (x.6 R) else (0:Int)))],p,o,Hc v 180 r,Hc w 194 [I,Q,b],Hc y 194 [I,Q,b],Hr true (Ad H 0) 3 1 (x.2 j) (x.2 j) [fun R=>Ci (B.3 G R)],Hr true (Ad P 0) 3 1 (x.4 j) (x.4 j) [fun R=>Ci (K.3 N R)]]) (Cs 10 (Ad P 0) (x.4 j) (x.4 j))) (Cs 9 (Ad H 0) (x.2 j) (x.2 j)))∧(l=false→kx (Exit.exit 0) [c,vV (g 1),vV (g 2),h,d,vV (g 5),vV (g 6),vV (g 7),d,c,iV ((x.1:Nat):Int),fV,vV (g 12),vV (g 13),vV (g 14),vV (g 15),vV (g 16),vV (g 17),vV (g 18),vV (g 19),vV (g 20),vV (g 21),vV (g 22)] [u,t,s,Hr true a 194 3 x.1 x.1 [fun v=>Cv (if v<j then (Ws (soq v) (x.2 v) (scq v)) else Wn),fun v=>Cv (if v<j then (Ws (uoq v) (x.4 v) (ucq v)) else Wn),fun v=>Ci (if v<j then (x.6 v) else (0:Int))],p,o])) (Hr false O 0 3 x.1 0 [fun u=>Cs 1 (so u) (x.2 u) (sc u),fun u=>Cs 2 (uo u) (x.4 u) (uc u),fun u=>Ci (x.6 u)])) (Ho false n)) (Ho false m)) [Cs 1 (so j) (x.2 j) (sc j),Cs 2 (uo j) (x.4 j) (uc j),b]) (0≤((j:Nat):Int)∧((j:Nat):Int)<((x.1:Nat):Int))) (Ho true (symRows true 3 (CD.mk j x.2 x.3 (fun p=>false)) soq scq))) (Ho true (symRows true 3 (CD.mk j x.4 x.5 (fun o=>false)) uoq ucq))) (symRows false 0 (CD.mk x.1 x.2 x.3 (fun n=>false)) so (fun n=>0))) (symRows false 0 (CD.mk x.1 x.4 x.5 (fun m=>false)) uo (fun m=>0))) (decide (((j:Nat):Int)<((x.1:Nat):Int)))) (iV (((j:Nat):Int)+(1:Int)))) (sV 3 a x.1 x.1)) (iV ((j:Nat):Int))) (sV 0 O x.1 C)) (Ci (x.6 j))) (Ad bm 0)):=by kernel_rfl
theorem tt_ok (X:Cx):LoopOK Tryz.prog X (theLoop Tryz.f49 0) stt:=by
 intro ts ch kk a w hS hT hd hs
 obtain ⟨x,O,C,so,sc,uo,uc,bm,⟨h1,hch,hcap⟩,hk⟩:=hS
 have hn0:=hcap.1
 refine loop_ok mixed (E:={tb:=[(122,sToTrk)],D:=fun _=>[3]}) ⟨sToTrk_ok,trivial⟩ (loopsOK_nil _ _ _) 400 x.n (fun j ts ch=>∃ g soq scq uoq ucq,ts=ttH x O C so sc uo uc bm (.int (j:Int)) g∧ch=ttT x O C so sc uo uc bm j soq scq uoq ucq) ?_ ?_ hT hd hs
 ·rintro j _ _ ⟨g,soq,scq,uoq,ucq,rfl,rfl⟩ hj
  refine (@Eq.mpr _ _ (ttB x O C so sc uo uc bm soq scq uoq ucq j g _ _) ?_)
  dsimp -zeta -proj -iota -eta -failIfUnchanged (etaStruct:=.none) only
  by_cases hlt:j<x.n
  ·have hsr:capC (x.rn j):=(hcap.2 j hlt).1
   have hsq:capC (x.qn j):=(hcap.2 j hlt).2
   repeat' (first
    | with_reducible exact rfl
    | exact True.intro
    | with_reducible assumption
    | (refine ⟨hlt,?_⟩;show Next _ _ _ _;rename_i br bq;refine Next.mk (fun g=>ttH x O C so sc uo uc bm (.int ((j+1:Nat):Int)) g) (ttT x O C so sc uo uc bm (j+1) (fun i=>if i<j then soq i else some ⟨br,0,none⟩) (fun i=>if i<j then scq i else x.rn j) (fun i=>if i<j then uoq i else some ⟨bq,0,none⟩) (fun i=>if i<j then ucq i else x.qn j)) ⟨_,_,_,_,_,rfl,rfl⟩ (by kernel_rfl) fun w hw=>SelS.hs (l:=[0,1,2,3,4,5]) (by refine ⟨?_,rfl⟩;repeat' (first | exact True.intro | exact symRows_push | exact rfl | refine And.intro ?_ ?_ | (intro i hi;show _=_;with_reducible rfl) | (intro i hi;show _=_;rfl) | exact symRows_push (x:=tkR x) | exact symRows_push (x:=tkQ x) | exact st_hd | exact sp_set | (intro i hi;show _=_;simp only [SC.den];split <;> rfl))) ((hw.nestApp 4 9 rfl rfl rfl (by decide)).nestApp 5 10 rfl rfl rfl (by decide)))
    | refine And.intro ?_ ?_
    | apply Exists.intro
    | (intro h;replace h:=of_decide_eq_true h;first | (exfalso;omega) | skip)
    | (intro h;replace h:=of_decide_eq_false h;first | (exfalso;omega) | skip)
    | intro _
    | omega
    | (simp;omega))
  ·have hjn:j=x.n:=by omega
   subst hjn
   repeat' (first
    | with_reducible exact rfl
    | exact True.intro
    | with_reducible assumption
    | (refine Next.mk (fun g=>ttH x O C so sc uo uc bm (.int (x.n:Int)) g) _ (hk _ _ soq scq uoq ucq) (by kernel_rfl) fun w hw=>SelS.hs (l:=[0,1,2,3,4,5]) (by refine ⟨?_,rfl⟩;repeat' (first | exact True.intro | exact symRows_push | exact rfl | refine And.intro ?_ ?_ | (intro i hi;show _=_;with_reducible rfl) | (intro i hi;show _=_;rfl) | exact low_hd | exact sp_all | (intro i hi;show _=_;simp only [SC.den];split <;> rfl))) hw)
    | refine And.intro ?_ ?_
    | (intro h;replace h:=of_decide_eq_true h;first | (exfalso;omega) | skip)
    | (intro h;replace h:=of_decide_eq_false h;first | (exfalso;omega) | skip)
    | intro _
    | omega)
 ·exact Next.mk (fun g=>ttH x O C so sc uo uc bm (.int ((0:Nat):Int)) g) _ ⟨_,_,_,_,_,rfl,rfl⟩ h1 fun w hw=>hch.hs hw
theorem toTs_T (x:TK)(O:Option Addr)(C:Nat)(so:Nat→Option Addr)(sc:Nat→Nat)(uo:Nat→Option Addr)(uc:Nat→Nat):(exFn Tryz.prog { L:=[(3,stt)] } 400 Tryz.f49 ([.a (.c (.sl 0 O x.n C))]) ([.row ⟨false,O,0,3,x.n,0,trkFld 1 2 x so sc uo uc⟩,.obj false (symRows false 0 (tkR x) so (fun _=>0)),.obj false (symRows false 0 (tkQ x) uo (fun _=>0))]) (fun v ch=>∃ (bm:Nat) (soq:Nat→Option Addr) (scq:Nat→Nat) (uoq:Nat→Option Addr) (ucq:Nat→Nat),v.den=.slice (some ⟨bm,0,none⟩) x.n x.n∧SelS ch [3,4,5] [.row ⟨true,some ⟨bm,0,none⟩,194,3,x.n,x.n,trkFld 1 (1+1) x soq scq uoq ucq⟩,.obj true (symRows true 3 (tkR x) soq scq),.obj true (symRows true 3 (tkQ x) uoq ucq)]))=(
 (fun b:Value=>(fun d:CD=>(fun g:CD=>((x.1:Nat):Int)=((x.1:Nat):Int)∧mkC 56 ((x.1:Nat):Int)∧∀ h:Nat,(fun j:Value=>∃(k:TK) (l:Option Addr) (m:Nat) (o:Nat→Option Addr) (p:Nat→Nat) (q:Nat→Option Addr) (r:Nat→Nat) (s:Nat),(fun t:CD=>(fun u:CD=>(fun w:Ch=>(fun y:Ch=>(fun z:Ch=>([Ws O x.1 C,b,Wn,j,Wi 0,Ws O x.1 C,Wi ((x.1:Nat):Int),j,b,b,b,b,b,b,b,b,b,b,b,b,b,b,b]=[Ws l k.1 m,b,Wn,Ws (Ad s 0) k.1 k.1,Wi 0,Ws O x.1 C,Wi ((x.1:Nat):Int),j,b,b,b,b,b,b,b,b,b,b,b,b,b,b,b]∧SelS [Hr false O 0 3 x.1 0 [fun B=>Cs 1 (so B) (x.2 B) (sc B),fun B=>Cs 2 (uo B) (x.4 B) (uc B),fun B=>Ci (x.6 B)],Ho false (symRows false 0 g so (fun B=>0)),Ho false (symRows false 0 d uo (fun B=>0)),Hr true (Ad h 0) 194 3 x.1 x.1 [fun B=>Cz,fun B=>Cz,fun B=>Cl 0]] [0,1,2,3,1000000,1000003] [z,y,w,Hr true (Ad s 0) 194 3 k.1 k.1 [fun B=>Cv (if B<0 then (Value.slice (none:Option Addr) (k.2 B) 0) else Wn),fun B=>Cv (if B<0 then (Value.slice (none:Option Addr) (k.4 B) 0) else Wn),fun B=>Ci (if B<0 then (k.6 B) else (0:Int))],Ho true (symRows true 3 (CD.mk 0 k.2 k.3 (fun B=>false)) (fun B=>(none:Option Addr)) (fun B=>0)),Ho true (symRows true 3 (CD.mk 0 k.4 k.5 (fun B=>false)) (fun B=>(none:Option Addr)) (fun B=>0))]∧capT k)∧∀(B:Nat→Value) (D:Int) (E:Nat→Option Addr) (F:Nat→Nat) (G:Nat→Option Addr) (H:Nat→Nat),∃(I:Nat) (J:Nat→Option Addr) (K:Nat→Nat) (M:Nat→Option Addr) (N:Nat→Nat),(Ws (Ad s 0) k.1 k.1)=(Ws (Ad I 0) x.1 x.1)∧SelS [z,y,w,Hr true (Ad s 0) 194 3 k.1 k.1 [fun P=>Cs 4 (E P) (k.2 P) (F P),fun P=>Cs 5 (G P) (k.4 P) (H P),fun P=>Ci (k.6 P)],Ho true (symRows true 3 u E F),Ho true (symRows true 3 t G H)] [3,4,5] [Hr true (Ad I 0) 194 3 x.1 x.1 [fun P=>Cs 1 (J P) (x.2 P) (K P),fun P=>Cs 2 (M P) (x.4 P) (N P),fun P=>Ci (x.6 P)],Ho true (symRows true 3 g J K),Ho true (symRows true 3 d M N)]) (Hr false l 0 3 k.1 0 [fun z=>Cs 1 (o z) (k.2 z) (p z),fun z=>Cs 2 (q z) (k.4 z) (r z),fun z=>Ci (k.6 z)])) (Ho false (symRows false 0 u o (fun y=>0)))) (Ho false (symRows false 0 t q (fun w=>0)))) (CD.mk k.1 k.2 k.3 (fun u=>false))) (CD.mk k.1 k.4 k.5 (fun t=>false))) (Ws (Ad h 0) x.1 x.1)) (CD.mk x.1 x.2 x.3 (fun g=>false))) (CD.mk x.1 x.4 x.5 (fun d=>false))) (Wu [])):=by kernel_rfl
theorem toTs_any (x:TK)(O:Option Addr)(C:Nat)(so:Nat→Option Addr)(sc:Nat→Nat)(uo:Nat→Option Addr)(uc:Nat→Nat)(w:World)(hA:SeenT w x O so sc uo uc)(hcap:capT x):Calls Tryz.prog 49 #[.slice O x.n C] w fun e w'=>∃ (bm:Nat) (soq:Nat→Option Addr) (scq:Nat→Nat) (uoq:Nat→Option Addr) (ucq:Nat→Nat),e=.returned (.slice (some ⟨bm,0,none⟩) x.n x.n)∧HS ⟨w,fun _=>False⟩ [.row ⟨true,some ⟨bm,0,none⟩,194,3,x.n,x.n,trkFld 1 (1+1) x soq scq uoq ucq⟩,.obj true (symRows true 3 (tkR x) soq scq),.obj true (symRows true 3 (tkQ x) uoq ucq)] w':=by
 refine fn_ok mixed (E:={ L:=[(3,stt)] }) trivial Tryz.func49 (one_loop (by kernel_rfl) (by kernel_rfl) (tt_ok _)) (@Eq.mpr _ _ (toTs_T x O C so sc uo uc) ?_) (HS.seenAll (fun _=>False) _ (hA.all 1 seenC_nil)) (fun v ch' w' ⟨bm,soq,scq,uoq,ucq,hv,hc⟩ hs=>⟨bm,soq,scq,uoq,ucq,by rw [hv],hc.hs hs⟩)
 dsimp -zeta -proj -iota -eta -failIfUnchanged (etaStruct:=.none) only
 clear hA
 have hn0:=hcap.1
 repeat' (first
  | with_reducible exact rfl
  | exact True.intro
  | with_reducible assumption
  | exact hcap
  | exact (by refine ⟨?_,rfl⟩;repeat' (first | exact True.intro | exact symRows_push | exact rfl | refine And.intro ?_ ?_ | (intro i hi;show _=_;with_reducible rfl) | (intro i hi;show _=_;rfl) | exact symRows_nil | (intro i hi;simp [SC.den];done) | (intro i hi;show _=_;simp only [SC.den];split <;> rfl)))
  | refine And.intro ?_ ?_
  | apply Exists.intro
  | (intro h;replace h:=of_decide_eq_true h;first | (exfalso;omega) | skip)
  | (intro h;replace h:=of_decide_eq_false h;first | (exfalso;omega) | skip)
  | (intro i hi;with_reducible exact rfl)
  | intro _
  | omega
  | exact rfl)
def sToTs:Sm:=fun args ch kk =>
 match args with
 | [.a (.c c)]=>rdT ch c fun x=>capT x∧∀ (bm:Nat) (soq:Nat→Option Addr) (scq:Nat→Nat) (uoq:Nat→Option Addr) (ucq:Nat→Nat),kk (.a (.c (.sl ch.length (some ⟨bm,0,none⟩) x.n x.n))) (ch ++ [.row ⟨true,some ⟨bm,0,none⟩,194,3,x.n,x.n,trkFld (ch.length+1) ((ch.length+1)+1) x soq scq uoq ucq⟩,.obj true (symRows true 3 (tkR x) soq scq),.obj true (symRows true 3 (tkQ x) uoq ucq)]) []
 | _=>False
theorem trk_at {b id:Nat}{x:TK}{O:Option Addr}{C t t2 t3:Nat}{so:Nat→Option Addr}{sc:Nat→Nat}{uo:Nat→Option Addr}{uc:Nat→Nat}{X:Cx}{w:World}(h:HS X [.row ⟨true,O,t,3,x.n,C,trkFld id (id+1) x so sc uo uc⟩,.obj true (symRows true t2 (tkR x) so sc),.obj true (symRows true t3 (tkQ x) uo uc)] w):HS X [.row ⟨true,O,t,3,x.n,C,trkFld b (b+1) x so sc uo uc⟩,.obj true (symRows true t2 (tkR x) so sc),.obj true (symRows true t3 (tkQ x) uo uc)] w :=
 h.reS ⟨⟨rfl,rfl,rfl,rfl,rfl,rfl,fun i hi=>rfl,fun i hi=>rfl,fun i hi=>rfl,trivial⟩,⟨rfl,rfl⟩,⟨rfl,rfl⟩,trivial⟩
theorem sToTs_ok:SmOK Tryz.prog 49 sToTs:=by
 refine smN Tryz.call49 fun args ch kk w X h0 hs=>?_
 unfold sToTs at h0
 split at h0
 ·obtain ⟨x,O,C,so,sc,uo,uc,e,hA,hc,h0⟩:=rdT_ok h0 hs
  simp only [List.map_cons,List.map_nil,den_a,den_c,e]
  exact Calls.mono (toTs_any x O C so sc uo uc w hA hc) fun e w' ⟨bm,soq,scq,uoq,ucq,he,hs'⟩=>⟨.a (.c (.sl ch.length (some ⟨bm,0,none⟩) x.n x.n)),_,he,trk_at hs',rfl,h0 bm soq scq uoq ucq⟩
 ·exact h0.elim
end Go.Proofs.YtmnccapnjphmfaaGreat

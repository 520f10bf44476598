/-
  FnExactControllerNew: a part of the walk (merged and squeezed by program: SxNm).
-/
import Derived.Test.YtbhfabaofhhkeaaGreatZaf
import Derived.Test.YtbhfabaofhhkeaaGreatZah
namespace Go.Proofs.YtbhfabaofhhkeaaGreat
set_option linter.unusedVariables false
set_option linter.unusedSimpArgs false
open Go.RowKit
set_option maxRecDepth 100000
set_option maxHeartbeats 8000000
def tSn (x:TK)(i:Nat):Nat:=x.rn i+x.qn i
def tAt (k:Int)(x:TK)(i:Nat):Int:=kAt k (tSn x) i
def tR (k:Int)(x:TK)(i q:Nat):Int:=mk (tAt k x i) 1 0 q
def tQ (k:Int)(x:TK)(i q:Nat):Int:=mk (mk (tAt k x i) 1 0 (x.rn i)) 1 0 q
def markTK (k:Int)(x:TK):TK:=⟨x.n,x.rn,tR k x,x.qn,tQ k x,fun i=>tQ k x i (x.qn i)⟩
abbrev capM (x:TK):Prop:=totN (tSn x) x.n≤2097152
theorem tAt_next {k:Int}{x:TK}{j:Nat}:tQ k x j (x.qn j)+1=tAt k x (j+1):=by
 simp only [tQ,tAt,mk,kAt,totN,tSn]
 omega
theorem low_rows {o:Bool}{t n j:Nat}{sn:Nat→Nat}{f g:Nat→Nat→Int}{po po2:Nat→Bool}{so:Nat→Option Addr}{sc:Nat→Nat}:symRows o t ⟨n,sn,fun a q=>if a=j then f j q else if a<j then f a q else g a q,po⟩ so sc=symRows o t ⟨n,sn,fun a q=>if a<j+1 then f a q else g a q,po2⟩ so sc :=
 symRows_congr rfl fun i hi=>by
  simp only [symRow]
  congr 1
  congr 1
  funext q
  by_cases h1:i<j
  ·have h2:¬ i=j:=by omega
   have h3:i<j+1:=by omega
   simp [h1,h2,h3]
  ·by_cases h2:i=j
   ·subst h2
    simp
   ·have h3:¬ i<j+1:=by omega
    simp [h1,h2,h3]
theorem low_all {o:Bool}{t n:Nat}{sn:Nat→Nat}{f g:Nat→Nat→Int}{po po2:Nat→Bool}{so:Nat→Option Addr}{sc:Nat→Nat}:symRows o t ⟨n,sn,fun a q=>if a<n then f a q else g a q,po⟩ so sc=symRows o t ⟨n,sn,f,po2⟩ so sc :=
 symRows_congr rfl fun i hi=>by
  have hi:i<n:=hi
  simp [symRow,hi]
theorem low_none {o:Bool}{t n:Nat}{sn:Nat→Nat}{f g:Nat→Nat→Int}{po po2:Nat→Bool}{so:Nat→Option Addr}{sc:Nat→Nat}:symRows o t ⟨n,sn,g,po⟩ so sc=symRows o t ⟨n,sn,fun a q=>if a<0 then f a q else g a q,po2⟩ so sc :=
 symRows_congr rfl fun i hi=>by simp [symRow]
theorem low_sp {j n:Nat}{f g:Nat→Int}:∀ i,ltN i n→(SC.int (if i=j then f j else if i<j then f i else g i)).den=(SC.int (if i<j+1 then f i else g i)).den:=fun i hi=>by
 by_cases h1:i<j
 ·have h2:¬ i=j:=by omega
  have h3:i<j+1:=by omega
  simp [SC.den,h1,h2,h3]
 ·by_cases h2:i=j
  ·subst h2
   simp [SC.den]
  ·have h3:¬ i<j+1:=by omega
   simp [SC.den,h1,h2,h3]
theorem low_spE {n:Nat}{f g:Nat→Int}:∀ i,ltN i n→(SC.int (if i<n then f i else g i)).den=(SC.int (f i)).den:=fun i hi=>by
 have h1:i<n:=hi
 simp [SC.den,h1]
def mtH (x:TK)(O:Option Addr)(C:Nat)(so:Nat→Option Addr)(sc:Nat→Nat)(uo:Nat→Option Addr)(uc:Nat→Nat)(tt t u cap:Nat)(k0:Int)(k i:SC)(g:Nat→Value):List SV:=hdN [(0,.a (.c (.sl 0 O x.n C))),(1,.a (.c k)),(5,.a (.c i))] g 0 34
def mtT (x:TK)(O:Option Addr)(C:Nat)(so:Nat→Option Addr)(sc:Nat→Nat)(uo:Nat→Option Addr)(uc:Nat→Nat)(tt t u cap:Nat)(k0:Int)(j:Nat):List Ch:=[.row ⟨true,O,tt,3,x.n,cap,[fun i=>.sl 1 (so i) (x.rn i) (sc i),fun i=>.sl 2 (uo i) (x.qn i) (uc i),fun i=>.int (lowI i j (tQ k0 x i (x.qn i)) (x.sp i))]⟩,.obj true (symRows true t ⟨x.n,x.rn,fun a q=>lowI a j (tR k0 x a q) (x.ry a q),fun _=>false⟩ so sc),.obj true (symRows true u ⟨x.n,x.qn,fun a q=>lowI a j (tQ k0 x a q) (x.qy a q),fun _=>false⟩ uo uc)]
def mtE (x:TK)(O:Option Addr)(C:Nat)(so:Nat→Option Addr)(sc:Nat→Nat)(uo:Nat→Option Addr)(uc:Nat→Nat)(tt t u cap:Nat)(k0:Int):List Ch:=[.row ⟨true,O,tt,3,x.n,cap,trkFld 1 2 (markTK k0 x) so sc uo uc⟩,.obj true (symRows true t (tkR (markTK k0 x)) so sc),.obj true (symRows true u (tkQ (markTK k0 x)) uo uc)]
def smt:LSm:=fun ts ch kk=>∃ (x:TK) (O:Option Addr) (C:Nat) (so:Nat→Option Addr) (sc:Nat→Nat) (uo:Nat→Option Addr) (uc:Nat→Nat) (tt t u cap:Nat) (k0:Int),(ts.map SV.den=(mtH x O C so sc uo uc tt t u cap k0 (.int k0) (.il 0) (fun d=>(ts.getD d .undef).den)).map SV.den∧ch=[.row ⟨true,O,tt,3,x.n,cap,trkFld 1 2 x so sc uo uc⟩,.obj true (symRows true t (tkR x) so sc),.obj true (symRows true u (tkQ x) uo uc)]∧capM x∧mrkC k0)∧∀ (g:Nat→Value) (kx:Int),kk (.exit 0) (mtH x O C so sc uo uc tt t u cap k0 (.int (tAt k0 x x.n)) (.int kx) g) (mtE x O C so sc uo uc tt t u cap k0)
theorem mtB (x:TK)(O:Option Addr)(C:Nat)(so:Nat→Option Addr)(sc:Nat→Nat)(uo:Nat→Option Addr)(uc:Nat→Nat)(tt t u cap:Nat)(k0:Int)(j:Nat)(g:Nat→Value)(NX:List SV→List Ch→Prop)(kx:Exit→List SV→List Ch→Prop):(exCode Tryz.prog {tb:=[(62,sMarkN)]} 400 (theLoop Tryz.f69 0) (mtH x O C so sc uo uc tt t u cap k0 (.int (tAt k0 x j)) (.int (j:Int)) g) (mtT x O C so sc uo uc tt t u cap k0 j) (loopK NX kx))=(
 (fun a:Int=>(fun b:SV=>(fun c:SV=>(fun d:SV=>(fun h:Int=>(fun k:SV=>(fun l:SV=>(fun m:Int=>(fun n:Bool=>(fun o:SV=>(fun p:SV=>(fun q:Prop=>(fun r:List Row=>(fun s:List Row=>(n=true→O=O∧x.1=x.1∧q∧O=O∧j<x.1∧O=O∧j<x.1∧∃(v:Nat) (w:CD) (y:Nat→Option Addr) (z:Nat→Nat) (B:Nat),(s=(symRows true v w y z)∧(so j)=(y B)∧(x.2 j)=(w.2 B)∧B<w.1∧markC (x.2 j) a)∧O=O∧x.1=x.1∧q∧O=O∧j<x.1∧O=O∧j<x.1∧∃(D:Nat) (E:CD) (F:Nat→Option Addr) (G:Nat→Nat) (H:Nat),(r=(symRows true D E F G)∧(uo j)=(F H)∧(x.4 j)=(E.2 H)∧H<E.1∧markC (x.4 j) h)∧O=O∧x.1=x.1∧q∧O=O∧j<x.1∧O=O∧j<x.1∧rng (m+(1:Int))∧rng (((j:Nat):Int)+(1:Int))∧NX [c,p,vV (g 2),vV (g 3),vV (g 4),l,d,c,iV ((x.1:Nat):Int),tV,d,l,c,d,b,b,sV 1 (so j) (x.2 j) (sc j),iV a,k,c,d,b,rV 0 O 3 j 1,sV 2 (uo j) (x.4 j) (uc j),k,o,c,d,o,b,rV 0 O 3 j 2,o,p,vV (g 33)] [Hr true O tt 3 x.1 cap [fun I=>Cs 1 (so I) (x.2 I) (sc I),fun I=>Cs 2 (uo I) (x.4 I) (uc I),fun I=>Ci (if I=j then m else (if I<j then (tQ k0 x I (x.4 I)) else (x.6 I)))],Ho true (symRows true v (CD.mk w.1 w.2 (fun I=>fun J=>if I=B then (mk a 1 0 J) else (w.3 I J)) w.4) y z),Ho true (symRows true D (CD.mk E.1 E.2 (fun I=>fun J=>if I=H then (mk h 1 0 J) else (E.3 I J)) E.4) F G)])∧(n=false→kx (Exit.exit 0) [c,iV a,vV (g 2),vV (g 3),vV (g 4),d,d,c,iV ((x.1:Nat):Int),fV,vV (g 10),vV (g 11),vV (g 12),vV (g 13),vV (g 14),vV (g 15),vV (g 16),vV (g 17),vV (g 18),vV (g 19),vV (g 20),vV (g 21),vV (g 22),vV (g 23),vV (g 24),vV (g 25),vV (g 26),vV (g 27),vV (g 28),vV (g 29),vV (g 30),vV (g 31),vV (g 32),vV (g 33)] [Hr true O tt 3 x.1 cap [fun v=>Cs 1 (so v) (x.2 v) (sc v),fun v=>Cs 2 (uo v) (x.4 v) (uc v),fun v=>Ci (if v<j then (tQ k0 x v (x.4 v)) else (x.6 v))],Ho true s,Ho true r])) (symRows true t (CD.mk x.1 x.2 (fun s=>fun v=>if s<j then (tR k0 x s v) else (x.3 s v)) (fun s=>false)) so sc)) (symRows true u (CD.mk x.1 x.4 (fun r=>fun s=>if r<j then (tQ k0 x r s) else (x.5 r s)) (fun r=>false)) uo uc)) (0≤((j:Nat):Int)∧((j:Nat):Int)<((x.1:Nat):Int))) (iV (m+(1:Int)))) (iV m)) (decide (((j:Nat):Int)<((x.1:Nat):Int)))) (mk h 1 0 (x.4 j))) (iV (((j:Nat):Int)+(1:Int)))) (iV h)) (mk a 1 0 (x.2 j))) (iV ((j:Nat):Int))) (sV 0 O x.1 C)) (rV 0 O 3 j 0)) (tAt k0 x j)):=by kernel_rfl
theorem mt_ok (X:Cx):LoopOK Tryz.prog X (theLoop Tryz.f69 0) smt:=by
 intro ts ch kk a w hS hT hd hs
 obtain ⟨x,O,C,so,sc,uo,uc,tt,t,u,cap,k0,⟨h1,rfl,hcap,hk0⟩,hk⟩:=hS
 have hn0:=totN_n (sn:=tSn x) x.n
 have hcap':totN (tSn x) x.n≤2097152:=hcap
 have hk1:=hk0.1
 have hk2:=hk0.2
 refine loop_ok mixed (E:={tb:=[(62,sMarkN)]}) ⟨sMarkN_ok,trivial⟩ (loopsOK_nil _ _ _) 400 x.n (fun j ts ch=>∃ g,ts=mtH x O C so sc uo uc tt t u cap k0 (.int (tAt k0 x j)) (.int (j:Int)) g∧ch=mtT x O C so sc uo uc tt t u cap k0 j) ?_ ?_ hT hd hs
 ·rintro j _ _ ⟨g,rfl,rfl⟩ hj
  refine @Eq.mpr _ _ (mtB x O C so sc uo uc tt t u cap k0 j g _ _) ?_
  dsimp -zeta -proj -iota -eta -failIfUnchanged (etaStruct:=.none) only
  have hb:=kAt_in (k:=k0) (sn:=tSn x) hj hcap' (by omega)
  have hb2:0≤tAt k0 x j∧tAt k0 x j≤549757911040:=by have:=totN_le (sn:=tSn x) hj;simp only [tAt,kAt];omega
  by_cases hlt:j<x.n
  ·have hsn:tSn x j≤2097152:=by have:=totN_sn (sn:=tSn x) hlt;omega
   have hsn':x.rn j+x.qn j≤2097152:=hsn
   have hmc:markC (x.rn j) (tAt k0 x j):=⟨by omega,by omega,by omega⟩
   have hm:0≤mk (tAt k0 x j) 1 0 (x.rn j)∧mk (tAt k0 x j) 1 0 (x.rn j)≤549760008192:=by simp only [mk];omega
   have hmc2:markC (x.qn j) (mk (tAt k0 x j) 1 0 (x.rn j)):=⟨by omega,by omega,by omega⟩
   have hm2:0≤mk (mk (tAt k0 x j) 1 0 (x.rn j)) 1 0 (x.qn j)∧mk (mk (tAt k0 x j) 1 0 (x.rn j)) 1 0 (x.qn j)≤549762105344:=by simp only [mk] at hm ⊢;omega
   repeat' (first
    | with_reducible exact rfl
    | exact True.intro
    | with_reducible assumption
    | (refine ⟨_,_,_,_,_,⟨rfl,rfl,rfl,?_,hmc⟩,?_⟩)
    | (refine ⟨_,_,_,_,_,⟨rfl,rfl,rfl,?_,hmc2⟩,?_⟩)
    | (show rng _;simp only [rng];omega)
    | (refine ⟨hlt,?_⟩;show Next _ _ _ _;refine Next.mk (fun g=>mtH x O C so sc uo uc tt t u cap k0 (.int (tAt k0 x (j+1))) (.int ((j+1:Nat):Int)) g) (mtT x O C so sc uo uc tt t u cap k0 (j+1)) ⟨_,rfl,rfl⟩ (by rw [← tAt_next];rfl) fun w hw=>SelS.hs (l:=[0,1,2]) (by refine ⟨?_,rfl⟩;repeat' (first | exact True.intro | exact low_rows (f:=tR k0 x) | exact low_rows (f:=tQ k0 x) | exact low_sp (f:=fun i=>tQ k0 x i (x.qn i)) | exact rfl | refine And.intro ?_ ?_ | (intro i hi;show _=_;with_reducible rfl) | (intro i hi;show _=_;rfl))) hw)
    | refine And.intro ?_ ?_
    | apply Exists.intro
    | (intro h;replace h:=of_decide_eq_true h;first | (exfalso;omega) | skip)
    | (intro h;replace h:=of_decide_eq_false h;first | (exfalso;omega) | skip)
    | intro _
    | omega
    | (simp;omega))
  ·have hjn:j=x.n:=by omega
   subst hjn
   repeat' (first
    | with_reducible exact rfl
    | exact True.intro
    | with_reducible assumption
    | (refine Next.mk (fun g=>mtH x O C so sc uo uc tt t u cap k0 (.int (tAt k0 x x.n)) (.int (x.n:Int)) g) _ (hk _ _) rfl fun w hw=>SelS.hs (l:=[0,1,2]) (by refine ⟨?_,rfl⟩;repeat' (first | exact True.intro | exact low_all (f:=tR k0 x) | exact low_all (f:=tQ k0 x) | exact low_spE | exact rfl | refine And.intro ?_ ?_ | (intro i hi;show _=_;with_reducible rfl) | (intro i hi;show _=_;rfl))) hw)
    | refine And.intro ?_ ?_
    | apply Exists.intro
    | (intro h;replace h:=of_decide_eq_true h;first | (exfalso;omega) | skip)
    | (intro h;replace h:=of_decide_eq_false h;first | (exfalso;omega) | skip)
    | intro _
    | omega
    | (simp;omega))
 ·refine Next.mk (fun g=>mtH x O C so sc uo uc tt t u cap k0 (.int (tAt k0 x 0)) (.int ((0:Nat):Int)) g) (mtT x O C so sc uo uc tt t u cap k0 0) ⟨_,rfl,rfl⟩ (by rw [h1];simp [mtH,hdN,hdL,SV.den,SA.den,SC.den,tAt,kAt,totN]) fun w hw=>SelS.hs (l:=[0,1,2]) (by refine ⟨?_,rfl⟩;repeat' (first | exact True.intro | exact low_none | (intro i hi;simp [SC.den];done) | exact rfl | refine And.intro ?_ ?_ | (intro i hi;show _=_;with_reducible rfl) | (intro i hi;show _=_;rfl))) hw
theorem markTs_T (x:TK)(O:Option Addr)(C:Nat)(so:Nat→Option Addr)(sc:Nat→Nat)(uo:Nat→Option Addr)(uc:Nat→Nat)(tt t u cap:Nat)(k0:Int):(exFn Tryz.prog { L:=[(2,smt)] } 400 Tryz.f69 ([.a (.c (.sl 0 O x.n C)),.a (.c (.int k0))]) ([.row ⟨true,O,tt,3,x.n,cap,trkFld 1 2 x so sc uo uc⟩,.obj true (symRows true t (tkR x) so sc),.obj true (symRows true u (tkQ x) uo uc)]) (fun v ch=>v.den=.int .i64 (tAt k0 x x.n)∧SelS ch [0,1,2] (mtE x O C so sc uo uc tt t u cap k0)))=(
 (fun b:Value=>∃(d:TK) (g:Option Addr) (h:Nat) (j:Nat→Option Addr) (k:Nat→Nat) (l:Nat→Option Addr) (m:Nat→Nat) (o p q r:Nat) (s:Int),([Ws O x.1 C,Wi k0,b,b,Wi 0,Wi 0,b,b,b,b,b,b,b,b,b,b,b,b,b,b,b,b,b,b,b,b,b,b,b,b,b,b,b,b]=[Ws g d.1 h,Wi s,b,b,Wi 0,Wi 0,b,b,b,b,b,b,b,b,b,b,b,b,b,b,b,b,b,b,b,b,b,b,b,b,b,b,b,b]∧[Hr true O tt 3 x.1 cap [fun w=>Cs 1 (so w) (x.2 w) (sc w),fun w=>Cs 2 (uo w) (x.4 w) (uc w),fun w=>Ci (x.6 w)],Ho true (symRows true t (CD.mk x.1 x.2 x.3 (fun w=>false)) so sc),Ho true (symRows true u (CD.mk x.1 x.4 x.5 (fun w=>false)) uo uc)]=[Hr true g o 3 d.1 r [fun w=>Cs 1 (j w) (d.2 w) (k w),fun w=>Cs 2 (l w) (d.4 w) (m w),fun w=>Ci (d.6 w)],Ho true (symRows true p (CD.mk d.1 d.2 d.3 (fun w=>false)) j k),Ho true (symRows true q (CD.mk d.1 d.4 d.5 (fun w=>false)) l m)]∧capM d∧mrkC s)∧∀(w:Nat→Value) (y:Int),(Wi (tAt s d d.1))=(Wi (tAt k0 x x.1))∧SelS [Hr true g o 3 d.1 r [fun z=>Cs 1 (j z) ((markTK s d).2 z) (k z),fun z=>Cs 2 (l z) ((markTK s d).4 z) (m z),fun z=>Ci ((markTK s d).6 z)],Ho true (symRows true p (CD.mk (markTK s d).1 (markTK s d).2 (markTK s d).3 (fun z=>false)) j k),Ho true (symRows true q (CD.mk (markTK s d).1 (markTK s d).4 (markTK s d).5 (fun z=>false)) l m)] [0,1,2] [Hr true O tt 3 x.1 cap [fun z=>Cs 1 (so z) ((markTK k0 x).2 z) (sc z),fun z=>Cs 2 (uo z) ((markTK k0 x).4 z) (uc z),fun z=>Ci ((markTK k0 x).6 z)],Ho true (symRows true t (CD.mk (markTK k0 x).1 (markTK k0 x).2 (markTK k0 x).3 (fun z=>false)) so sc),Ho true (symRows true u (CD.mk (markTK k0 x).1 (markTK k0 x).4 (markTK k0 x).5 (fun z=>false)) uo uc)]) (Wu [])):=by kernel_rfl
theorem markTs_any (x:TK)(O:Option Addr)(C:Nat)(so:Nat→Option Addr)(sc:Nat→Nat)(uo:Nat→Option Addr)(uc:Nat→Nat)(tt t u cap:Nat)(k0:Int)(w:World)(M:Nat→Prop)(hs:HS ⟨w,M⟩ [.row ⟨true,O,tt,3,x.n,cap,trkFld 1 2 x so sc uo uc⟩,.obj true (symRows true t (tkR x) so sc),.obj true (symRows true u (tkQ x) uo uc)] w)(hcap:capM x)(hk0:mrkC k0):Calls Tryz.prog 69 #[.slice O x.n C,.int .i64 k0] w fun e w'=>e=.returned (.int .i64 (tAt k0 x x.n))∧HS ⟨w,M⟩ (mtE x O C so sc uo uc tt t u cap k0) w':=by
 refine fn_ok mixed (E:={ L:=[(2,smt)] }) trivial Tryz.func69 (one_loop (by kernel_rfl) (by kernel_rfl) (mt_ok _)) (@Eq.mpr _ _ (markTs_T x O C so sc uo uc tt t u cap k0) ?_) hs (fun v ch' w' ⟨hv,hc⟩ hs=>⟨by rw [hv],hc.hs hs⟩)
 dsimp -zeta -proj -iota -eta -failIfUnchanged (etaStruct:=.none) only
 clear hs
 repeat' (first
  | with_reducible exact rfl
  | exact True.intro
  | with_reducible assumption
  | exact hcap
  | exact hk0
  | exact (by refine ⟨?_,rfl⟩;repeat' (first | exact True.intro | exact rfl | refine And.intro ?_ ?_ | (intro i hi;show _=_;with_reducible rfl) | (intro i hi;show _=_;rfl)))
  | refine And.intro ?_ ?_
  | apply Exists.intro
  | intro _
  | omega)
def sMarkTs:Sm:=fun args ch kk =>
 match args with
 | [.a (.c (.sl i0 a0 n0 _)),.a (.c kc)] =>
  match ch[i0]?,asI kc with
  | some (.row r0),some k0 =>
   match ch[nidOf r0.fld]?,ch[nid2Of r0.fld]? with
   | some (.obj true rs),some (.obj true us)=>∃ (t u:Nat) (y:TK) (so:Nat→Option Addr) (sc:Nat→Nat) (uo:Nat→Option Addr) (uc:Nat→Nat),(rs=symRows true t (tkR y) so sc∧us=symRows true u (tkQ y) uo uc∧r0.fld=trkFld (nidOf r0.fld) (nid2Of r0.fld) y so sc uo uc∧a0=r0.ao∧n0=r0.n∧n0=y.n∧r0.own=true∧capM y∧mrkC k0∧nodupB [i0,nidOf r0.fld,nid2Of r0.fld]=true) ∧
     kk (.a (.c (.int (tAt k0 y y.n)))) (((ch.set i0 (.row { r0 with fld:=trkFld (nidOf r0.fld) (nid2Of r0.fld) (markTK k0 y) so sc uo uc })).set (nidOf r0.fld) (.obj true (symRows true t (tkR (markTK k0 y)) so sc))).set (nid2Of r0.fld) (.obj true (symRows true u (tkQ (markTK k0 y)) uo uc))) [i0,nidOf r0.fld,nid2Of r0.fld]
   | _,_=>False
  | _,_=>False
 | _=>False
theorem sMarkTs_ok:SmOK Tryz.prog 69 sMarkTs:=by
 refine ⟨Tryz.call69,fun X args ch kk w h0 hs=>?_⟩
 unfold sMarkTs at h0
 split at h0
 ·rename_i i0 a0 n0 c0 kc
  split at h0
  ·rename_i r0 k0 hi0 hkc
   split at h0
   ·rename_i rs us hid hiu
    obtain ⟨t,u,y,so,sc,uo,uc,⟨rfl,rfl,f0,rfl,rfl,hn,ho,hc,hk,hnd⟩,h1⟩:=h0
    have hnd':=nodupB_ok hnd
    have hr:r0.sat w:=hs.sat i0 _ hi0
    have h3:r0.s=3:=by have:=hr.1;rw [f0] at this;exact this.symm
    generalize nidOf r0.fld=i1 at *
    generalize nid2Of r0.fld=i2 at *
    have e:selC ch [i0,i1,i2]=[.row r0,.obj true (symRows true t (tkR y) so sc),.obj true (symRows true u (tkQ y) uo uc)]:=by simp [selC,hi0,hid,hiu]
    have hsel:=hs.owns [i0,i1,i2] hnd' (fun b=>(Ch.row r0).at b∨(Ch.obj true (symRows true t (tkR y) so sc)).at b∨(Ch.obj true (symRows true u (tkQ y) uo uc)).at b) (fun i c b hi _ hb=>by
     rw [e] at hi
     match i with
     | 0=>simp at hi;subst hi;exact .inl hb
     | 1=>simp at hi;subst hi;exact .inr (.inl hb)
     | 2=>simp at hi;subst hi;exact .inr (.inr hb)
     | i+3=>simp at hi)
    rw [e] at hsel
    obtain ⟨ow,O,tt,s',n,cap,fs⟩:=r0
    simp only at f0 hn ho h3 hr h1 hid hi0 hsel ⊢
    subst ho
    subst h3
    subst hn
    simp only [List.map_cons,List.map_nil,den_a,den_c,asI_den hkc]
    have hst:HS ⟨w,fun b=>(Ch.row ⟨true,O,tt,3,y.n,cap,fs⟩).at b∨(Ch.obj true (symRows true t (tkR y) so sc)).at b∨(Ch.obj true (symRows true u (tkQ y) uo uc)).at b⟩ [.row ⟨true,O,tt,3,y.n,cap,trkFld 1 2 y so sc uo uc⟩,.obj true (symRows true t (tkR y) so sc),.obj true (symRows true u (tkQ y) uo uc)] w:=by
     refine hsel.reS ⟨⟨rfl,rfl,rfl,rfl,rfl,rfl,?_⟩,⟨rfl,rfl⟩,⟨rfl,rfl⟩,trivial⟩
     rw [f0]
     exact ⟨fun i hi=>rfl,fun i hi=>rfl,fun i hi=>rfl,trivial⟩
    refine Calls.mono (markTs_any y O c0 so sc uo uc tt t u cap k0 w _ hst hc hk) fun e w' ⟨he,hs'⟩=>⟨.a (.c (.int (tAt k0 y y.n))),_,[i0,i1,i2],he,?_,?_,h1⟩
    ·simp only [List.nodup_cons,List.mem_cons,List.not_mem_nil,or_false,not_or] at hnd'
     obtain ⟨⟨d1,d2⟩,d3,_⟩:=hnd'
     refine hs.swap (ids:=[i0,i1,i2]) hs' (fun b hb=>?_) (by simp) fun i d hd=>?_
     ·rcases hb with hb | hb | hb
      ·exact ⟨i0,by simp,_,hi0,rfl,hb⟩
      ·exact ⟨i1,by simp,_,hid,rfl,hb⟩
      ·exact ⟨i2,by simp,_,hiu,rfl,hb⟩
     ·rcases get_set hd with ⟨rfl,rfl,_⟩ | ⟨n2,hd⟩
      ·exact .inr ⟨by simp,hs'.sat 2 _ rfl,_,hiu,rfl,sym_at rfl fun _ _=>rfl⟩
      rcases get_set hd with ⟨rfl,rfl,_⟩ | ⟨n1,hd⟩
      ·exact .inr ⟨by simp,hs'.sat 1 _ rfl,_,hid,rfl,sym_at rfl fun _ _=>rfl⟩
      rcases get_set hd with ⟨rfl,rfl,_⟩ | ⟨n0,hd⟩
      ·exact .inr ⟨by simp,Row.reF (hs'.sat 0 _ rfl) ⟨fun i hi=>rfl,fun i hi=>rfl,fun i hi=>rfl,trivial⟩,_,hi0,rfl,fun b hb=>⟨.inl rfl,hb.2⟩⟩
      exact .inl ⟨by simp [n0,n1,n2],hd⟩
    ·intro i c hi hm
     have h3:i ≠ i0:=fun q=>hm (by simp [q])
     have h4:i ≠ i1:=fun q=>hm (by simp [q])
     have h5:i ≠ i2:=fun q=>hm (by simp [q])
     rw [List.getElem?_set_ne (fun q=>h5 q.symm),List.getElem?_set_ne (fun q=>h4 q.symm),List.getElem?_set_ne (fun q=>h3 q.symm)]
     exact hi
   ·exact h0.elim
  ·exact h0.elim
 ·exact h0.elim
def htH (x:TK)(O:Option Addr)(C:Nat)(so:Nat→Option Addr)(sc:Nat→Nat)(uo:Nat→Option Addr)(uc:Nat→Nat)(k0:Int)(k i:SC)(g:Nat→Value):List SV:=hdN [(0,.a (.c (.sl 0 O x.n C))),(1,.a (.c k)),(4,.a (.c (.il 0))),(5,.a (.c i))] g 0 40
def htT (x:TK)(O:Option Addr)(C:Nat)(so:Nat→Option Addr)(sc:Nat→Nat)(uo:Nat→Option Addr)(uc:Nat→Nat)(k0:Int):List Ch:=[.row ⟨false,O,0,3,x.n,0,[fun i=>.sl 1 (so i) (x.rn i) (sc i),fun i=>.sl 2 (uo i) (x.qn i) (uc i),fun i=>.int (tQ k0 x i (x.qn i))]⟩,.obj false (symRows false 0 ⟨x.n,x.rn,tR k0 x,fun _=>false⟩ so (fun _=>0)),.obj false (symRows false 0 ⟨x.n,x.qn,tQ k0 x,fun _=>false⟩ uo (fun _=>0))]
def sht:LSm:=fun ts ch kk=>∃ (x:TK) (O:Option Addr) (C:Nat) (so:Nat→Option Addr) (sc:Nat→Nat) (uo:Nat→Option Addr) (uc:Nat→Nat) (k0:Int),(ts.map SV.den=(htH x O C so sc uo uc k0 (.int k0) (.il 0) (fun d=>(ts.getD d .undef).den)).map SV.den∧ch=htT x O C so sc uo uc k0∧capM x∧mrkC k0)∧∀ (g:Nat→Value) (kx:Int),kk (.exit 0) (htH x O C so sc uo uc k0 (.int (tAt k0 x x.n)) (.int kx) g) (htT x O C so sc uo uc k0)
theorem htB (x:TK)(O:Option Addr)(C:Nat)(so:Nat→Option Addr)(sc:Nat→Nat)(uo:Nat→Option Addr)(uc:Nat→Nat)(k0:Int)(j:Nat)(g:Nat→Value)(NX:List SV→List Ch→Prop)(kx:Exit→List SV→List Ch→Prop):(exCode Tryz.prog {tb:=[(83,sHeldN)]} 400 (theLoop Tryz.f82 0) (htH x O C so sc uo uc k0 (.int (tAt k0 x j)) (.int (j:Int)) g) (htT x O C so sc uo uc k0) (loopK NX kx))=(
 (fun a:SV=>(fun b:SV=>(fun c:SV=>(fun d:SV=>(fun h:SV=>(fun k:SV=>(fun l:SV=>(fun m:Int=>(fun n:SV=>(fun o:SV=>(fun p:SV=>(fun q:Int=>(fun r:SV=>(fun s:SV=>(fun t:SV=>(fun u:SV=>(fun v:Int=>(fun w:SV=>(fun y:SV=>(fun z:Int=>(fun B:Bool=>(fun D:SV=>(fun E:Bool=>(fun F:SV=>(fun G:Bool=>(fun H:Prop=>(fun I:Bool=>(fun J:List Row=>(fun K:List Row=>(fun L:List Ch=>(B=true→O=O∧x.1=x.1∧H∧O=O∧j<x.1∧O=O∧j<x.1∧∃(M:Nat) (N:CD) (P:Nat→Option Addr) (Q:Nat→Nat) (R:Nat),(K=(symRows false M N P Q)∧(so j)=(P R)∧(x.2 j)=(N.2 R)∧R<N.1)∧(markC (x.2 j) m∧allEq (x.2 j) (N.3 R) (fun S=>mk m 1 0 S))∧(E=true→kx Exit.ret [o,w,b,a,lV (-1),r,r,o,s,tV,l,k,o,r,n,n,u,p,w,w,tV,vV (g 21),vV (g 22),vV (g 23),vV (g 24),vV (g 25),vV (g 26),vV (g 27),vV (g 28),vV (g 29),vV (g 30),vV (g 31),vV (g 32),vV (g 33),vV (g 34),vV (g 35),vV (g 36),h,d,c] L)∧(E=false→O=O∧x.1=x.1∧H∧O=O∧j<x.1∧O=O∧j<x.1∧∃(S:Nat) (T:CD) (U:Nat→Option Addr) (V:Nat→Nat) (W:Nat),(J=(symRows false S T U V)∧(uo j)=(U W)∧(x.4 j)=(T.2 W)∧W<T.1)∧(markC (x.4 j) v∧allEq (x.4 j) (T.3 W) (fun X=>mk v 1 0 X))∧(G=true→kx Exit.ret [o,D,b,a,lV (-1),r,r,o,s,tV,l,k,o,r,n,n,u,p,w,w,fV,o,r,n,rV 0 O 3 j 1,t,w,D,D,tV,vV (g 30),vV (g 31),vV (g 32),vV (g 33),vV (g 34),vV (g 35),vV (g 36),h,d,c] L)∧(G=false→O=O∧x.1=x.1∧H∧O=O∧j<x.1∧O=O∧j<x.1∧(I=true→kx Exit.ret [o,D,b,a,lV (-1),r,r,o,s,tV,l,k,o,r,n,n,u,p,w,w,fV,o,r,n,rV 0 O 3 j 1,t,w,D,D,fV,o,r,n,rV 0 O 3 j 2,iV q,D,tV,h,d,c] L)∧(I=false→rng (z+(1:Int))∧rng (((j:Nat):Int)+(1:Int))∧NX [o,F,b,a,lV 0,y,r,o,s,tV,r,y,o,r,n,n,u,p,w,w,fV,o,r,n,rV 0 O 3 j 1,t,w,D,D,fV,o,r,n,rV 0 O 3 j 2,iV q,D,fV,D,F,c] L))))∧(B=false→kx (Exit.exit 0) [o,p,b,a,lV 0,r,r,o,s,fV,l,k,vV (g 12),vV (g 13),vV (g 14),vV (g 15),vV (g 16),vV (g 17),vV (g 18),vV (g 19),vV (g 20),vV (g 21),vV (g 22),vV (g 23),vV (g 24),vV (g 25),vV (g 26),vV (g 27),vV (g 28),vV (g 29),vV (g 30),vV (g 31),vV (g 32),vV (g 33),vV (g 34),vV (g 35),vV (g 36),h,d,c] L)) [Hr false O 0 3 x.1 0 [fun L=>Cs 1 (so L) (x.2 L) (sc L),fun L=>Cs 2 (uo L) (x.4 L) (uc L),fun L=>Ci (tQ k0 x L (x.4 L))],Ho false K,Ho false J]) (symRows false 0 (CD.mk x.1 x.2 (tR k0 x) (fun K=>false)) so (fun K=>0))) (symRows false 0 (CD.mk x.1 x.4 (tQ k0 x) (fun J=>false)) uo (fun J=>0))) (q != z)) (0≤((j:Nat):Int)∧((j:Nat):Int)<((x.1:Nat):Int))) (decide (z<(0:Int)))) (iV (z+(1:Int)))) (decide (v<(0:Int)))) (iV z)) (decide (((j:Nat):Int)<((x.1:Nat):Int)))) (mk v 1 0 (x.4 j))) (iV (((j:Nat):Int)+(1:Int)))) (iV v)) (mk m 1 0 (x.2 j))) (sV 1 (so j) (x.2 j) (sc j))) (sV 2 (uo j) (x.4 j) (uc j))) (iV ((x.1:Nat):Int))) (iV ((j:Nat):Int))) (tQ k0 x j (x.4 j))) (iV m)) (sV 0 O x.1 C)) (rV 0 O 3 j 0)) (tAt k0 x j)) (vV (g 10))) (vV (g 11))) (vV (g 37))) (vV (g 38))) (vV (g 39))) (vV (g 2))) (vV (g 3))):=by kernel_rfl
theorem ht_ok (X:Cx):LoopOK Tryz.prog X (theLoop Tryz.f82 0) sht:=by
 intro ts ch kk a w hS hT hd hs
 obtain ⟨x,O,C,so,sc,uo,uc,k0,⟨h1,rfl,hcap,hk0⟩,hk⟩:=hS
 have hn0:=totN_n (sn:=tSn x) x.n
 have hcap':totN (tSn x) x.n≤2097152:=hcap
 have hk1:=hk0.1
 have hk2:=hk0.2
 refine loop_ok mixed (E:={tb:=[(83,sHeldN)]}) ⟨sHeldN_ok,trivial⟩ (loopsOK_nil _ _ _) 400 x.n (fun j ts ch=>∃ g,ts=htH x O C so sc uo uc k0 (.int (tAt k0 x j)) (.int (j:Int)) g∧ch=htT x O C so sc uo uc k0) ?_ ?_ hT hd hs
 ·rintro j _ _ ⟨g,rfl,rfl⟩ hj
  refine @Eq.mpr _ _ (htB x O C so sc uo uc k0 j g _ _) ?_
  dsimp -zeta -proj -iota -eta -failIfUnchanged (etaStruct:=.none) only
  have hb:=kAt_in (k:=k0) (sn:=tSn x) hj hcap' (by omega)
  have hb2:0≤tAt k0 x j∧tAt k0 x j≤549757911040:=by have:=totN_le (sn:=tSn x) hj;simp only [tAt,kAt];omega
  by_cases hlt:j<x.n
  ·have hsn:tSn x j≤2097152:=by have:=totN_sn (sn:=tSn x) hlt;omega
   have hsn':x.rn j+x.qn j≤2097152:=hsn
   have hmc:markC (x.rn j) (tAt k0 x j):=⟨by omega,by omega,by omega⟩
   have hm:0≤mk (tAt k0 x j) 1 0 (x.rn j)∧mk (tAt k0 x j) 1 0 (x.rn j)≤549760008192:=by simp only [mk];omega
   have hmc2:markC (x.qn j) (mk (tAt k0 x j) 1 0 (x.rn j)):=⟨by omega,by omega,by omega⟩
   have hm2:0≤mk (mk (tAt k0 x j) 1 0 (x.rn j)) 1 0 (x.qn j)∧mk (mk (tAt k0 x j) 1 0 (x.rn j)) 1 0 (x.qn j)≤549762105344:=by simp only [mk] at hm ⊢;omega
   have hq:tQ k0 x j (x.qn j)=mk (mk (tAt k0 x j) 1 0 (x.rn j)) 1 0 (x.qn j):=rfl
   repeat' (first
    | with_reducible exact rfl
    | exact True.intro
    | with_reducible assumption
    | (refine ⟨_,_,_,_,j,⟨rfl,rfl,rfl,?_⟩,⟨hmc,fun q hq=>rfl⟩,?_⟩)
    | (refine ⟨_,_,_,_,j,⟨rfl,rfl,rfl,?_⟩,⟨hmc2,fun q hq=>rfl⟩,?_⟩)
    | (show rng _;simp only [rng];omega)
    | (refine ⟨hlt,?_⟩;show Next _ _ _ _;refine Next.mk (fun g=>htH x O C so sc uo uc k0 (.int (tAt k0 x (j+1))) (.int ((j+1:Nat):Int)) g) _ ⟨_,rfl,rfl⟩ (by rw [← tAt_next];rfl) fun w hw=>hw)
    | refine And.intro ?_ ?_
    | (refine fun (h:@Eq Bool _ _)=>?_;exfalso;rw [hq] at h;simp at h;done)
    | (intro h;replace h:=of_decide_eq_true h;first | (exfalso;omega) | skip)
    | (intro h;replace h:=of_decide_eq_false h;first | (exfalso;omega) | skip)
    | intro _
    | omega
    | (simp;omega))
  ·have hjn:j=x.n:=by omega
   subst hjn
   repeat' (first
    | with_reducible exact rfl
    | exact True.intro
    | with_reducible assumption
    | (refine Next.mk (fun g=>htH x O C so sc uo uc k0 (.int (tAt k0 x x.n)) (.int (x.n:Int)) g) _ (hk _ _) rfl fun w hw=>hw)
    | refine And.intro ?_ ?_
    | apply Exists.intro
    | (intro h;replace h:=of_decide_eq_true h;first | (exfalso;omega) | skip)
    | (intro h;replace h:=of_decide_eq_false h;first | (exfalso;omega) | skip)
    | intro _
    | omega
    | (simp;omega))
 ·refine Next.mk (fun g=>htH x O C so sc uo uc k0 (.int (tAt k0 x 0)) (.int ((0:Nat):Int)) g) _ ⟨_,rfl,rfl⟩ (by rw [h1];simp [htH,hdN,hdL,SV.den,SA.den,SC.den,tAt,kAt,totN]) fun w hw=>hw
theorem heldTs_T (x:TK)(O:Option Addr)(C:Nat)(so:Nat→Option Addr)(sc:Nat→Nat)(uo:Nat→Option Addr)(uc:Nat→Nat)(k0:Int):(exFn Tryz.prog { L:=[(2,sht)] } 400 Tryz.f82 ([.a (.c (.sl 0 O x.n C)),.a (.c (.int k0))]) (htT x O C so sc uo uc k0) (fun v ch=>v.den=.int .i64 (tAt k0 x x.n)))=(
 (fun b:Value=>∃(d:TK) (g:Option Addr) (h:Nat) (j:Nat→Option Addr) (k:Nat→Nat) (l:Nat→Option Addr) (m:Nat→Nat) (o:Int),([Ws O x.1 C,Wi k0,b,b,Wi 0,Wi 0,b,b,b,b,b,b,b,b,b,b,b,b,b,b,b,b,b,b,b,b,b,b,b,b,b,b,b,b,b,b,b,b,b,b]=[Ws g d.1 h,Wi o,b,b,Wi 0,Wi 0,b,b,b,b,b,b,b,b,b,b,b,b,b,b,b,b,b,b,b,b,b,b,b,b,b,b,b,b,b,b,b,b,b,b]∧[Hr false O 0 3 x.1 0 [fun p=>Cs 1 (so p) (x.2 p) (sc p),fun p=>Cs 2 (uo p) (x.4 p) (uc p),fun p=>Ci (tQ k0 x p (x.4 p))],Ho false (symRows false 0 (CD.mk x.1 x.2 (tR k0 x) (fun p=>false)) so (fun p=>0)),Ho false (symRows false 0 (CD.mk x.1 x.4 (tQ k0 x) (fun p=>false)) uo (fun p=>0))]=[Hr false g 0 3 d.1 0 [fun p=>Cs 1 (j p) (d.2 p) (k p),fun p=>Cs 2 (l p) (d.4 p) (m p),fun p=>Ci (tQ o d p (d.4 p))],Ho false (symRows false 0 (CD.mk d.1 d.2 (tR o d) (fun p=>false)) j (fun p=>0)),Ho false (symRows false 0 (CD.mk d.1 d.4 (tQ o d) (fun p=>false)) l (fun p=>0))]∧capM d∧mrkC o)∧∀(p:Nat→Value) (q:Int),(Wi (tAt o d d.1))=(Wi (tAt k0 x x.1))) (Wu [])):=by kernel_rfl
theorem heldTs_any (x:TK)(O:Option Addr)(C:Nat)(so:Nat→Option Addr)(sc:Nat→Nat)(uo:Nat→Option Addr)(uc:Nat→Nat)(k0:Int)(w:World)(hA:SeenT w (markTK k0 x) O so sc uo uc)(hcap:capM x)(hk0:mrkC k0):Calls Tryz.prog 82 #[.slice O x.n C,.int .i64 k0] w fun e w'=>e=.returned (.int .i64 (tAt k0 x x.n))∧Below w.heap.size w w':=by
 refine fn_ok mixed (E:={ L:=[(2,sht)] }) trivial Tryz.func82 (one_loop (by kernel_rfl) (by kernel_rfl) (ht_ok _)) (@Eq.mpr _ _ (heldTs_T x O C so sc uo uc k0) ?_) (HS.seenAll (fun _=>False) _ (hA.all 1 seenC_nil)) (fun v ch' w' hv hs=>⟨by rw [hv],hs.below⟩)
 dsimp -zeta -proj -iota -eta -failIfUnchanged (etaStruct:=.none) only
 clear hA
 repeat' (first
  | with_reducible exact rfl
  | exact True.intro
  | with_reducible assumption
  | exact hcap
  | exact hk0
  | refine And.intro ?_ ?_
  | apply Exists.intro
  | intro _
  | omega)
def sHeldTs:Sm:=fun args ch kk =>
 match args with
 | [.a (.c c),.a (.c kc)] =>
  match asI kc with
  | some k0=>rdT ch c fun y=>∃ x:TK,(y=markTK k0 x∧capM x∧mrkC k0)∧kk (.a (.c (.int (tAt k0 x x.n)))) ch []
  | none=>False
 | _=>False
theorem sHeldTs_ok:SmOK Tryz.prog 82 sHeldTs:=by
 refine smB Tryz.call82 fun args ch kk w X h0 hs=>?_
 unfold sHeldTs at h0
 split at h0
 ·split at h0
  ·rename_i k0 hkc
   obtain ⟨y,O,C,so,sc,uo,uc,e,hA,x,⟨rfl,hc,hk⟩,h1⟩:=rdT_ok h0 hs
   refine ⟨_,h1,?_⟩
   simp only [List.map_cons,List.map_nil,den_a,den_c,e,asI_den hkc]
   exact heldTs_any x O C so sc uo uc k0 w hA hc hk
  ·exact h0.elim
 ·exact h0.elim
end Go.Proofs.YtbhfabaofhhkeaaGreat

/-
  FnExactControllerNew: a part of the walk (merged and squeezed by program: SxNo).
-/
import Derived.Test.YtbhfabaofhhkeaaGreatZai
import Derived.Test.YtbhfabaofhhkeaaGreatZay
namespace Go.Proofs.YtbhfabaofhhkeaaGreat
set_option linter.unusedVariables false
set_option linter.unusedSimpArgs false
open Go.RowKit
set_option maxRecDepth 100000
set_option maxHeartbeats 8000000
def rowsC:Ch→List Row
 | .row r=>[r]
 | .obj _ rs=>rs
 | _=>[]
theorem flatC_cons (c:Ch)(t:List Ch):flatC (c::t)=rowsC c ++ flatC t:=by cases c <;> rfl
theorem rowsC_at {c:Ch}(ho:ownRO c){b:Nat}(h:c.at b):∃ r∈rowsC c,r.at b:=by
 rcases ho with ⟨r,rfl,_⟩ | ⟨rs,rfl⟩
 ·exact ⟨r,by simp [rowsC],h⟩
 ·exact h
theorem flat_of {ch:List Ch}(ho:∀ c∈ch,ownRO c){c:Ch}(hc:c∈ch){b:Nat}(h:c.at b):∃ r∈flatC ch,r.at b:=by
 induction ch with
 | nil=>cases hc
 | cons d t ih =>
  rw [flatC_cons]
  rcases List.mem_cons.1 hc with rfl | hc
  ·obtain ⟨r,hr,hb⟩:=rowsC_at (ho c (by simp)) h
   exact ⟨r,List.mem_append_left _ hr,hb⟩
  ·obtain ⟨r,hr,hb⟩:=ih (fun c hc=>ho c (by simp [hc])) hc
   exact ⟨r,List.mem_append_right _ hr,hb⟩
def apartR (rs:List Row):Prop:=∀ (i j:Nat) (p q:Row) (b:Nat),i ≠ j→rs[i]?=some p→rs[j]?=some q→p.at b→q.at b→False
theorem apartR_tail {a t:List Row}(h:apartR (a ++ t)):apartR t:=fun i j p q b hij hi hj hp hq =>
 h (a.length+i) (a.length+j) p q b (by omega) (by rw [List.getElem?_append_right (by omega)];simpa using hi) (by rw [List.getElem?_append_right (by omega)];simpa using hj) hp hq
theorem apartR_head {a t:List Row}(h:apartR (a ++ t)):apartR a:=fun i j p q b hij hi hj hp hq =>
 h i j p q b hij (by rw [List.getElem?_append_left (List.getElem?_eq_some_iff.1 hi).1];exact hi) (by rw [List.getElem?_append_left (List.getElem?_eq_some_iff.1 hj).1];exact hj) hp hq
theorem apartR_two {a t:List Row}(h:apartR (a ++ t)){p q:Row}{b:Nat}(hp:p∈a)(hq:q∈t)(h1:p.at b)(h2:q.at b):False:=by
 obtain ⟨i,hi⟩:=List.getElem?_of_mem hp
 obtain ⟨j,hj⟩:=List.getElem?_of_mem hq
 have hl:=(List.getElem?_eq_some_iff.1 hi).1
 exact h i (a.length+j) p q b (by omega) (by rw [List.getElem?_append_left hl];exact hi) (by rw [List.getElem?_append_right (by omega)];simpa using hj) h1 h2
theorem flat_open {ch:List Ch}{w:World}(ho:∀ c∈ch,ownRO c)(hs:∀ r∈flatC ch,r.own=true∧r.sat w)(hd:apartR (flatC ch)) :
  (∀ c∈ch,c.sat w)∧∀ (i j:Nat) (ci cj:Ch) (b:Nat),i ≠ j→ch[i]?=some ci→ch[j]?=some cj→ci.at b→cj.at b→False:=by
 induction ch with
 | nil=>exact ⟨fun c hc=>(by cases hc),fun i j ci cj b _ h=>by simp at h⟩
 | cons c t ih =>
  rw [flatC_cons] at hs hd
  have ho':∀ c∈t,ownRO c:=fun c hc=>ho c (by simp [hc])
  obtain ⟨h1,h2⟩:=ih ho' (fun r hr=>hs r (List.mem_append_right _ hr)) (apartR_tail hd)
  have key:∀ (d:Ch) (b:Nat),d∈t→c.at b→d.at b→False:=fun d b hdt hcb hdb=>by
   obtain ⟨p,hp,hpb⟩:=rowsC_at (ho c (by simp)) hcb
   obtain ⟨q,hq,hqb⟩:=flat_of ho' hdt hdb
   exact apartR_two hd hp hq hpb hqb
  refine ⟨fun d hdm=>?_,fun i j ci cj b hij hi hj hib hjb=>?_⟩
  ·rcases List.mem_cons.1 hdm with rfl | hdm
   ·rcases ho d (by simp) with ⟨r,rfl,_⟩ | ⟨rs,rfl⟩
    ·exact (hs r (by simp [rowsC])).2
    ·exact ⟨fun r hr=>hs r (List.mem_append_left _ hr),fun _=>apartR_head hd⟩
   ·exact h1 d hdm
  ·cases i with
   | zero =>
    simp at hi
    subst hi
    cases j with
    | zero=>exact hij rfl
    | succ j=>exact key cj b (List.mem_of_getElem? (by simpa using hj)) hib hjb
   | succ i =>
    cases j with
    | zero =>
     simp at hj
     subst hj
     exact key ci b (List.mem_of_getElem? (by simpa using hi)) hjb hib
    | succ j=>exact h2 i j ci cj b (by omega) (by simpa using hi) (by simpa using hj) hib hjb
theorem HS.openAll {X:Cx}{ch:List Ch}{w:World}(h:HS X ch w){id:Nat}{L:List Ch}(hid:ch[id]?=some (.obj true (flatC L)))(ho:∀ c∈L,ownRO c):HS ⟨w,(Ch.obj true (flatC L)).at⟩ L w:=by
 have hs:=h.sat id _ hid
 obtain ⟨h1,h2⟩:=flat_open ho hs.1 (hs.2 rfl)
 refine ⟨⟨rfl,rfl,rfl,Nat.le_refl _,fun _ _ _=>rfl⟩,fun i c hc=>h1 c (List.mem_of_getElem? hc),fun i j ci cj b hij hi hj _ ha hb=>h2 i j ci cj b hij hi hj ha hb,fun i c b hc _ ha=>.inr ?_⟩
 exact flat_of ho (List.mem_of_getElem? hc) ha
def sOr (S T:Sm):Sm:=fun args ch k =>
 match args with
 | .a (.c .nil)::_=>S args ch k
 | _=>T args ch k
theorem sOr_ok {P:Program}{f:FuncId}{S T:Sm}(h1:SmOK P f S)(h2:SmOK P f T):SmOK P f (sOr S T) :=
 ⟨h1.1,fun X args ch k w hS hs=>by
  unfold sOr at hS
  split at hS
  ·exact h1.2 X _ ch k w hS hs
  ·exact h2.2 X args ch k w hS hs⟩
def ctSN (k:Nat)(x:CtD)(o:Nat→Option Addr)(q:Nat→Nat):List SC:=[.int (x.i 0),.int (x.i 1),.int (x.i 2),.int (x.i 3),.int (x.i 4),.int (x.i 5),.int (x.i 6),.int (x.i 7),.int (x.i 8),.int (x.i 9),.int (x.i 10),.int (x.i 11),.int (x.i 12),.int (x.i 13),.int (x.i 14),.int (x.i 15),.int (x.i 16),.int (x.i 17),.int (x.i 18),.int (x.i 19),.int (x.i 20),.int (x.i 21),.bool (x.b 0),.int (x.i 22),.int (x.i 23),.int (x.i 24),.int (x.i 25),.int (x.i 26),.int (x.i 27),.int (x.i 28),.int (x.i 29),.int (x.i 30),.int (x.i 31),.sl (k+0) (o 0) (x.n 0) (q 0),.int (x.i 32),.int (x.i 33),.int (x.i 34),.int (x.i 35),.int (x.i 36),.int (x.i 37),.int (x.i 38),.sl (k+1) (o 1) (x.n 1) (q 1),.int (x.i 39),.int (x.i 40),.bool (x.b 1),.int (x.i 41),.sl (k+2) (o 2) (x.n 2) (q 2),.int (x.i 42),.sl (k+3) (o 3) (x.n 3) (q 3),.nil,.sl (k+5) (o 5) (x.c.n) (q 5),.sl (k+6) (o 6) (x.n 6) (q 6),.sl (k+7) (o 7) (x.n 7) (q 7),.int (x.i 43),.sl (k+8) (o 8) (x.n 8) (q 8),.sl (k+9) (o 9) (x.n 9) (q 9),.int (x.i 44),.bool (x.b 2),.sl (k+10) (o 10) (x.t.n) (q 10),.sl (k+11) (o 11) (x.n 11) (q 11),.nil,.nil,.sl (k+14) (o 14) (x.n 14) (q 14),.bool (x.b 3),.int (x.i 45),.int (x.i 46),.int (x.i 47),.int (x.i 48),.int (x.i 49),.int (x.i 50),.int (x.i 51),.int (x.i 52),.nil,.nil,.nil]
theorem ctSN_den {k:Nat}{x:CtD}{o:Nat→Option Addr}{q:Nat→Nat}(h1:nilX x)(h2:nilO o q):(SA.agg (ctSN k x o q)).den=ctV x o q:=by
 simp only [nilX,nilO] at h1 h2
 simp only [ctSN,ctV,SA.den,List.map_cons,List.map_nil,SC.den,h1,h2]
def endCt (k:Int)(x:CtD):Int:=mk (mk (tAt (mk (mk (mk (mk (kAt (mk (mk (mk (mk (k) 1 0 (x.n 0)) 1 0 (x.n 1)) 2 0 (x.n 2)) 1 0 (x.n 3)) x.c.sn x.c.n) 1 0 (x.n 6)) 1 0 (x.n 7)) 1 0 (x.n 8)) 1 0 (x.n 9)) x.t x.t.n) 1 0 (x.n 11)) 2 0 (x.n 14)
def markCt (k:Int)(x:CtD):CtD:=⟨x.i,x.b,x.n,fun s=>pickL [fun _ i=>mk (k) 1 0 i,fun _ i=>mk (mk (k) 1 0 (x.n 0)) 1 0 i,fun _ i=>mk (mk (mk (k) 1 0 (x.n 0)) 1 0 (x.n 1)) 2 1 i,fun _ i=>mk (mk (mk (mk (k) 1 0 (x.n 0)) 1 0 (x.n 1)) 2 0 (x.n 2)) 1 0 i,x.g 4,x.g 5,fun _ i=>mk (kAt (mk (mk (mk (mk (k) 1 0 (x.n 0)) 1 0 (x.n 1)) 2 0 (x.n 2)) 1 0 (x.n 3)) x.c.sn x.c.n) 1 0 i,fun _ i=>mk (mk (kAt (mk (mk (mk (mk (k) 1 0 (x.n 0)) 1 0 (x.n 1)) 2 0 (x.n 2)) 1 0 (x.n 3)) x.c.sn x.c.n) 1 0 (x.n 6)) 1 0 i,fun _ i=>mk (mk (mk (kAt (mk (mk (mk (mk (k) 1 0 (x.n 0)) 1 0 (x.n 1)) 2 0 (x.n 2)) 1 0 (x.n 3)) x.c.sn x.c.n) 1 0 (x.n 6)) 1 0 (x.n 7)) 1 0 i,fun _ i=>mk (mk (mk (mk (kAt (mk (mk (mk (mk (k) 1 0 (x.n 0)) 1 0 (x.n 1)) 2 0 (x.n 2)) 1 0 (x.n 3)) x.c.sn x.c.n) 1 0 (x.n 6)) 1 0 (x.n 7)) 1 0 (x.n 8)) 1 0 i,x.g 10,fun _ i=>mk (tAt (mk (mk (mk (mk (kAt (mk (mk (mk (mk (k) 1 0 (x.n 0)) 1 0 (x.n 1)) 2 0 (x.n 2)) 1 0 (x.n 3)) x.c.sn x.c.n) 1 0 (x.n 6)) 1 0 (x.n 7)) 1 0 (x.n 8)) 1 0 (x.n 9)) x.t x.t.n) 1 0 i,x.g 12,x.g 13,fun c i=>mk (mk (tAt (mk (mk (mk (mk (kAt (mk (mk (mk (mk (k) 1 0 (x.n 0)) 1 0 (x.n 1)) 2 0 (x.n 2)) 1 0 (x.n 3)) x.c.sn x.c.n) 1 0 (x.n 6)) 1 0 (x.n 7)) 1 0 (x.n 8)) 1 0 (x.n 9)) x.t x.t.n) 1 0 (x.n 11)) 2 c i,x.g 15,x.g 16,x.g 17] (fun _ _=>0) s,fun s=>pickL [x.h 0,x.h 1,fun _ i=>mkB (mk (mk (k) 1 0 (x.n 0)) 1 0 (x.n 1)) i,x.h 3,x.h 4,x.h 5,x.h 6,x.h 7,x.h 8,x.h 9,x.h 10,x.h 11,x.h 12,x.h 13,x.h 14,x.h 15,x.h 16,x.h 17] (fun _ _=>false) s,markCD (mk (mk (mk (mk (k) 1 0 (x.n 0)) 1 0 (x.n 1)) 2 0 (x.n 2)) 1 0 (x.n 3)) x.c,markTK (mk (mk (mk (mk (kAt (mk (mk (mk (mk (k) 1 0 (x.n 0)) 1 0 (x.n 1)) 2 0 (x.n 2)) 1 0 (x.n 3)) x.c.sn x.c.n) 1 0 (x.n 6)) 1 0 (x.n 7)) 1 0 (x.n 8)) 1 0 (x.n 9)) x.t⟩
abbrev k1C (k:Int):Prop:=0≤k∧k≤1000000
def isNewC (v:Value)(x:CtD)(rs:List Row):Prop:=∃ (o:Nat→Option Addr) (q:Nat→Nat) (so:Nat→Option Addr) (sc:Nat→Nat) (uo:Nat→Option Addr) (uc:Nat→Nat) (vo:Nat→Option Addr) (vc:Nat→Nat),v=ctV x o q∧rs=flatC (ctO 0 x o q so sc uo uc vo vc)∧nilX x∧nilO o q
theorem isNewC_is {v:Value}{x:CtD}{rs:List Row}(h:isNewC v x rs):isController v x rs:=by
 obtain ⟨o,q,so,sc,uo,uc,vo,vc,rfl,rfl,_⟩:=h
 exact ⟨o,q,so,sc,uo,uc,vo,vc,rfl,.inr rfl⟩
theorem wholeNewC {v:Value}{x:CtD}{rs:List Row}(h:isNewC v x rs):wholeC true v 75:=wholeController (isNewC_is h)
abbrev capN (x:CtD):Prop:=capCt x∧capM x.t
def sMarkIntN:Sm:=inlM Tryz.prog {tb:=[]} 300 Tryz.f62
theorem sMarkIntN_ok:SmOK Tryz.prog 62 sMarkIntN:=inlM_ok mixed (E:={tb:=[]}) trivial Tryz.func62 Tryz.call62 (fun _ _ _=>loopsOK_nil _ _ _)
def sMarkIntZ:Sm:=sOr sMarkIntN sMarkIntS
theorem sMarkIntZ_ok:SmOK Tryz.prog 62 sMarkIntZ:=sOr_ok sMarkIntN_ok sMarkIntS_ok
def sMarkPolJ:Sm:=inlM Tryz.prog {tb:=[(62,sMarkIntZ)]} 300 Tryz.f11
theorem sMarkPolJ_ok:SmOK Tryz.prog 11 sMarkPolJ:=inlM_ok mixed (E:={tb:=[(62,sMarkIntZ)]}) ⟨sMarkIntZ_ok,trivial⟩ Tryz.func11 Tryz.call11 (fun _ _ _=>loopsOK_nil _ _ _)
def sMarkPolicyBoxJ:Sm:=inlM Tryz.prog {tb:=[(11,sMarkPolJ)]} 300 Tryz.f63
theorem sMarkPolicyBoxJ_ok:SmOK Tryz.prog 63 sMarkPolicyBoxJ:=inlM_ok mixed (E:={tb:=[(11,sMarkPolJ)]}) ⟨sMarkPolJ_ok,trivial⟩ Tryz.func63 Tryz.call63 (fun _ _ _=>loopsOK_nil _ _ _)
def sMarkRankJ:Sm:=inlM Tryz.prog {tb:=[(122,sMarkBankS)]} 300 Tryz.f64
theorem sMarkRankJ_ok:SmOK Tryz.prog 64 sMarkRankJ:=inlM_ok mixed (E:={tb:=[(122,sMarkBankS)]}) ⟨sMarkBankS_ok,trivial⟩ Tryz.func64 Tryz.call64 (fun _ _ _=>loopsOK_nil _ _ _)
def sMarkReadyJ:Sm:=inlM Tryz.prog {tb:=[(62,sMarkIntZ)]} 300 Tryz.f65
theorem sMarkReadyJ_ok:SmOK Tryz.prog 65 sMarkReadyJ:=inlM_ok mixed (E:={tb:=[(62,sMarkIntZ)]}) ⟨sMarkIntZ_ok,trivial⟩ Tryz.func65 Tryz.call65 (fun _ _ _=>loopsOK_nil _ _ _)
def sMarkArrayJ:Sm:=inlM Tryz.prog {tb:=[(123,sMarkCs),(62,sMarkIntZ)]} 300 Tryz.f66
theorem sMarkArrayJ_ok:SmOK Tryz.prog 66 sMarkArrayJ:=inlM_ok mixed (E:={tb:=[(123,sMarkCs),(62,sMarkIntZ)]}) ⟨sMarkCs_ok,sMarkIntZ_ok,trivial⟩ Tryz.func66 Tryz.call66 (fun _ _ _=>loopsOK_nil _ _ _)
def sMarkSpareJ:Sm:=inlM Tryz.prog {tb:=[(62,sMarkIntZ)]} 300 Tryz.f67
theorem sMarkSpareJ_ok:SmOK Tryz.prog 67 sMarkSpareJ:=inlM_ok mixed (E:={tb:=[(62,sMarkIntZ)]}) ⟨sMarkIntZ_ok,trivial⟩ Tryz.func67 Tryz.call67 (fun _ _ _=>loopsOK_nil _ _ _)
def sMarkRefreshJ:Sm:=inlM Tryz.prog {tb:=[(62,sMarkIntZ)]} 300 Tryz.f68
theorem sMarkRefreshJ_ok:SmOK Tryz.prog 68 sMarkRefreshJ:=inlM_ok mixed (E:={tb:=[(62,sMarkIntZ)]}) ⟨sMarkIntZ_ok,trivial⟩ Tryz.func68 Tryz.call68 (fun _ _ _=>loopsOK_nil _ _ _)
def sMarkAddrJ:Sm:=inlM Tryz.prog {tb:=[]} 300 Tryz.f70
theorem sMarkAddrJ_ok:SmOK Tryz.prog 70 sMarkAddrJ:=inlM_ok mixed (E:={tb:=[]}) trivial Tryz.func70 Tryz.call70 (fun _ _ _=>loopsOK_nil _ _ _)
def sMarkRequestJ:Sm:=inlM Tryz.prog {tb:=[]} 300 Tryz.f71
theorem sMarkRequestJ_ok:SmOK Tryz.prog 71 sMarkRequestJ:=inlM_ok mixed (E:={tb:=[]}) trivial Tryz.func71 Tryz.call71 (fun _ _ _=>loopsOK_nil _ _ _)
def sMarkErrorEntryJ:Sm:=inlM Tryz.prog {tb:=[]} 300 Tryz.f73
theorem sMarkErrorEntryJ_ok:SmOK Tryz.prog 73 sMarkErrorEntryJ:=inlM_ok mixed (E:={tb:=[]}) trivial Tryz.func73 Tryz.call73 (fun _ _ _=>loopsOK_nil _ _ _)
def sMarkEventJ:Sm:=inlM Tryz.prog {tb:=[]} 300 Tryz.f74
theorem sMarkEventJ_ok:SmOK Tryz.prog 74 sMarkEventJ:=inlM_ok mixed (E:={tb:=[]}) trivial Tryz.func74 Tryz.call74 (fun _ _ _=>loopsOK_nil _ _ _)
def sMarkReplyJ:Sm:=inlM Tryz.prog {tb:=[]} 300 Tryz.f75
theorem sMarkReplyJ_ok:SmOK Tryz.prog 75 sMarkReplyJ:=inlM_ok mixed (E:={tb:=[]}) trivial Tryz.func75 Tryz.call75 (fun _ _ _=>loopsOK_nil _ _ _)
theorem kAt_up {k:Int}{sn:Nat→Nat}{n b:Nat}(h:0≤k∧k≤b)(h2:totN sn n≤4194304):0≤kAt k sn n∧kAt k sn n≤(b+4194304:Nat):=by
 simp only [kAt]
 omega
theorem tAt_up {k:Int}{x:TK}{n b:Nat}(h:0≤k∧k≤b)(h2:totN (tSn x) n≤4194304):0≤tAt k x n∧tAt k x n≤(b+4194304:Nat):=kAt_up h h2
theorem mk_in {k:Int}{s n b:Nat}(h:0≤k∧k≤b)(h2:s*n≤4194304):0≤mk k s 0 n∧mk k s 0 n≤(b+4194304:Nat):=by
 simp only [mk]
 omega
theorem markCt_T (x:CtD)(o:Nat→Option Addr)(q:Nat→Nat)(so:Nat→Option Addr)(sc:Nat→Nat)(uo:Nat→Option Addr)(uc:Nat→Nat)(vo:Nat→Option Addr)(vc:Nat→Nat)(k0:Int):(exFn Tryz.prog {tb:=[(63,sMarkPolicyBoxJ),(64,sMarkRankJ),(65,sMarkReadyJ),(66,sMarkArrayJ),(67,sMarkSpareJ),(68,sMarkRefreshJ),(69,sMarkTs),(62,sMarkIntZ),(72,sMarkShareS),(70,sMarkAddrJ),(71,sMarkRequestJ),(73,sMarkErrorEntryJ),(74,sMarkEventJ),(75,sMarkReplyJ)]} 400 Tryz.f12 ([.a (.agg (ctSN 0 x o q)),.a (.c (.int k0))]) (ctO 0 x o q so sc uo uc vo vc) (fun v ch=>v.den=.int .i64 (endCt k0 x)∧SelE ch [0,1,2,3,4,5,6,7,8,9,10,11,12,13,14,15,16,17,18,19,20] (ctO 0 (markCt k0 x) o q so sc uo uc vo vc)))=(
 (fun b:Int=>(fun d:SC=>(fun g:SC=>(fun h:Int=>(fun j:Int=>(fun k:Ch=>(fun l:Ch=>(fun m:Int=>(fun n:Ch=>(fun p:CD=>(fun r:Int=>(fun s:Int=>(fun t:Ch=>(fun u:Int=>(fun w:Ch=>(fun y:Ch=>(fun z:Int=>(fun B:Ch=>(fun C:Int=>(fun D:Ch=>(fun E:Int=>(fun F:Ch=>(fun G:Int=>(fun H:Ch=>∀ I:Nat,I=I∧∀ J:Nat,J=J∧∀ K:Nat,K=K∧∃ L:Nat→Int,((o 0)=(o 0)∧(x.3 0)=(x.3 0)∧[fun M=>Ci (x.4 0 0 M)]=[fun M=>Ci (L M)]∧markC (x.3 0) k0)∧J=J∧∀ M:Nat,M=M∧∃ N:Nat→Int,((o 1)=(o 1)∧(x.3 1)=(x.3 1)∧[fun O=>Ci (x.4 1 0 O)]=[fun O=>Ci (N O)]∧markC (x.3 1) b)∧I=I∧∀ O:Nat,O=O∧∃(P:Nat→Bool) (Q:Nat→Int),((o 2)=(o 2)∧(x.3 2)=(x.3 2)∧[fun R=>Cb (x.5 2 0 R),fun R=>Ci (x.4 2 1 R)]=[fun R=>Cb (P R),fun R=>Ci (Q R)]∧markC (x.3 2) h)∧I=I∧∀ R:Nat,R=R∧∃ S:Nat→Int,((o 3)=(o 3)∧(x.3 3)=(x.3 3)∧[fun T=>Ci (x.4 3 0 T)]=[fun T=>Ci (S T)]∧markC (x.3 3) j)∧R=R∧I=I∧∀ T:Nat,T=T∧∃(U:Nat) (V:CD) (W:Nat→Option Addr) (X:Nat→Nat),(fun Y:Int=>(fun Z:Int=>(fun aa:Int=>(fun ab:Int=>(fun ac:Int=>((symRows true 3 x.6 so sc)=(symRows true U V W X)∧[fun ad=>Cs 18 (so ad) (x.6.2 ad) (sc ad),fun ad=>Cb (x.6.4 ad)]=[fun ad=>Cs 18 (W ad) (V.2 ad) (X ad),fun ad=>Cb (V.4 ad)]∧(o 5)=(o 5)∧x.6.1=x.6.1∧x.6.1=V.1∧true=true∧capK V∧mrkC m)∧T=T∧∃ ad:Nat→Int,((o 6)=(o 6)∧(x.3 6)=(x.3 6)∧[fun af=>Ci (x.4 6 0 af)]=[fun af=>Ci (ad af)]∧markC (x.3 6) Y)∧T=T∧∃ af:Nat→Int,((o 7)=(o 7)∧(x.3 7)=(x.3 7)∧[fun ag=>Ci (x.4 7 0 ag)]=[fun ag=>Ci (af ag)]∧markC (x.3 7) Z)∧I=I∧∀ ag:Nat,ag=ag∧∃ ah:Nat→Int,((o 8)=(o 8)∧(x.3 8)=(x.3 8)∧[fun aj=>Ci (x.4 8 0 aj)]=[fun aj=>Ci (ah aj)]∧markC (x.3 8) aa)∧I=I∧∀ aj:Nat,aj=aj∧∃ ak:Nat→Int,((o 9)=(o 9)∧(x.3 9)=(x.3 9)∧[fun al=>Ci (x.4 9 0 al)]=[fun al=>Ci (ak al)]∧markC (x.3 9) ab)∧I=I∧∃(al am:Nat) (an:TK) (ao:Nat→Option Addr) (ap:Nat→Nat) (aq:Nat→Option Addr) (ar:Nat→Nat),(fun au:Int=>(fun av:Int=>((symRows true 3 (CD.mk x.7.1 x.7.2 x.7.3 (fun aw=>false)) uo uc)=(symRows true al (CD.mk an.1 an.2 an.3 (fun aw=>false)) ao ap)∧(symRows true 3 (CD.mk x.7.1 x.7.4 x.7.5 (fun aw=>false)) vo vc)=(symRows true am (CD.mk an.1 an.4 an.5 (fun aw=>false)) aq ar)∧[fun aw=>Cs 19 (uo aw) (x.7.2 aw) (uc aw),fun aw=>Cs 20 (vo aw) (x.7.4 aw) (vc aw),fun aw=>Ci (x.7.6 aw)]=[fun aw=>Cs 19 (ao aw) (an.2 aw) (ap aw),fun aw=>Cs 20 (aq aw) (an.4 aw) (ar aw),fun aw=>Ci (an.6 aw)]∧(o 10)=(o 10)∧x.7.1=x.7.1∧x.7.1=an.1∧true=true∧capM an∧mrkC ac∧true=true)∧I=I∧∃ aw:Nat→Int,((o 11)=(o 11)∧(x.3 11)=(x.3 11)∧[fun ax=>Ci (x.4 11 0 ax)]=[fun ax=>Ci (aw ax)]∧markC (x.3 11) au)∧I=I∧I=I∧I=I∧∃ ax ay:Nat→Int,((o 14)=(o 14)∧(x.3 14)=(x.3 14)∧[fun az=>Ci (x.4 14 0 az),fun az=>Ci (x.4 14 1 az)]=[fun az=>Ci (ax az),fun az=>Ci (ay az)]∧markC (x.3 14) av)∧I=I∧I=I∧I=I∧(Wi (mk av 2 0 (x.3 14)))=(Wi (endCt k0 x))∧SelE [l,n,D,t,k,Hr true (o 5) 149 2 x.6.1 (q 5) [fun az=>Cs 18 (W az) ((markCD m V).2 az) (X az),fun az=>Cb ((markCD m V).4 az)],Hr true (o 6) 3 1 (x.3 6) (q 6) [fun az=>Ci (mk Y 1 0 az)],Hr true (o 7) 3 1 (x.3 7) (q 7) [fun az=>Ci (mk Z 1 0 az)],Hr true (o 8) 3 1 (x.3 8) (q 8) [fun az=>Ci (mk aa 1 0 az)],Hr true (o 9) 3 1 (x.3 9) (q 9) [fun az=>Ci (mk ab 1 0 az)],Hr true (o 10) 98 3 x.7.1 (q 10) [fun az=>Cs 19 (ao az) ((markTK ac an).2 az) (ap az),fun az=>Cs 20 (aq az) ((markTK ac an).4 az) (ar az),fun az=>Ci ((markTK ac an).6 az)],Hr true (o 11) 3 1 (x.3 11) (q 11) [fun az=>Ci (mk au 1 0 az)],y,H,Hr true (o 14) 153 2 (x.3 14) (q 14) [fun az=>Ci (mk av 2 0 az),fun az=>Ci (mk av 2 1 az)],w,F,B,Ho true (symRows true U (markCD m V) W X),Ho true (symRows true al (CD.mk (markTK ac an).1 (markTK ac an).2 (markTK ac an).3 (fun az=>false)) ao ap),Ho true (symRows true am (CD.mk (markTK ac an).1 (markTK ac an).4 (markTK ac an).5 (fun az=>false)) aq ar),Hc I 75 [Ci (x.1 0),Ci (x.1 1),Ci (x.1 2),Ci (x.1 3),Ci (x.1 4),Ci (x.1 5),Ci (x.1 6),Ci (x.1 7),Ci (x.1 8),Ci (x.1 9),Ci (x.1 10),Ci (x.1 11),Ci (x.1 12),Ci (x.1 13),Ci (x.1 14),Ci (x.1 15),Ci (x.1 16),Ci (x.1 17),Ci (x.1 18),Ci (x.1 19),Ci (x.1 20),Ci (x.1 21),Cb (x.2 0),Ci (x.1 22),Ci (x.1 23),Ci (x.1 24),Ci (x.1 25),Ci (x.1 26),Ci (x.1 27),Ci (x.1 28),Ci (x.1 29),Ci (x.1 30),Ci (x.1 31),g,Ci (x.1 32),Ci (x.1 33),Ci (x.1 34),Ci (x.1 35),Ci (x.1 36),Ci (x.1 37),Ci (x.1 38),d,Ci (x.1 39),Ci (x.1 40),Cb (x.2 1),Ci (x.1 41),Cs 2 (o 2) (x.3 2) (q 2),Ci (x.1 42),Cs 3 (o 3) (x.3 3) (q 3),Cz,Cs 5 (o 5) x.6.1 (q 5),Cs 6 (o 6) (x.3 6) (q 6),Cs 7 (o 7) (x.3 7) (q 7),Ci (x.1 43),Cs 8 (o 8) (x.3 8) (q 8),Cs 9 (o 9) (x.3 9) (q 9),Ci (x.1 44),Cb (x.2 2),Cs 10 (o 10) x.7.1 (q 10),Cs 11 (o 11) (x.3 11) (q 11),Cz,Cz,Cs 14 (o 14) (x.3 14) (q 14),Cb (x.2 3),Ci (x.1 45),Ci (x.1 46),Ci (x.1 47),Ci (x.1 48),Ci (x.1 49),Ci (x.1 50),Ci (x.1 51),Ci (x.1 52),Cz,Cz,Cz],Hc J 48 [Ci (x.1 27),Ci (x.1 28),Ci (x.1 29),Ci (x.1 30),Ci (x.1 31),g,Ci (x.1 32),Ci (x.1 33),Ci (x.1 34),Ci (x.1 35),Ci (x.1 36),Ci (x.1 37),Ci (x.1 38),d,Ci (x.1 39),Ci (x.1 40),Cb (x.2 1)],Hc K 46 [Ci (x.1 27),Ci (x.1 28),Ci (x.1 29),Ci (x.1 30),Ci (x.1 31),g,Ci (x.1 32),Ci (x.1 33)],Hc M 46 [Ci (x.1 34),Ci (x.1 35),Ci (x.1 36),Ci (x.1 37),Ci (x.1 38),d,Ci (x.1 39),Ci (x.1 40)],Hc O 51 [Cs 2 (o 2) (x.3 2) (q 2),Ci (x.1 42)],Hc R 53 [Cs 3 (o 3) (x.3 3) (q 3),Cz],Hc T 56 [Cs 5 (o 5) x.6.1 (q 5),Cs 6 (o 6) (x.3 6) (q 6),Cs 7 (o 7) (x.3 7) (q 7)],Hc ag 58 [Ci (x.1 43),Cs 8 (o 8) (x.3 8) (q 8)],Hc aj 60 [Cs 9 (o 9) (x.3 9) (q 9),Ci (x.1 44),Cb (x.2 2)]] [0,1,2,3,4,5,6,7,8,9,10,11,12,13,14,15,16,17,18,19,20] [l,n,D,t,k,Hr true (o 5) 149 2 p.1 (q 5) [fun az=>Cs 18 (so az) (p.2 az) (sc az),fun az=>Cb (p.4 az)],Hr true (o 6) 3 1 (x.3 6) (q 6) [fun az=>Ci (mk r 1 0 az)],Hr true (o 7) 3 1 (x.3 7) (q 7) [fun az=>Ci (mk s 1 0 az)],Hr true (o 8) 3 1 (x.3 8) (q 8) [fun az=>Ci (mk u 1 0 az)],Hr true (o 9) 3 1 (x.3 9) (q 9) [fun az=>Ci (mk z 1 0 az)],Hr true (o 10) 98 3 (markTK C x.7).1 (q 10) [fun az=>Cs 19 (uo az) ((markTK C x.7).2 az) (uc az),fun az=>Cs 20 (vo az) ((markTK C x.7).4 az) (vc az),fun az=>Ci ((markTK C x.7).6 az)],Hr true (o 11) 3 1 (x.3 11) (q 11) [fun az=>Ci (mk E 1 0 az)],y,H,Hr true (o 14) 153 2 (x.3 14) (q 14) [fun az=>Ci (mk G 2 0 az),fun az=>Ci (mk G 2 1 az)],w,F,B,Ho true (symRows true 3 p so sc),Ho true (symRows true 3 (CD.mk (markTK C x.7).1 (markTK C x.7).2 (markTK C x.7).3 (fun az=>false)) uo uc),Ho true (symRows true 3 (CD.mk (markTK C x.7).1 (markTK C x.7).4 (markTK C x.7).5 (fun az=>false)) vo vc)]) (mk au 1 0 (x.3 11))) (tAt ac an an.1)) (mk ab 1 0 (x.3 9))) (mk aa 1 0 (x.3 8))) (mk Z 1 0 (x.3 7))) (mk Y 1 0 (x.3 6))) (kAt m V.2 V.1)) (Hr true (o 13) 168 6 (x.3 13) (q 13) [fun H=>Ci (x.4 13 0 H),fun H=>Ci (x.4 13 1 H),fun H=>Ci (x.4 13 2 H),fun H=>Cb (x.5 13 3 H),fun H=>Ci (x.4 13 4 H),fun H=>Ci (x.4 13 5 H)])) (mk E 1 0 (x.3 11))) (Hr true (o 16) 177 5 (x.3 16) (q 16) [fun F=>Ci (x.4 16 0 F),fun F=>Ci (x.4 16 1 F),fun F=>Ci (x.4 16 2 F),fun F=>Ci (x.4 16 3 F),fun F=>Ci (x.4 16 4 F)])) (tAt C x.7 x.7.1)) (Hr true (o 2) 194 2 (x.3 2) (q 2) [fun D=>Cb (mkB h D),fun D=>Ci (mk h 2 1 D)])) (mk z 1 0 (x.3 9))) (Hr true (o 17) 180 4 (x.3 17) (q 17) [fun B=>Ci (x.4 17 0 B),fun B=>Ci (x.4 17 1 B),fun B=>Ci (x.4 17 2 B),fun B=>Ci (x.4 17 3 B)])) (mk u 1 0 (x.3 8))) (Hr true (o 12) 165 3 (x.3 12) (q 12) [fun y=>Ci (x.4 12 0 y),fun y=>Ci (x.4 12 1 y),fun y=>Ci (x.4 12 2 y)])) (Hr true (o 15) 172 3 (x.3 15) (q 15) [fun w=>Ci (x.4 15 0 w),fun w=>Ci (x.4 15 1 w),fun w=>Ci (x.4 15 2 w)])) (mk s 1 0 (x.3 7))) (Hr true (o 3) 3 1 (x.3 3) (q 3) [fun t=>Ci (mk j 1 0 t)])) (mk r 1 0 (x.3 6))) (kAt m x.6.2 x.6.1)) (markCD m x.6)) (Hr true (o 1) 3 1 (x.3 1) (q 1) [fun n=>Ci (mk b 1 0 n)])) (mk j 1 0 (x.3 3))) (Hr true (o 0) 3 1 (x.3 0) (q 0) [fun l=>Ci (mk k0 1 0 l)])) (Hr true (o 4) 3 1 (x.3 4) (q 4) [fun k=>Ci (x.4 4 0 k)])) (mk h 2 0 (x.3 2))) (mk b 1 0 (x.3 1))) (Cs 0 (o 0) (x.3 0) (q 0))) (Cs 1 (o 1) (x.3 1) (q 1))) (mk k0 1 0 (x.3 0))):=by kernel_rfl
theorem markCt_any (x:CtD)(o:Nat→Option Addr)(q:Nat→Nat)(so:Nat→Option Addr)(sc:Nat→Nat)(uo:Nat→Option Addr)(uc:Nat→Nat)(vo:Nat→Option Addr)(vc:Nat→Nat)(k0:Int)(w:World)(M:Nat→Prop)(hs:HS ⟨w,M⟩ (ctO 0 x o q so sc uo uc vo vc) w)(h1:nilX x)(h2:nilO o q)(hcap:capN x)(hk0:k1C k0):Calls Tryz.prog 12 #[ctV x o q,.int .i64 k0] w fun e w'=>e=.returned (.int .i64 (endCt k0 x))∧HS ⟨w,M⟩ (ctO 0 (markCt k0 x) o q so sc uo uc vo vc) w':=by
 rw [← ctSN_den (k:=0) h1 h2]
 refine fnB (tb:=[(63,sMarkPolicyBoxJ),(64,sMarkRankJ),(65,sMarkReadyJ),(66,sMarkArrayJ),(67,sMarkSpareJ),(68,sMarkRefreshJ),(69,sMarkTs),(62,sMarkIntZ),(72,sMarkShareS),(70,sMarkAddrJ),(71,sMarkRequestJ),(73,sMarkErrorEntryJ),(74,sMarkEventJ),(75,sMarkReplyJ)]) ⟨sMarkPolicyBoxJ_ok,sMarkRankJ_ok,sMarkReadyJ_ok,sMarkArrayJ_ok,sMarkSpareJ_ok,sMarkRefreshJ_ok,sMarkTs_ok,sMarkIntZ_ok,sMarkShareS_ok,sMarkAddrJ_ok,sMarkRequestJ_ok,sMarkErrorEntryJ_ok,sMarkEventJ_ok,sMarkReplyJ_ok,trivial⟩ Tryz.func12 (@Eq.mpr _ _ (markCt_T x o q so sc uo uc vo vc k0) ?_) hs (fun v ch' w' ⟨hv,hc⟩ hs=>⟨by rw [hv],hc.hs hs⟩)
 dsimp -zeta -proj -iota -eta -failIfUnchanged (etaStruct:=.none) only
 clear hs
 obtain ⟨⟨hn,hc,ht⟩,hm⟩:=hcap
 have hc1:totN x.c.sn x.c.n≤2097152:=hc
 have hm1:totN (tSn x.t) x.t.n≤2097152:=hm
 have n0:x.n 0≤2097152:=hn.1
 have n1:x.n 1≤2097152:=hn.2.1
 have n2:x.n 2≤2097152:=hn.2.2.1
 have n3:x.n 3≤2097152:=hn.2.2.2.1
 have n4:x.n 4≤2097152:=hn.2.2.2.2.1
 have n6:x.n 6≤2097152:=hn.2.2.2.2.2.1
 have n7:x.n 7≤2097152:=hn.2.2.2.2.2.2.1
 have n8:x.n 8≤2097152:=hn.2.2.2.2.2.2.2.1
 have n9:x.n 9≤2097152:=hn.2.2.2.2.2.2.2.2.1
 have n11:x.n 11≤2097152:=hn.2.2.2.2.2.2.2.2.2.1
 have n12:x.n 12≤2097152:=hn.2.2.2.2.2.2.2.2.2.2.1
 have n13:x.n 13≤2097152:=hn.2.2.2.2.2.2.2.2.2.2.2.1
 have n14:x.n 14≤2097152:=hn.2.2.2.2.2.2.2.2.2.2.2.2.1
 have n15:x.n 15≤2097152:=hn.2.2.2.2.2.2.2.2.2.2.2.2.2.1
 have n16:x.n 16≤2097152:=hn.2.2.2.2.2.2.2.2.2.2.2.2.2.2.1
 have n17:x.n 17≤2097152:=hn.2.2.2.2.2.2.2.2.2.2.2.2.2.2.2
 clear hn
 have hb0:0≤k0∧k0≤1000000:=hk0
 have hb1:0≤mk (k0) 1 0 (x.n 0)∧mk (k0) 1 0 (x.n 0)≤5194304:=by exact mk_in hb0 (by omega)
 have hm0:markC (x.n 0) (k0):=⟨n0,hb0.1,by omega⟩
 have hb2:0≤mk (mk (k0) 1 0 (x.n 0)) 1 0 (x.n 1)∧mk (mk (k0) 1 0 (x.n 0)) 1 0 (x.n 1)≤9388608:=by exact mk_in hb1 (by omega)
 have hm1:markC (x.n 1) (mk (k0) 1 0 (x.n 0)):=⟨n1,hb1.1,by omega⟩
 have hb3:0≤mk (mk (mk (k0) 1 0 (x.n 0)) 1 0 (x.n 1)) 2 0 (x.n 2)∧mk (mk (mk (k0) 1 0 (x.n 0)) 1 0 (x.n 1)) 2 0 (x.n 2)≤13582912:=by exact mk_in hb2 (by omega)
 have hm2:markC (x.n 2) (mk (mk (k0) 1 0 (x.n 0)) 1 0 (x.n 1)):=⟨n2,hb2.1,by omega⟩
 have hb4:0≤mk (mk (mk (mk (k0) 1 0 (x.n 0)) 1 0 (x.n 1)) 2 0 (x.n 2)) 1 0 (x.n 3)∧mk (mk (mk (mk (k0) 1 0 (x.n 0)) 1 0 (x.n 1)) 2 0 (x.n 2)) 1 0 (x.n 3)≤17777216:=by exact mk_in hb3 (by omega)
 have hm3:markC (x.n 3) (mk (mk (mk (k0) 1 0 (x.n 0)) 1 0 (x.n 1)) 2 0 (x.n 2)):=⟨n3,hb3.1,by omega⟩
 have hb5:0≤kAt (mk (mk (mk (mk (k0) 1 0 (x.n 0)) 1 0 (x.n 1)) 2 0 (x.n 2)) 1 0 (x.n 3)) x.c.sn x.c.n∧kAt (mk (mk (mk (mk (k0) 1 0 (x.n 0)) 1 0 (x.n 1)) 2 0 (x.n 2)) 1 0 (x.n 3)) x.c.sn x.c.n≤21971520:=by exact kAt_up hb4 (by omega)
 have hk5:mrkC (mk (mk (mk (mk (k0) 1 0 (x.n 0)) 1 0 (x.n 1)) 2 0 (x.n 2)) 1 0 (x.n 3)):=⟨hb4.1,by omega⟩
 have hb6:0≤mk (kAt (mk (mk (mk (mk (k0) 1 0 (x.n 0)) 1 0 (x.n 1)) 2 0 (x.n 2)) 1 0 (x.n 3)) x.c.sn x.c.n) 1 0 (x.n 6)∧mk (kAt (mk (mk (mk (mk (k0) 1 0 (x.n 0)) 1 0 (x.n 1)) 2 0 (x.n 2)) 1 0 (x.n 3)) x.c.sn x.c.n) 1 0 (x.n 6)≤26165824:=by exact mk_in hb5 (by omega)
 have hm6:markC (x.n 6) (kAt (mk (mk (mk (mk (k0) 1 0 (x.n 0)) 1 0 (x.n 1)) 2 0 (x.n 2)) 1 0 (x.n 3)) x.c.sn x.c.n):=⟨n6,hb5.1,by omega⟩
 have hb7:0≤mk (mk (kAt (mk (mk (mk (mk (k0) 1 0 (x.n 0)) 1 0 (x.n 1)) 2 0 (x.n 2)) 1 0 (x.n 3)) x.c.sn x.c.n) 1 0 (x.n 6)) 1 0 (x.n 7)∧mk (mk (kAt (mk (mk (mk (mk (k0) 1 0 (x.n 0)) 1 0 (x.n 1)) 2 0 (x.n 2)) 1 0 (x.n 3)) x.c.sn x.c.n) 1 0 (x.n 6)) 1 0 (x.n 7)≤30360128:=by exact mk_in hb6 (by omega)
 have hm7:markC (x.n 7) (mk (kAt (mk (mk (mk (mk (k0) 1 0 (x.n 0)) 1 0 (x.n 1)) 2 0 (x.n 2)) 1 0 (x.n 3)) x.c.sn x.c.n) 1 0 (x.n 6)):=⟨n7,hb6.1,by omega⟩
 have hb8:0≤mk (mk (mk (kAt (mk (mk (mk (mk (k0) 1 0 (x.n 0)) 1 0 (x.n 1)) 2 0 (x.n 2)) 1 0 (x.n 3)) x.c.sn x.c.n) 1 0 (x.n 6)) 1 0 (x.n 7)) 1 0 (x.n 8)∧mk (mk (mk (kAt (mk (mk (mk (mk (k0) 1 0 (x.n 0)) 1 0 (x.n 1)) 2 0 (x.n 2)) 1 0 (x.n 3)) x.c.sn x.c.n) 1 0 (x.n 6)) 1 0 (x.n 7)) 1 0 (x.n 8)≤34554432:=by exact mk_in hb7 (by omega)
 have hm8:markC (x.n 8) (mk (mk (kAt (mk (mk (mk (mk (k0) 1 0 (x.n 0)) 1 0 (x.n 1)) 2 0 (x.n 2)) 1 0 (x.n 3)) x.c.sn x.c.n) 1 0 (x.n 6)) 1 0 (x.n 7)):=⟨n8,hb7.1,by omega⟩
 have hb9:0≤mk (mk (mk (mk (kAt (mk (mk (mk (mk (k0) 1 0 (x.n 0)) 1 0 (x.n 1)) 2 0 (x.n 2)) 1 0 (x.n 3)) x.c.sn x.c.n) 1 0 (x.n 6)) 1 0 (x.n 7)) 1 0 (x.n 8)) 1 0 (x.n 9)∧mk (mk (mk (mk (kAt (mk (mk (mk (mk (k0) 1 0 (x.n 0)) 1 0 (x.n 1)) 2 0 (x.n 2)) 1 0 (x.n 3)) x.c.sn x.c.n) 1 0 (x.n 6)) 1 0 (x.n 7)) 1 0 (x.n 8)) 1 0 (x.n 9)≤38748736:=by exact mk_in hb8 (by omega)
 have hm9:markC (x.n 9) (mk (mk (mk (kAt (mk (mk (mk (mk (k0) 1 0 (x.n 0)) 1 0 (x.n 1)) 2 0 (x.n 2)) 1 0 (x.n 3)) x.c.sn x.c.n) 1 0 (x.n 6)) 1 0 (x.n 7)) 1 0 (x.n 8)):=⟨n9,hb8.1,by omega⟩
 have hb10:0≤tAt (mk (mk (mk (mk (kAt (mk (mk (mk (mk (k0) 1 0 (x.n 0)) 1 0 (x.n 1)) 2 0 (x.n 2)) 1 0 (x.n 3)) x.c.sn x.c.n) 1 0 (x.n 6)) 1 0 (x.n 7)) 1 0 (x.n 8)) 1 0 (x.n 9)) x.t x.t.n∧tAt (mk (mk (mk (mk (kAt (mk (mk (mk (mk (k0) 1 0 (x.n 0)) 1 0 (x.n 1)) 2 0 (x.n 2)) 1 0 (x.n 3)) x.c.sn x.c.n) 1 0 (x.n 6)) 1 0 (x.n 7)) 1 0 (x.n 8)) 1 0 (x.n 9)) x.t x.t.n≤42943040:=by exact tAt_up hb9 (by omega)
 have hk10:mrkC (mk (mk (mk (mk (kAt (mk (mk (mk (mk (k0) 1 0 (x.n 0)) 1 0 (x.n 1)) 2 0 (x.n 2)) 1 0 (x.n 3)) x.c.sn x.c.n) 1 0 (x.n 6)) 1 0 (x.n 7)) 1 0 (x.n 8)) 1 0 (x.n 9)):=⟨hb9.1,by omega⟩
 have hb11:0≤mk (tAt (mk (mk (mk (mk (kAt (mk (mk (mk (mk (k0) 1 0 (x.n 0)) 1 0 (x.n 1)) 2 0 (x.n 2)) 1 0 (x.n 3)) x.c.sn x.c.n) 1 0 (x.n 6)) 1 0 (x.n 7)) 1 0 (x.n 8)) 1 0 (x.n 9)) x.t x.t.n) 1 0 (x.n 11)∧mk (tAt (mk (mk (mk (mk (kAt (mk (mk (mk (mk (k0) 1 0 (x.n 0)) 1 0 (x.n 1)) 2 0 (x.n 2)) 1 0 (x.n 3)) x.c.sn x.c.n) 1 0 (x.n 6)) 1 0 (x.n 7)) 1 0 (x.n 8)) 1 0 (x.n 9)) x.t x.t.n) 1 0 (x.n 11)≤47137344:=by exact mk_in hb10 (by omega)
 have hm11:markC (x.n 11) (tAt (mk (mk (mk (mk (kAt (mk (mk (mk (mk (k0) 1 0 (x.n 0)) 1 0 (x.n 1)) 2 0 (x.n 2)) 1 0 (x.n 3)) x.c.sn x.c.n) 1 0 (x.n 6)) 1 0 (x.n 7)) 1 0 (x.n 8)) 1 0 (x.n 9)) x.t x.t.n):=⟨n11,hb10.1,by omega⟩
 have hb12:0≤mk (mk (tAt (mk (mk (mk (mk (kAt (mk (mk (mk (mk (k0) 1 0 (x.n 0)) 1 0 (x.n 1)) 2 0 (x.n 2)) 1 0 (x.n 3)) x.c.sn x.c.n) 1 0 (x.n 6)) 1 0 (x.n 7)) 1 0 (x.n 8)) 1 0 (x.n 9)) x.t x.t.n) 1 0 (x.n 11)) 2 0 (x.n 14)∧mk (mk (tAt (mk (mk (mk (mk (kAt (mk (mk (mk (mk (k0) 1 0 (x.n 0)) 1 0 (x.n 1)) 2 0 (x.n 2)) 1 0 (x.n 3)) x.c.sn x.c.n) 1 0 (x.n 6)) 1 0 (x.n 7)) 1 0 (x.n 8)) 1 0 (x.n 9)) x.t x.t.n) 1 0 (x.n 11)) 2 0 (x.n 14)≤51331648:=by exact mk_in hb11 (by omega)
 have hm14:markC (x.n 14) (mk (tAt (mk (mk (mk (mk (kAt (mk (mk (mk (mk (k0) 1 0 (x.n 0)) 1 0 (x.n 1)) 2 0 (x.n 2)) 1 0 (x.n 3)) x.c.sn x.c.n) 1 0 (x.n 6)) 1 0 (x.n 7)) 1 0 (x.n 8)) 1 0 (x.n 9)) x.t x.t.n) 1 0 (x.n 11)):=⟨n14,hb11.1,by omega⟩
 repeat' (first
  | with_reducible exact rfl
  | with_reducible assumption
  | ((with_reducible show SelE _ _ _);exact ⟨by repeat' (show _;first | with_reducible exact True.intro | with_reducible exact .inl rfl | exact .inl rfl | refine And.intro ?_ ?_ | exact True.intro),rfl⟩)
  | (refine ⟨_,x.c,so,sc,⟨rfl,rfl,rfl,rfl,rfl,hc,?_⟩,?_⟩)
  | (refine ⟨_,_,x.t,uo,uc,vo,vc,⟨rfl,rfl,rfl,rfl,rfl,rfl,hm,?_,rfl⟩,?_⟩)
  | refine And.intro ?_ ?_
  | apply Exists.intro
  | intro _
  | exact True.intro
  | exact rfl)
def sHeldIntN:Sm:=inlM Tryz.prog {tb:=[]} 300 Tryz.f83
theorem sHeldIntN_ok:SmOK Tryz.prog 83 sHeldIntN:=inlM_ok mixed (E:={tb:=[]}) trivial Tryz.func83 Tryz.call83 (fun _ _ _=>loopsOK_nil _ _ _)
def sHeldIntZ:Sm:=sOr sHeldIntN sHeldIntS
theorem sHeldIntZ_ok:SmOK Tryz.prog 83 sHeldIntZ:=sOr_ok sHeldIntN_ok sHeldIntS_ok
def sHeldPolJ:Sm:=inlM Tryz.prog {tb:=[(83,sHeldIntZ)]} 300 Tryz.f124
theorem sHeldPolJ_ok:SmOK Tryz.prog 124 sHeldPolJ:=inlM_ok mixed (E:={tb:=[(83,sHeldIntZ)]}) ⟨sHeldIntZ_ok,trivial⟩ Tryz.func124 Tryz.call124 (fun _ _ _=>loopsOK_nil _ _ _)
def sHeldPolicyBoxJ:Sm:=inlM Tryz.prog {tb:=[(124,sHeldPolJ)]} 300 Tryz.f76
theorem sHeldPolicyBoxJ_ok:SmOK Tryz.prog 76 sHeldPolicyBoxJ:=inlM_ok mixed (E:={tb:=[(124,sHeldPolJ)]}) ⟨sHeldPolJ_ok,trivial⟩ Tryz.func76 Tryz.call76 (fun _ _ _=>loopsOK_nil _ _ _)
def sHeldRankJ:Sm:=inlM Tryz.prog {tb:=[(125,sHeldBankS)]} 300 Tryz.f77
theorem sHeldRankJ_ok:SmOK Tryz.prog 77 sHeldRankJ:=inlM_ok mixed (E:={tb:=[(125,sHeldBankS)]}) ⟨sHeldBankS_ok,trivial⟩ Tryz.func77 Tryz.call77 (fun _ _ _=>loopsOK_nil _ _ _)
def sHeldReadyJ:Sm:=inlM Tryz.prog {tb:=[(83,sHeldIntZ)]} 300 Tryz.f78
theorem sHeldReadyJ_ok:SmOK Tryz.prog 78 sHeldReadyJ:=inlM_ok mixed (E:={tb:=[(83,sHeldIntZ)]}) ⟨sHeldIntZ_ok,trivial⟩ Tryz.func78 Tryz.call78 (fun _ _ _=>loopsOK_nil _ _ _)
def sHeldArrayJ:Sm:=inlM Tryz.prog {tb:=[(126,sHeldCs),(83,sHeldIntZ)]} 300 Tryz.f79
theorem sHeldArrayJ_ok:SmOK Tryz.prog 79 sHeldArrayJ:=inlM_ok mixed (E:={tb:=[(126,sHeldCs),(83,sHeldIntZ)]}) ⟨sHeldCs_ok,sHeldIntZ_ok,trivial⟩ Tryz.func79 Tryz.call79 (fun _ _ _=>loopsOK_nil _ _ _)
def sHeldSpareJ:Sm:=inlM Tryz.prog {tb:=[(83,sHeldIntZ)]} 300 Tryz.f80
theorem sHeldSpareJ_ok:SmOK Tryz.prog 80 sHeldSpareJ:=inlM_ok mixed (E:={tb:=[(83,sHeldIntZ)]}) ⟨sHeldIntZ_ok,trivial⟩ Tryz.func80 Tryz.call80 (fun _ _ _=>loopsOK_nil _ _ _)
def sHeldRefreshJ:Sm:=inlM Tryz.prog {tb:=[(83,sHeldIntZ)]} 300 Tryz.f81
theorem sHeldRefreshJ_ok:SmOK Tryz.prog 81 sHeldRefreshJ:=inlM_ok mixed (E:={tb:=[(83,sHeldIntZ)]}) ⟨sHeldIntZ_ok,trivial⟩ Tryz.func81 Tryz.call81 (fun _ _ _=>loopsOK_nil _ _ _)
def sHeldAddrJ:Sm:=inlM Tryz.prog {tb:=[]} 300 Tryz.f84
theorem sHeldAddrJ_ok:SmOK Tryz.prog 84 sHeldAddrJ:=inlM_ok mixed (E:={tb:=[]}) trivial Tryz.func84 Tryz.call84 (fun _ _ _=>loopsOK_nil _ _ _)
def sHeldRequestJ:Sm:=inlM Tryz.prog {tb:=[]} 300 Tryz.f85
theorem sHeldRequestJ_ok:SmOK Tryz.prog 85 sHeldRequestJ:=inlM_ok mixed (E:={tb:=[]}) trivial Tryz.func85 Tryz.call85 (fun _ _ _=>loopsOK_nil _ _ _)
def sHeldErrorEntryJ:Sm:=inlM Tryz.prog {tb:=[]} 300 Tryz.f87
theorem sHeldErrorEntryJ_ok:SmOK Tryz.prog 87 sHeldErrorEntryJ:=inlM_ok mixed (E:={tb:=[]}) trivial Tryz.func87 Tryz.call87 (fun _ _ _=>loopsOK_nil _ _ _)
def sHeldEventJ:Sm:=inlM Tryz.prog {tb:=[]} 300 Tryz.f88
theorem sHeldEventJ_ok:SmOK Tryz.prog 88 sHeldEventJ:=inlM_ok mixed (E:={tb:=[]}) trivial Tryz.func88 Tryz.call88 (fun _ _ _=>loopsOK_nil _ _ _)
def sHeldReplyJ:Sm:=inlM Tryz.prog {tb:=[]} 300 Tryz.f89
theorem sHeldReplyJ_ok:SmOK Tryz.prog 89 sHeldReplyJ:=inlM_ok mixed (E:={tb:=[]}) trivial Tryz.func89 Tryz.call89 (fun _ _ _=>loopsOK_nil _ _ _)
theorem heldCt_T (x:CtD)(o:Nat→Option Addr)(q:Nat→Nat)(so:Nat→Option Addr)(sc:Nat→Nat)(uo:Nat→Option Addr)(uc:Nat→Nat)(vo:Nat→Option Addr)(vc:Nat→Nat)(k0:Int):(exFn Tryz.prog {tb:=[(76,sHeldPolicyBoxJ),(77,sHeldRankJ),(78,sHeldReadyJ),(79,sHeldArrayJ),(80,sHeldSpareJ),(81,sHeldRefreshJ),(82,sHeldTs),(83,sHeldIntZ),(86,sHeldShareS),(84,sHeldAddrJ),(85,sHeldRequestJ),(87,sHeldErrorEntryJ),(88,sHeldEventJ),(89,sHeldReplyJ)]} 400 Tryz.f13 ([.a (.agg (ctSN 0 (markCt k0 x) o q)),.a (.c (.int k0))]) (ctR 0 (markCt k0 x) o q so sc uo uc vo vc) (fun v ch=>v.den=.int .i64 (endCt k0 x)))=(
 (fun b:Value=>(fun d:Value=>(fun g:Int=>(fun h:Int=>(fun j:Bool=>(fun k:List (Nat→SC)=>(fun l:Int=>(fun m:Bool=>(fun n:Int=>(fun p:Bool=>(fun r:List (Nat→SC)=>(fun s:CD=>(fun t:Prop=>(fun u:Int=>(fun w:Bool=>(fun y:Prop=>(fun z:Int=>(fun B:Prop=>(fun C:Int=>(fun D:List (Nat→SC)=>(fun E:Prop=>(fun F:Int=>(fun G:Int=>(fun H:Int=>(fun I:Int=>∀ J:Nat,J=J∧∀ K:Nat,K=K∧∀ L:Nat,L=L∧((o 0)=(o 0)∧(x.3 0)=(x.3 0)∧[fun M=>Ci (mk k0 1 0 M)]=[fun M=>Ci (mk k0 1 0 M)]∧markC (x.3 0) k0)∧t∧(j=false→t∧(j=false→K=K∧∀ M:Nat,M=M∧((o 1)=(o 1)∧(x.3 1)=(x.3 1)∧k=k∧markC (x.3 1) g)∧y∧(m=false→y∧(m=false→y∧(m=false→J=J∧∀ N:Nat,N=N∧((o 2)=(o 2)∧(x.3 2)=(x.3 2)∧D=D∧markC (x.3 2) h)∧B∧(p=false→B∧(p=false→J=J∧∀ O:Nat,O=O∧((o 3)=(o 3)∧(x.3 3)=(x.3 3)∧r=r∧markC (x.3 3) l)∧E∧(w=false→O=O∧E∧(w=false→E∧(w=false→J=J∧∀ P:Nat,P=P∧∃(Q:Nat) (R:CD) (S:Nat→Option Addr) (T U:Nat→Nat),((symRows false 0 s so (fun V=>0))=(symRows false Q R S U)∧[fun V=>Cs 18 (so V) (s.2 V) (sc V),fun V=>Cb (s.4 V)]=[fun V=>Cs 18 (S V) (R.2 V) (T V),fun V=>Cb (R.4 V)]∧(o 5)=(o 5)∧s.1=s.1∧s.1=R.1)∧∃ V:CD,(fun W:Int=>(fun X:Int=>(fun Y:Bool=>(fun Z:Int=>(fun aa:Bool=>(fun ab:Int=>(fun ac:Bool=>(fun ad:Int=>(fun af:Bool=>(fun ag:Prop=>(fun ah:Bool=>(fun aj:Prop=>(fun ak:Prop=>(R=(markCD n V)∧capK V∧mrkC n)∧(Y=true→b=d)∧(Y=false→P=P∧((o 6)=(o 6)∧(x.3 6)=(x.3 6)∧[fun al=>Ci (mk u 1 0 al)]=[fun al=>Ci (mk W 1 0 al)]∧markC (x.3 6) W)∧(aa=true→b=d)∧(aa=false→P=P∧((o 7)=(o 7)∧(x.3 7)=(x.3 7)∧[fun al=>Ci (mk z 1 0 al)]=[fun al=>Ci (mk X 1 0 al)]∧markC (x.3 7) X)∧ag∧(ac=false→ag∧(ac=false→J=J∧∀ al:Nat,al=al∧((o 8)=(o 8)∧(x.3 8)=(x.3 8)∧[fun am=>Ci (mk C 1 0 am)]=[fun am=>Ci (mk Z 1 0 am)]∧markC (x.3 8) Z)∧aj∧(af=false→aj∧(af=false→J=J∧∀ am:Nat,am=am∧((o 9)=(o 9)∧(x.3 9)=(x.3 9)∧[fun an=>Ci (mk F 1 0 an)]=[fun an=>Ci (mk ab 1 0 an)]∧markC (x.3 9) ab)∧ak∧(ah=false→ak∧(ah=false→J=J∧∃(an ao:Nat) (ap:TK) (aq:Nat→Option Addr) (ar au:Nat→Nat) (av:Nat→Option Addr) (aw ax:Nat→Nat),((symRows false 0 (CD.mk (markTK G x.7).1 (markTK G x.7).2 (markTK G x.7).3 (fun ay=>false)) uo (fun ay=>0))=(symRows false an (CD.mk ap.1 ap.2 ap.3 (fun ay=>false)) aq au)∧(symRows false 0 (CD.mk (markTK G x.7).1 (markTK G x.7).4 (markTK G x.7).5 (fun ay=>false)) vo (fun ay=>0))=(symRows false ao (CD.mk ap.1 ap.4 ap.5 (fun ay=>false)) av ax)∧[fun ay=>Cs 19 (uo ay) ((markTK G x.7).2 ay) (uc ay),fun ay=>Cs 20 (vo ay) ((markTK G x.7).4 ay) (vc ay),fun ay=>Ci ((markTK G x.7).6 ay)]=[fun ay=>Cs 19 (aq ay) (ap.2 ay) (ar ay),fun ay=>Cs 20 (av ay) (ap.4 ay) (aw ay),fun ay=>Ci (ap.6 ay)]∧(o 10)=(o 10)∧(markTK G x.7).1=(markTK G x.7).1∧(markTK G x.7).1=ap.1)∧∃ ay:TK,(fun az:Int=>(fun aA:Int=>(fun aB:Bool=>(fun aC:Int=>(fun aD:Bool=>(fun aE:Bool=>(fun aF:Prop=>(fun aG:Prop=>(ap=(markTK ad ay)∧capM ay∧mrkC ad)∧(aB=true→b=d)∧(aB=false→J=J∧((o 11)=(o 11)∧(x.3 11)=(x.3 11)∧[fun aH=>Ci (mk H 1 0 aH)]=[fun aH=>Ci (mk az 1 0 aH)]∧markC (x.3 11) az)∧aF∧(aD=false→J=J∧aF∧(aD=false→J=J∧aF∧(aD=false→J=J∧((o 14)=(o 14)∧(x.3 14)=(x.3 14)∧[fun aH=>Ci (mk I 2 0 aH),fun aH=>Ci (mk I 2 1 aH)]=[fun aH=>Ci (mk aA 2 0 aH),fun aH=>Ci (mk aA 2 1 aH)]∧markC (x.3 14) aA)∧aG∧(aE=false→J=J∧aG∧(aE=false→J=J∧aG∧(aE=false→J=J∧aG∧(aE=false→(Wi aC)=d))))))))) (aE=true→b=d)) (aD=true→b=d)) (decide (aC<(0:Int)))) (decide (aA<(0:Int)))) (mk aA 2 0 (x.3 14))) (decide (az<(0:Int)))) (mk az 1 0 (x.3 11))) (tAt ad ay ay.1)))))))))) (ah=true→b=d)) (af=true→b=d)) (decide (ad<(0:Int)))) (ac=true→b=d)) (decide (ab<(0:Int)))) (mk ab 1 0 (x.3 9))) (decide (Z<(0:Int)))) (mk Z 1 0 (x.3 8))) (decide (X<(0:Int)))) (mk X 1 0 (x.3 7))) (decide (W<(0:Int)))) (mk W 1 0 (x.3 6))) (kAt n V.2 V.1)))))))))))) (mk H 1 0 (x.3 11))) (tAt G x.7 x.7.1)) (mk F 1 0 (x.3 9))) (mk C 1 0 (x.3 8))) (w=true→b=d)) [fun D=>Cb (mkB h D),fun D=>Ci (mk h 2 1 D)]) (mk z 1 0 (x.3 7))) (p=true→b=d)) (mk u 1 0 (x.3 6))) (m=true→b=d)) (decide (n<(0:Int)))) (kAt n x.6.2 x.6.1)) (j=true→b=d)) (markCD n x.6)) [fun r=>Ci (mk l 1 0 r)]) (decide (l<(0:Int)))) (mk l 1 0 (x.3 3))) (decide (h<(0:Int)))) (mk h 2 0 (x.3 2))) [fun k=>Ci (mk g 1 0 k)]) (decide (g<(0:Int)))) (mk g 1 0 (x.3 1))) (mk k0 1 0 (x.3 0))) (Wi (endCt k0 x))) (Wi (-1))):=by kernel_rfl
theorem heldCt_any (x:CtD)(o:Nat→Option Addr)(q:Nat→Nat)(so:Nat→Option Addr)(sc:Nat→Nat)(uo:Nat→Option Addr)(uc:Nat→Nat)(vo:Nat→Option Addr)(vc:Nat→Nat)(k0:Int)(w:World)(hA:∀ c∈ctR 0 (markCt k0 x) o q so sc uo uc vo vc,c.own=false∧c.sat w)(h1:nilX x)(h2:nilO o q)(hcap:capN x)(hk0:k1C k0):Calls Tryz.prog 13 #[ctV (markCt k0 x) o q,.int .i64 k0] w fun e w'=>e=.returned (.int .i64 (endCt k0 x))∧Below w.heap.size w w':=by
 rw [← ctSN_den (k:=0) (x:=markCt k0 x) h1 h2]
 refine fnB (tb:=[(76,sHeldPolicyBoxJ),(77,sHeldRankJ),(78,sHeldReadyJ),(79,sHeldArrayJ),(80,sHeldSpareJ),(81,sHeldRefreshJ),(82,sHeldTs),(83,sHeldIntZ),(86,sHeldShareS),(84,sHeldAddrJ),(85,sHeldRequestJ),(87,sHeldErrorEntryJ),(88,sHeldEventJ),(89,sHeldReplyJ)]) ⟨sHeldPolicyBoxJ_ok,sHeldRankJ_ok,sHeldReadyJ_ok,sHeldArrayJ_ok,sHeldSpareJ_ok,sHeldRefreshJ_ok,sHeldTs_ok,sHeldIntZ_ok,sHeldShareS_ok,sHeldAddrJ_ok,sHeldRequestJ_ok,sHeldErrorEntryJ_ok,sHeldEventJ_ok,sHeldReplyJ_ok,trivial⟩ Tryz.func13 (@Eq.mpr _ _ (heldCt_T x o q so sc uo uc vo vc k0) ?_) (HS.seenAll (fun _=>False) _ hA) (fun v ch' w' hv hs=>⟨by rw [hv],hs.below⟩)
 dsimp -zeta -proj -iota -eta -failIfUnchanged (etaStruct:=.none) only
 clear hA
 obtain ⟨⟨hn,hc,ht⟩,hm⟩:=hcap
 have hc1:totN x.c.sn x.c.n≤2097152:=hc
 have hm1:totN (tSn x.t) x.t.n≤2097152:=hm
 have n0:x.n 0≤2097152:=hn.1
 have n1:x.n 1≤2097152:=hn.2.1
 have n2:x.n 2≤2097152:=hn.2.2.1
 have n3:x.n 3≤2097152:=hn.2.2.2.1
 have n4:x.n 4≤2097152:=hn.2.2.2.2.1
 have n6:x.n 6≤2097152:=hn.2.2.2.2.2.1
 have n7:x.n 7≤2097152:=hn.2.2.2.2.2.2.1
 have n8:x.n 8≤2097152:=hn.2.2.2.2.2.2.2.1
 have n9:x.n 9≤2097152:=hn.2.2.2.2.2.2.2.2.1
 have n11:x.n 11≤2097152:=hn.2.2.2.2.2.2.2.2.2.1
 have n12:x.n 12≤2097152:=hn.2.2.2.2.2.2.2.2.2.2.1
 have n13:x.n 13≤2097152:=hn.2.2.2.2.2.2.2.2.2.2.2.1
 have n14:x.n 14≤2097152:=hn.2.2.2.2.2.2.2.2.2.2.2.2.1
 have n15:x.n 15≤2097152:=hn.2.2.2.2.2.2.2.2.2.2.2.2.2.1
 have n16:x.n 16≤2097152:=hn.2.2.2.2.2.2.2.2.2.2.2.2.2.2.1
 have n17:x.n 17≤2097152:=hn.2.2.2.2.2.2.2.2.2.2.2.2.2.2.2
 clear hn
 have hb0:0≤k0∧k0≤1000000:=hk0
 have hb1:0≤mk (k0) 1 0 (x.n 0)∧mk (k0) 1 0 (x.n 0)≤5194304:=by exact mk_in hb0 (by omega)
 have hm0:markC (x.n 0) (k0):=⟨n0,hb0.1,by omega⟩
 have hb2:0≤mk (mk (k0) 1 0 (x.n 0)) 1 0 (x.n 1)∧mk (mk (k0) 1 0 (x.n 0)) 1 0 (x.n 1)≤9388608:=by exact mk_in hb1 (by omega)
 have hm1:markC (x.n 1) (mk (k0) 1 0 (x.n 0)):=⟨n1,hb1.1,by omega⟩
 have hb3:0≤mk (mk (mk (k0) 1 0 (x.n 0)) 1 0 (x.n 1)) 2 0 (x.n 2)∧mk (mk (mk (k0) 1 0 (x.n 0)) 1 0 (x.n 1)) 2 0 (x.n 2)≤13582912:=by exact mk_in hb2 (by omega)
 have hm2:markC (x.n 2) (mk (mk (k0) 1 0 (x.n 0)) 1 0 (x.n 1)):=⟨n2,hb2.1,by omega⟩
 have hb4:0≤mk (mk (mk (mk (k0) 1 0 (x.n 0)) 1 0 (x.n 1)) 2 0 (x.n 2)) 1 0 (x.n 3)∧mk (mk (mk (mk (k0) 1 0 (x.n 0)) 1 0 (x.n 1)) 2 0 (x.n 2)) 1 0 (x.n 3)≤17777216:=by exact mk_in hb3 (by omega)
 have hm3:markC (x.n 3) (mk (mk (mk (k0) 1 0 (x.n 0)) 1 0 (x.n 1)) 2 0 (x.n 2)):=⟨n3,hb3.1,by omega⟩
 have hb5:0≤kAt (mk (mk (mk (mk (k0) 1 0 (x.n 0)) 1 0 (x.n 1)) 2 0 (x.n 2)) 1 0 (x.n 3)) x.c.sn x.c.n∧kAt (mk (mk (mk (mk (k0) 1 0 (x.n 0)) 1 0 (x.n 1)) 2 0 (x.n 2)) 1 0 (x.n 3)) x.c.sn x.c.n≤21971520:=by exact kAt_up hb4 (by omega)
 have hk5:mrkC (mk (mk (mk (mk (k0) 1 0 (x.n 0)) 1 0 (x.n 1)) 2 0 (x.n 2)) 1 0 (x.n 3)):=⟨hb4.1,by omega⟩
 have hb6:0≤mk (kAt (mk (mk (mk (mk (k0) 1 0 (x.n 0)) 1 0 (x.n 1)) 2 0 (x.n 2)) 1 0 (x.n 3)) x.c.sn x.c.n) 1 0 (x.n 6)∧mk (kAt (mk (mk (mk (mk (k0) 1 0 (x.n 0)) 1 0 (x.n 1)) 2 0 (x.n 2)) 1 0 (x.n 3)) x.c.sn x.c.n) 1 0 (x.n 6)≤26165824:=by exact mk_in hb5 (by omega)
 have hm6:markC (x.n 6) (kAt (mk (mk (mk (mk (k0) 1 0 (x.n 0)) 1 0 (x.n 1)) 2 0 (x.n 2)) 1 0 (x.n 3)) x.c.sn x.c.n):=⟨n6,hb5.1,by omega⟩
 have hb7:0≤mk (mk (kAt (mk (mk (mk (mk (k0) 1 0 (x.n 0)) 1 0 (x.n 1)) 2 0 (x.n 2)) 1 0 (x.n 3)) x.c.sn x.c.n) 1 0 (x.n 6)) 1 0 (x.n 7)∧mk (mk (kAt (mk (mk (mk (mk (k0) 1 0 (x.n 0)) 1 0 (x.n 1)) 2 0 (x.n 2)) 1 0 (x.n 3)) x.c.sn x.c.n) 1 0 (x.n 6)) 1 0 (x.n 7)≤30360128:=by exact mk_in hb6 (by omega)
 have hm7:markC (x.n 7) (mk (kAt (mk (mk (mk (mk (k0) 1 0 (x.n 0)) 1 0 (x.n 1)) 2 0 (x.n 2)) 1 0 (x.n 3)) x.c.sn x.c.n) 1 0 (x.n 6)):=⟨n7,hb6.1,by omega⟩
 have hb8:0≤mk (mk (mk (kAt (mk (mk (mk (mk (k0) 1 0 (x.n 0)) 1 0 (x.n 1)) 2 0 (x.n 2)) 1 0 (x.n 3)) x.c.sn x.c.n) 1 0 (x.n 6)) 1 0 (x.n 7)) 1 0 (x.n 8)∧mk (mk (mk (kAt (mk (mk (mk (mk (k0) 1 0 (x.n 0)) 1 0 (x.n 1)) 2 0 (x.n 2)) 1 0 (x.n 3)) x.c.sn x.c.n) 1 0 (x.n 6)) 1 0 (x.n 7)) 1 0 (x.n 8)≤34554432:=by exact mk_in hb7 (by omega)
 have hm8:markC (x.n 8) (mk (mk (kAt (mk (mk (mk (mk (k0) 1 0 (x.n 0)) 1 0 (x.n 1)) 2 0 (x.n 2)) 1 0 (x.n 3)) x.c.sn x.c.n) 1 0 (x.n 6)) 1 0 (x.n 7)):=⟨n8,hb7.1,by omega⟩
 have hb9:0≤mk (mk (mk (mk (kAt (mk (mk (mk (mk (k0) 1 0 (x.n 0)) 1 0 (x.n 1)) 2 0 (x.n 2)) 1 0 (x.n 3)) x.c.sn x.c.n) 1 0 (x.n 6)) 1 0 (x.n 7)) 1 0 (x.n 8)) 1 0 (x.n 9)∧mk (mk (mk (mk (kAt (mk (mk (mk (mk (k0) 1 0 (x.n 0)) 1 0 (x.n 1)) 2 0 (x.n 2)) 1 0 (x.n 3)) x.c.sn x.c.n) 1 0 (x.n 6)) 1 0 (x.n 7)) 1 0 (x.n 8)) 1 0 (x.n 9)≤38748736:=by exact mk_in hb8 (by omega)
 have hm9:markC (x.n 9) (mk (mk (mk (kAt (mk (mk (mk (mk (k0) 1 0 (x.n 0)) 1 0 (x.n 1)) 2 0 (x.n 2)) 1 0 (x.n 3)) x.c.sn x.c.n) 1 0 (x.n 6)) 1 0 (x.n 7)) 1 0 (x.n 8)):=⟨n9,hb8.1,by omega⟩
 have hb10:0≤tAt (mk (mk (mk (mk (kAt (mk (mk (mk (mk (k0) 1 0 (x.n 0)) 1 0 (x.n 1)) 2 0 (x.n 2)) 1 0 (x.n 3)) x.c.sn x.c.n) 1 0 (x.n 6)) 1 0 (x.n 7)) 1 0 (x.n 8)) 1 0 (x.n 9)) x.t x.t.n∧tAt (mk (mk (mk (mk (kAt (mk (mk (mk (mk (k0) 1 0 (x.n 0)) 1 0 (x.n 1)) 2 0 (x.n 2)) 1 0 (x.n 3)) x.c.sn x.c.n) 1 0 (x.n 6)) 1 0 (x.n 7)) 1 0 (x.n 8)) 1 0 (x.n 9)) x.t x.t.n≤42943040:=by exact tAt_up hb9 (by omega)
 have hk10:mrkC (mk (mk (mk (mk (kAt (mk (mk (mk (mk (k0) 1 0 (x.n 0)) 1 0 (x.n 1)) 2 0 (x.n 2)) 1 0 (x.n 3)) x.c.sn x.c.n) 1 0 (x.n 6)) 1 0 (x.n 7)) 1 0 (x.n 8)) 1 0 (x.n 9)):=⟨hb9.1,by omega⟩
 have hb11:0≤mk (tAt (mk (mk (mk (mk (kAt (mk (mk (mk (mk (k0) 1 0 (x.n 0)) 1 0 (x.n 1)) 2 0 (x.n 2)) 1 0 (x.n 3)) x.c.sn x.c.n) 1 0 (x.n 6)) 1 0 (x.n 7)) 1 0 (x.n 8)) 1 0 (x.n 9)) x.t x.t.n) 1 0 (x.n 11)∧mk (tAt (mk (mk (mk (mk (kAt (mk (mk (mk (mk (k0) 1 0 (x.n 0)) 1 0 (x.n 1)) 2 0 (x.n 2)) 1 0 (x.n 3)) x.c.sn x.c.n) 1 0 (x.n 6)) 1 0 (x.n 7)) 1 0 (x.n 8)) 1 0 (x.n 9)) x.t x.t.n) 1 0 (x.n 11)≤47137344:=by exact mk_in hb10 (by omega)
 have hm11:markC (x.n 11) (tAt (mk (mk (mk (mk (kAt (mk (mk (mk (mk (k0) 1 0 (x.n 0)) 1 0 (x.n 1)) 2 0 (x.n 2)) 1 0 (x.n 3)) x.c.sn x.c.n) 1 0 (x.n 6)) 1 0 (x.n 7)) 1 0 (x.n 8)) 1 0 (x.n 9)) x.t x.t.n):=⟨n11,hb10.1,by omega⟩
 have hb12:0≤mk (mk (tAt (mk (mk (mk (mk (kAt (mk (mk (mk (mk (k0) 1 0 (x.n 0)) 1 0 (x.n 1)) 2 0 (x.n 2)) 1 0 (x.n 3)) x.c.sn x.c.n) 1 0 (x.n 6)) 1 0 (x.n 7)) 1 0 (x.n 8)) 1 0 (x.n 9)) x.t x.t.n) 1 0 (x.n 11)) 2 0 (x.n 14)∧mk (mk (tAt (mk (mk (mk (mk (kAt (mk (mk (mk (mk (k0) 1 0 (x.n 0)) 1 0 (x.n 1)) 2 0 (x.n 2)) 1 0 (x.n 3)) x.c.sn x.c.n) 1 0 (x.n 6)) 1 0 (x.n 7)) 1 0 (x.n 8)) 1 0 (x.n 9)) x.t x.t.n) 1 0 (x.n 11)) 2 0 (x.n 14)≤51331648:=by exact mk_in hb11 (by omega)
 have hm14:markC (x.n 14) (mk (tAt (mk (mk (mk (mk (kAt (mk (mk (mk (mk (k0) 1 0 (x.n 0)) 1 0 (x.n 1)) 2 0 (x.n 2)) 1 0 (x.n 3)) x.c.sn x.c.n) 1 0 (x.n 6)) 1 0 (x.n 7)) 1 0 (x.n 8)) 1 0 (x.n 9)) x.t x.t.n) 1 0 (x.n 11)):=⟨n14,hb11.1,by omega⟩
 repeat' (first
  | with_reducible exact rfl
  | with_reducible assumption
  | (refine ⟨x.c,⟨rfl,hc,?_⟩,?_⟩)
  | (refine ⟨x.t,⟨rfl,hm,?_⟩,?_⟩)
  | refine And.intro ?_ ?_
  | apply Exists.intro
  | (intro h;exfalso;replace h:=of_decide_eq_true h;omega)
  | intro _
  | exact True.intro
  | exact rfl)
end Go.Proofs.YtbhfabaofhhkeaaGreat

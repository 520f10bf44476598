/-
  FnExactControllerNew: a part of the walk (merged and squeezed by program: Sx10 Sx11 Sx12 Sx13 Sx14 Sx15 SxP Sx16 SxNest SxO SxPack).
-/
import Derived.LoopN
import Derived.Test.YtbhfabaofhhkeaaGreatProg
import Derived.Test.YtbhfabaofhhkeaaGreatZaa
namespace Go.Proofs.YtbhfabaofhhkeaaGreat
set_option linter.unusedVariables false
set_option linter.unusedSimpArgs false
open Go.RowKit
def putT (ts:List SV)(d:Option Tmp)(v:SV):List SV :=
 match d with
 | some d=>ts.set d v
 | none=>ts
theorem Ts.put {ts:List SV}{a:Act}(h:Ts ts a)(d:Option Tmp)(v:SV):Ts (putT ts d v) (a.put d v.den):=by
 cases d with
 | none=>exact h
 | some d =>
  show (a.tmps.setIfInBounds d v.den)=((ts.set d v).map SV.den).toArray
  rw [show a.tmps=_ from h]
  simp [List.map_set]
theorem put_defers {a:Act}(h:a.defers=[])(d:Option Tmp)(v:Value):(a.put d v).defers=[]:=by
 cases d <;> exact h
def litT (ts:List SV)(d:Nat)(b:Bool):List SV:=ts.set d (.a (.c (.lit b)))
theorem Ts.lit {ts:List SV}{a:Act}(h:Ts ts a){d:Nat}{b:Bool}(hd:ts[d]?=some (.a (.c (.bool b)))):Ts (litT ts d b) a:=by
 show a.tmps=_
 rw [show a.tmps=_ from h]
 congr 1
 apply List.ext_getElem?
 intro i
 simp only [litT,List.getElem?_map,List.getElem?_set]
 split
 ·rename_i e
  subst e
  split <;> first | (rw [hd];rfl) | (rw [List.getElem?_eq_none (by omega)];done) | (rw [List.getElem?_eq_none (by omega)];rfl)
 ·rfl
inductive Gd where
 | run
 | skip
 | ask (d:Nat) (b want:Bool)
 | bad
def same:Bool→Bool→Gd
 | true,true=>.run
 | false,false=>.run
 | _,_=>.skip
def guardOf (all:List Oper)(ts:List SV):Option (Nat × Bool)→Gd
 | none=>.run
 | some (j,want) =>
  match all[j]? with
  | some oj =>
   match oj.dst with
   | some d =>
    match ts[d]? with
    | some (.a (.c (.lit b)))=>same b want
    | some (.a (.c (.bool b)))=>.ask d b want
    | some (.a (.c (.val _)))=>.bad
    | some (.a (.c (.obj _ _)))=>.bad
    | _=>.skip
   | none=>.skip
  | none=>.skip
theorem yielded_eq {all:List Oper}{ts:List SV}{a:Act}(h:Ts ts a){j d:Nat}{oj:Oper}(hj:all[j]?=some oj)(hd:oj.dst=some d) :
  yielded all.toArray a.tmps j=match (ts[d]?).map SV.den with | some (.bool b)=>some b | _=>none:=by
 unfold yielded
 rw [show a.tmps=_ from h]
 simp only [List.getElem?_toArray,hj,Option.bind_some,hd,List.getElem?_map]
 cases Option.map SV.den ts[d]? with
 | none=>rfl
 | some v=>cases v <;> rfl
theorem guard_run {all:List Oper}{ts:List SV}{a:Act}(h:Ts ts a){o:Oper}(hg:guardOf all ts o.guard=.run):Region.wanted o (yielded all.toArray a.tmps)=true:=by
 unfold Region.wanted
 unfold guardOf at hg
 split at hg
 ·rename_i e;rw [e]
 ·rename_i j want e
  rw [e]
  simp only
  split at hg
  ·rename_i oj hj
   split at hg
   ·rename_i d hd
    rw [yielded_eq h hj hd]
    split at hg
    ·rename_i b hb
     rw [hb]
     cases b <;> cases want <;> first | rfl | cases hg
    ·cases hg
    ·cases hg
    ·cases hg
    ·cases hg
   ·cases hg
  ·cases hg
theorem guard_skip {all:List Oper}{ts:List SV}{a:Act}(h:Ts ts a){o:Oper}(hg:guardOf all ts o.guard=.skip):Region.wanted o (yielded all.toArray a.tmps)=false:=by
 unfold Region.wanted
 unfold guardOf at hg
 split at hg
 ·cases hg
 ·rename_i j want e
  rw [e]
  simp only
  split at hg
  ·rename_i oj hj
   split at hg
   ·rename_i d hd
    rw [yielded_eq h hj hd]
    split at hg
    ·rename_i b hb
     rw [hb]
     cases b <;> cases want <;> first | rfl | cases hg
    ·cases hg
    ·cases hg
    ·cases hg
    ·rename_i h1 h2 h3 h4
     cases hs:ts[d]? with
     | none=>rfl
     | some v =>
      simp only [Option.map_some]
      cases v with
      | a x =>
       cases x with
       | c y=>cases y <;> first | rfl | exact absurd hs (h1 _) | exact absurd hs (h2 _) | exact absurd hs (h3 _) | exact absurd hs (h4 _ _)
       | agg xs=>rfl
      | tup vs=>rfl
      | undef=>rfl
   ·rename_i hd
    simp [yielded,hj,hd]
  ·rename_i hj
   simp [yielded,hj]
theorem guard_ask {all:List Oper}{ts:List SV}{a:Act}(h:Ts ts a){o:Oper}{d:Nat}{b want:Bool}(hg:guardOf all ts o.guard=.ask d b want) :
  ts[d]?=some (.a (.c (.bool b)))∧Region.wanted o (yielded all.toArray a.tmps)=(b == want):=by
 unfold Region.wanted
 unfold guardOf at hg
 split at hg
 ·cases hg
 ·rename_i j want' e
  rw [e]
  simp only
  split at hg
  ·rename_i oj hj
   split at hg
   ·rename_i d' hd
    rw [yielded_eq h hj hd]
    split at hg
    ·rename_i b' hb
     cases b' <;> cases want' <;> cases hg
    ·rename_i b' hb
     injection hg with h1 h2 h3
     subst h1
     subst h2
     subst h3
     refine ⟨hb,?_⟩
     rw [hb]
     cases b' <;> cases want' <;> rfl
    ·cases hg
    ·cases hg
    ·cases hg
   ·cases hg
  ·cases hg
def isCalm:Op→Bool
 | .alloc _=>false
 | .box _ _=>false
 | .store _ _ _=>false
 | .makeSlice _ _ _=>false
 | .buildSlice _ _ _=>false
 | .slice _ _ _ _ _=>false
 | .call c=>match c.callee with | .builtin .len=>true | .builtin .min=>true | _=>false
 | _=>true
def exOne (P:Program)(tb:List (FuncId × Sm))(o:Oper)(ts:List SV)(ch:List Ch)(k:EK):Prop :=
 match isCalm o.op with
 | true=>exCalm P o.op ts ch fun v=>k v ch []
 | false=>exEff P tb o.op ts ch k
theorem one_ok {P:Program}{X:Cx}{tb:List (FuncId × Sm)}(hb:TbOK P tb){o:Oper}{ts:List SV}{ch:List Ch}{k:EK}(h:exOne P tb o ts ch k){a:Act}(hT:Ts ts a){w:World}(hs:HS X ch w):EffOk P X o a ch w k:=by
 unfold exOne at h
 split at h
 ·obtain ⟨v,h,hv⟩:=calm_ok h
  exact .inl ⟨v,ch,[],w,hv a hT w hs.all,hs,Agree.refl _,h⟩
 ·exact eff_ok hb h hT hs
def exOps (P:Program)(tb:List (FuncId × Sm))(all:List Oper):List Oper→List SV→List Ch→(List SV→List Ch→Prop)→Prop
 | [],ts,ch,k=>k ts ch
 | o::rest,ts,ch,k =>
  match guardOf all ts o.guard with
  | .run=>exOne P tb o ts ch fun v ch' _=>exOps P tb all rest (putT ts o.dst v) ch' k
  | .skip=>exOps P tb all rest (putT ts o.dst .undef) ch k
  | .ask d b want =>
   (b=want→exOne P tb o (litT ts d want) ch fun v ch' _=>exOps P tb all rest (putT (litT ts d want) o.dst v) ch' k) ∧
   (b=!want→exOps P tb all rest (putT (litT ts d (!want)) o.dst .undef) ch k)
  | .bad=>False
theorem ops_ok {P:Program}{X:Cx}{tb:List (FuncId × Sm)}(hb:TbOK P tb){all:List Oper}{Q:Exit→Act→World→Prop}:∀ (l:List Oper) (ts:List SV) (ch:List Ch) (k:List SV→List Ch→Prop) (a:Act) (w:World),
  exOps P tb all l ts ch k→Ts ts a→a.defers=[]→HS X ch w →
  (∀ ts' ch' a' w',k ts' ch'→Ts ts' a'→a'.defers=[]→HS X ch' w'→Q .normal a' w')→wpList P all.toArray Q l a w:=by
 intro l
 induction l with
 | nil=>intro ts ch k a w h hT hd hs hq;exact hq ts ch a w h hT hd hs
 | cons o rest ih =>
  intro ts ch k a w h hT hd hs hq
  have one:∀ {ts'},Ts ts' a→exOne P tb o ts' ch (fun v ch' _=>exOps P tb all rest (putT ts' o.dst v) ch' k)→o.wp P a w (wpList P all.toArray Q rest) Q:=fun hT' h' =>
   (one_ok hb h' hT' hs).wp fun v ch' _ w' hs' _ h2=>ih _ ch' k _ w' h2 (hT'.put _ _) (put_defers hd _ _) hs' hq
  simp only [exOps] at h
  unfold wpList
  split at h
  ·rename_i hg
   rw [if_pos (guard_run hT hg)]
   exact .inl (one hT h)
  ·rename_i hg
   rw [if_neg (by rw [guard_skip hT hg];exact Bool.false_ne_true)]
   exact ih _ ch k _ w h (hT.put _ .undef) (put_defers hd _ _) hs hq
  ·rename_i d b want hg
   obtain ⟨h1,h2⟩:=guard_ask hT hg
   by_cases e:b=want
   ·subst e
    rw [if_pos (by rw [h2];simp)]
    exact .inl (one (hT.lit h1) (h.1 rfl))
   ·have e':b=!want:=by cases b <;> cases want <;> simp_all
    subst e'
    rw [if_neg (by rw [h2];cases want <;> simp)]
    exact ih _ ch k _ w (h.2 rfl) ((hT.lit h1).put _ .undef) (put_defers hd _ _) hs hq
  ·exact h.elim
def readyL (all:List Oper)(listed:List Bool):List Nat :=
 (List.range all.length).filter fun i=>!listed.getD i true&&match all[i]? with
  | some o=>o.after.toList.all fun e=>!Region.binds .any e || listed.getD e.on false
  | none=>false
theorem readyL_eq (all:List Oper)(listed:List Bool):Region.ready .any all.toArray listed.toArray=readyL all listed:=by
 unfold Region.ready readyL
 simp only [List.size_toArray,List.getElem?_toArray,Array.getD_eq_getD_getElem?,List.getD_eq_getElem?_getD,Array.all_toList]
 congr 1
 funext i
 cases all[i]? <;> rfl
def freeL (all:List Oper)(listed:List Bool)(i:Nat):Bool :=
 match all[i]? with
 | none=>false
 | some oi=>(List.range all.length).all fun j=>Nat.beq j i || listed.getD j true || match all[j]? with
  | some oj=>oj.after.toList.any (fun e=>Region.binds .any e&&Nat.beq e.on i) || oi.apart all.toArray oj
  | none=>true
theorem freeL_eq (all:List Oper)(listed:List Bool)(i:Nat):Region.free .any all.toArray listed.toArray i=freeL all listed i:=by
 unfold Region.free freeL
 simp only [List.size_toArray,List.getElem?_toArray,Array.getD_eq_getD_getElem?,List.getD_eq_getElem?_getD,Array.any_toList]
 have hb:∀ m n:Nat,Nat.beq m n=(m == n):=fun m n=>by rw [Bool.eq_iff_iff,Nat.beq_eq];simp
 simp only [hb]
 cases all[i]? <;> rfl
def noSelL (all:List Oper):Bool:=all.all fun o=>match o.op with | .select ..=>false | _=>true
theorem noSelL_eq (all:List Oper):Region.noSelect all.toArray=noSelL all:=by
 unfold Region.noSelect noSelL
 simp only [List.all_toArray]
 congr 1
def maskFrom (D:List Nat):Nat→List Ch→List Ch
 | _,[]=>[]
 | i,c::r=>(match D.any (Nat.beq i) with | true=>.dead | false=>c)::maskFrom D (i+1) r
def mask (D:List Nat)(ch:List Ch):List Ch :=
 match D with
 | []=>ch
 | D=>maskFrom D 0 ch
theorem maskFrom_get (D:List Nat):∀ (ch:List Ch) (i j:Nat) (c:Ch),(maskFrom D i ch)[j]?=some c→c=.dead∨(ch[j]?=some c∧D.any (Nat.beq (i+j))=false):=by
 intro ch
 induction ch with
 | nil=>intro i j c h;simp [maskFrom] at h
 | cons d r ih =>
  intro i j c h
  cases j with
  | zero =>
   simp only [maskFrom,List.getElem?_cons_zero,Option.some.injEq] at h
   split at h
   ·exact .inl h.symm
   ·rename_i hf;exact .inr ⟨by simp [h],hf⟩
  | succ j =>
   simp only [maskFrom,List.getElem?_cons_succ] at h
   rcases ih (i+1) j c h with h | ⟨h1,h2⟩
   ·exact .inl h
   ·exact .inr ⟨by simpa using h1,by rw [show i+(j+1)=i+1+j by omega];exact h2⟩
theorem mask_get {D:List Nat}{ch:List Ch}{j:Nat}{c:Ch}(h:(mask D ch)[j]?=some c):c=.dead∨(ch[j]?=some c∧D.any (Nat.beq j)=false):=by
 unfold mask at h
 split at h
 ·exact .inr ⟨h,rfl⟩
 ·have:=maskFrom_get D ch 0 j c h
  rwa [Nat.zero_add] at this
def Leans (ch0 ch:List Ch)(D:List Nat):Prop:=∀ (i:Nat) (c:Ch),ch0[i]?=some c→c=.dead∨(ch[i]?=some c∧D.any (Nat.beq i)=false)
theorem Leans.sat {ch0 ch:List Ch}{D:List Nat}(h:Leans ch0 ch D){X:Cx}{w:World}(hs:HS X ch w):Sat ch0 w:=fun i c hc=>by
 rcases h i c hc with rfl | ⟨h1,_⟩
 ·trivial
 ·exact hs.sat i c h1
def modsOk (D:List Nat)(n0:Nat)(mods:List Nat):Bool:=mods.all fun m=>D.any (Nat.beq m) || Nat.ble n0 m
def okMods (D:List Nat)(ch0 ch':List Ch)(mods:List Nat):Prop :=
 match modsOk D ch0.length mods with
 | true=>True
 | false=>mask D (ch'.take ch0.length)=ch0
theorem Leans.step {ch0 ch ch':List Ch}{D mods:List Nat}(h:Leans ch0 ch D)(ha:Agree ch ch' mods)(hm:modsOk D ch0.length mods=true):Leans ch0 ch' D:=fun i c hc=>by
 rcases h i c hc with rfl | ⟨h1,h2⟩
 ·exact .inl rfl
 ·refine .inr ⟨ha i c h1 (fun hi=>?_),h2⟩
  have:=List.all_eq_true.1 hm i hi
  rw [h2,Bool.false_or] at this
  have h3:=Nat.le_of_ble_eq_true this
  have h4:=(List.getElem?_eq_some_iff.1 hc).1
  omega
theorem Leans.next {ch0 ch ch':List Ch}{D mods:List Nat}(h:Leans ch0 ch D)(ha:Agree ch ch' mods)(hm:okMods D ch0 ch' mods):Leans ch0 ch' D:=by
 unfold okMods at hm
 split at hm
 ·rename_i e;exact h.step ha e
 ·intro i c hc
  have hc':=hc
  rw [← hm] at hc'
  rcases mask_get hc' with h1 | ⟨h1,h2⟩
  ·exact .inl h1
  ·refine .inr ⟨?_,h2⟩
   have hi:=(List.getElem?_eq_some_iff.1 hc).1
   rwa [List.getElem?_take_of_lt hi] at h1
def allOf (f:Nat→Prop):List Nat→Prop
 | []=>True
 | [i]=>f i
 | i::r=>f i∧allOf f r
theorem allOf_mem {f:Nat→Prop}:∀ {l:List Nat},allOf f l→∀ i∈l,f i:=by
 intro l
 induction l with
 | nil=>intro _ i hi;cases hi
 | cons j r ih =>
  intro h i hi
  cases r with
  | nil=>simp at hi;subst hi;exact h
  | cons k r =>
   rcases List.mem_cons.1 hi with rfl | hi
   ·exact h.1
   ·exact ih h.2 i hi
section
variable {P:Program} {ops:Array Oper} {Q:Exit→Act→World→Prop} {md:Region.Mode} {S:World→Prop} {N:Nat→Bool}
def wpAnyG (P:Program)(md:Region.Mode)(ops:Array Oper)(Q:Exit→Act→World→Prop)(S:World→Prop)(N:Nat→Bool):Nat→Array Bool→Act→World→Prop
 | 0,listed,a,w=>Region.ready md ops listed=[]∧Q .normal a w
 | fuel+1,listed,a,w =>
  (Region.ready md ops listed=[]→Q .normal a w) ∧
  ∀ i∈Region.ready md ops listed,wpOp P ops Q i (fun a' w'=>(N i=true∧wpAny P md ops Q fuel (listed.setIfInBounds i true) a' w')∨(S w'∧wpAnyG P md ops Q S N fuel (listed.setIfInBounds i true) a' w')) a w
theorem wpAny_of_G:∀ (fuel:Nat) (listed:Array Bool) (a:Act) (w:World),wpAnyG P md ops Q S N fuel listed a w→wpAny P md ops Q fuel listed a w
 | 0,_,_,_,h=>h
 | fuel+1,_,_,_,h=>⟨h.1,fun i hi=>wpOp_mono (fun a' w' h'=>h'.elim (fun h''=>h''.2) fun h''=>wpAny_of_G fuel _ a' w' h''.2) (h.2 i hi)⟩
theorem wpAnyG_first {i:Nat}{oi:Oper}{v:Value}(hi:ops[i]?=some oi)(hsel:∀ (j:Nat) (o:Oper) cs b,ops[j]?=some o→o.op ≠ .select cs b)
  (hQ:∀ c a w,Q (.panic c) (a.put oi.dst v) w→Q (.panic c) a w)
  (hN:∀ (j:Nat) (oj:Oper),ops[j]?=some oj→N j=true→j ≠ i→∃ e∈oj.after,Region.binds md e=true∧e.on=i) :
  ∀ (fuel:Nat) (listed:Array Bool) (a:Act) (w:World),
   (∀ j oj,ops[j]?=some oj→j ≠ i→listed.getD j true=false→(∀ e∈oj.after,Region.binds md e=true→e.on ≠ i)→oi.apart ops oj=true) →
   i∈Region.ready md ops listed→YieldsIf P ops S oi v a→S w →
   wpAnyG P md ops Q S N fuel (listed.setIfInBounds i true) (a.put oi.dst v) w→wpAnyG P md ops Q S N (fuel+1) listed a w:=by
 intro fuel
 induction fuel with
 | zero =>
  intro listed a w _ hr hy hS H
  refine ⟨fun h=>(by rw [h] at hr;cases hr),fun j hj=>?_⟩
  by_cases hji:j=i
  ·subst hji;exact hy.wpOp hi hS (.inr ⟨hS,H⟩)
  ·have:=ready_mono hj hji
   rw [H.1] at this
   cases this
 | succ fuel ih =>
  intro listed a w hfree hr hy hS H
  refine ⟨fun h=>(by rw [h] at hr;cases hr),fun j hj=>?_⟩
  by_cases hji:j=i
  ·subst hji;exact hy.wpOp hi hS (.inr ⟨hS,H⟩)
  ·have h1:=H.2 j (ready_mono hj hji)
   obtain ⟨hjun,oj,hoj,hall⟩:=mem_ready.1 hj
   have hnot:∀ e∈oj.after,Region.binds md e=true→e.on ≠ i:=fun e he hb heq=>by
    have h1:=hall e he hb
    have h0:=(mem_ready.1 hr).1
    rw [heq] at h1
    rcases Nat.lt_or_ge i listed.size with h' | h'
    ·simp [h'] at h0 h1;rw [h0] at h1;cases h1
    ·simp [Array.getElem?_eq_none h'] at h1
   have h2:=wpOp_putIf hoj (hfree j oj hoj hji hjun hnot) (fun cs b=>hsel i oi cs b hi) (fun cs b=>hsel j oj cs b hoj) hQ hy h1
   have hfree':∀ k ok,ops[k]?=some ok→k ≠ i→(listed.setIfInBounds j true).getD k true=false →
     (∀ e∈ok.after,Region.binds md e=true→e.on ≠ i)→oi.apart ops ok=true:=fun k ok hk hki hun hno=>by
    refine hfree k ok hk hki ?_ hno
    by_cases hjk:j=k
    ·subst hjk;exact hjun
    ·rw [getD_set_ne true hjk] at hun;exact hun
   refine wpOp_mono (fun a' w' h3=>?_) h2
   rcases h3.2 with ⟨hn,_⟩ | ⟨hS',h4⟩
   ·obtain ⟨e,he,hb,heq⟩:=hN j oj hoj hn hji
    exact absurd heq (hnot e he hb)
   ·refine .inr ⟨hS',ih (listed.setIfInBounds j true) a' w' hfree' (ready_mono hr (Ne.symm hji)) h3.1 hS' ?_⟩
    rw [Array.setIfInBounds_comm _ _ hji]
    exact h4
theorem wpAnyG_pure {i:Nat}{oi:Oper}{v:Value}(hi:ops[i]?=some oi)(hsel:∀ (j:Nat) (o:Oper) cs b,ops[j]?=some o→o.op ≠ .select cs b)
  (hQ:∀ c a w,Q (.panic c) (a.put oi.dst v) w→Q (.panic c) a w) :
  ∀ (fuel:Nat) (listed:Array Bool) (a:Act) (w:World),
   (∀ j oj,ops[j]?=some oj→j ≠ i→listed.getD j true=false→(∀ e∈oj.after,Region.binds md e=true→e.on ≠ i)→oi.apart ops oj=true) →
   i∈Region.ready md ops listed→Yields P ops oi v a→S w →
   wpAnyG P md ops Q S N fuel (listed.setIfInBounds i true) (a.put oi.dst v) w→wpAnyG P md ops Q S N (fuel+1) listed a w:=by
 intro fuel
 induction fuel with
 | zero =>
  intro listed a w _ hr hy hS H
  refine ⟨fun h=>(by rw [h] at hr;cases hr),fun j hj=>?_⟩
  by_cases hji:j=i
  ·subst hji;exact hy.wpOp hi (.inr ⟨hS,H⟩)
  ·have:=ready_mono hj hji
   rw [H.1] at this
   cases this
 | succ fuel ih =>
  intro listed a w hfree hr hy hS H
  refine ⟨fun h=>(by rw [h] at hr;cases hr),fun j hj=>?_⟩
  by_cases hji:j=i
  ·subst hji;exact hy.wpOp hi (.inr ⟨hS,H⟩)
  ·have h1:=H.2 j (ready_mono hj hji)
   obtain ⟨hjun,oj,hoj,hall⟩:=mem_ready.1 hj
   have hnot:∀ e∈oj.after,Region.binds md e=true→e.on ≠ i:=fun e he hb heq=>by
    have h1:=hall e he hb
    have h0:=(mem_ready.1 hr).1
    rw [heq] at h1
    rcases Nat.lt_or_ge i listed.size with h' | h'
    ·simp [h'] at h0 h1;rw [h0] at h1;cases h1
    ·simp [Array.getElem?_eq_none h'] at h1
   have h2:=wpOp_put hoj (hfree j oj hoj hji hjun hnot) (fun cs b=>hsel i oi cs b hi) (fun cs b=>hsel j oj cs b hoj) hQ hy h1
   have hfree':∀ k ok,ops[k]?=some ok→k ≠ i→(listed.setIfInBounds j true).getD k true=false →
     (∀ e∈ok.after,Region.binds md e=true→e.on ≠ i)→oi.apart ops ok=true:=fun k ok hk hki hun hno=>by
    refine hfree k ok hk hki ?_ hno
    by_cases hjk:j=k
    ·subst hjk;exact hjun
    ·rw [getD_set_ne true hjk] at hun;exact hun
   refine wpOp_mono (fun a' w' h3=>?_) h2
   rcases h3.2 with ⟨hn,h4⟩ | ⟨hS',h4⟩
   ·refine .inl ⟨hn,wpAny_first hi hsel hQ fuel _ a' w' hfree' (ready_mono hr (Ne.symm hji)) h3.1 ?_⟩
    rw [Array.setIfInBounds_comm _ _ hji]
    exact h4
   ·refine .inr ⟨hS',ih (listed.setIfInBounds j true) a' w' hfree' (ready_mono hr (Ne.symm hji)) h3.1 hS' ?_⟩
    rw [Array.setIfInBounds_comm _ _ hji]
    exact h4
theorem wpAnyG_all {rs:List Nat}{fuel:Nat}{listed:Array Bool}{a:Act}{w:World}(hr:Region.ready md ops listed=rs)(hne:rs ≠ [])
  (h:∀ i∈rs,wpOp P ops Q i (fun a' w'=>(N i=true∧wpAny P md ops Q fuel (listed.setIfInBounds i true) a' w')∨(S w'∧wpAnyG P md ops Q S N fuel (listed.setIfInBounds i true) a' w')) a w):wpAnyG P md ops Q S N (fuel+1) listed a w :=
 ⟨fun h0=>absurd (hr ▸ h0) hne,hr ▸ h⟩
theorem wpAnyG_done {listed:Array Bool}{a:Act}{w:World}(hr:Region.ready md ops listed=[])(h:Q .normal a w) :
  ∀ fuel,wpAnyG P md ops Q S N fuel listed a w
 | 0=>⟨hr,h⟩
 | _+1=>⟨fun _=>h,by rw [hr];simp⟩
end
def waitsB (all:List Oper)(j:Nat):Bool :=
 match all[j]? with
 | none=>false
 | some oj=>(List.range all.length).all fun i=>Nat.beq i j || match all[i]? with
  | some oi=>!isLoad oi.op || oj.after.toList.any (fun e=>Region.binds .any e&&Nat.beq e.on i)
  | none=>true
theorem waitsB_ok {all:List Oper}{j i:Nat}{oi:Oper}(hi:all[i]?=some oi)(hl:isLoad oi.op=true)(j':Nat)(oj:Oper)(hj:all.toArray[j']?=some oj)(h:waitsB all j'=true)(hne:j' ≠ i) :
  ∃ e∈oj.after,Region.binds .any e=true∧e.on=i:=by
 simp only [List.getElem?_toArray] at hj
 unfold waitsB at h
 simp only [hj,List.all_eq_true,List.mem_range] at h
 have h1:=h i (List.getElem?_eq_some_iff.1 hi).1
 simp only [hi,hl,Bool.not_true,Bool.false_or,Bool.or_eq_true,Nat.beq_eq] at h1
 rcases h1 with h1 | h1
 ·exact absurd h1.symm hne
 ·obtain ⟨e,he,hb⟩:=List.any_eq_true.1 h1
  simp only [Bool.and_eq_true,Nat.beq_eq] at hb
  exact ⟨e,by simpa using he,hb.1,hb.2⟩
def calmCh (c0:Option (List Ch))(ch:List Ch)(o:Op):List Ch :=
 match isLoad o,c0 with
 | true,some c=>c
 | _,_=>ch
def liveC (c:List Ch)(id:Nat):Bool :=
 match c[id]? with
 | some .dead=>false
 | some _=>true
 | none=>false
def mayLean (c0:Option (List Ch))(x:SV):Bool :=
 match c0 with
 | none=>false
 | some c =>
  match x with
  | .a (.c (.ptr id _ _))=>liveC c id
  | .a (.c (.rptr id _ _ _ _))=>liveC c id
  | .a (.c (.sl id _ _ _))=>liveC c id
  | .a (.c (.slc id _ _ _))=>liveC c id
  | _=>true
def mayPick (c0:Option (List Ch))(ts:List SV)(o:Op):Bool :=
 match o with
 | .load _ x=>mayLean c0 (ev ts x)
 | _=>true
def pickC (c0:Option (List Ch))(all:List Oper)(ts:List SV)(listed:List Bool):List Nat→Option (Nat × Oper)
 | []=>none
 | i::r =>
  match all[i]? with
  | some o =>
   match freeL all listed i,isCalm o.op,guardOf all ts o.guard with
   | true,_,.skip=>some (i,o)
   | true,true,_ =>
    match mayPick c0 ts o.op with
    | true=>some (i,o)
    | false=>pickC c0 all ts listed r
   | _,_,_=>pickC c0 all ts listed r
  | none=>pickC c0 all ts listed r
theorem pickC_load {all:List Oper}{ts:List SV}{listed:List Bool}{i:Nat}{o:Oper}:∀ {rs:List Nat},pickC none all ts listed rs=some (i,o)→guardOf all ts o.guard=.skip∨isLoad o.op=false:=by
 intro rs
 induction rs with
 | nil=>intro h;cases h
 | cons j r ih =>
  intro h
  simp only [pickC] at h
  split at h
  ·rename_i o' ho
   split at h
   ·rename_i hg
    injection h with h
    injection h with h1 h2
    subst h2
    exact .inl hg
   ·split at h
    ·rename_i hm
     injection h with h
     injection h with h1 h2
     subst h2
     refine .inr ?_
     unfold isLoad
     split
     ·rename_i e
      rw [e] at hm
      simp [mayPick,mayLean] at hm
     ·rfl
    ·exact ih h
   ·exact ih h
  ·exact ih h
theorem pickC_ok {c0:Option (List Ch)}{all:List Oper}{ts:List SV}{listed:List Bool}{i:Nat}{o:Oper}:∀ {rs:List Nat},pickC c0 all ts listed rs=some (i,o)→i∈rs∧all[i]?=some o∧freeL all listed i=true:=by
 intro rs
 induction rs with
 | nil=>intro h;cases h
 | cons j r ih =>
  intro h
  simp only [pickC] at h
  split at h
  ·rename_i o' ho
   split at h
   ·injection h with h
    injection h with h1 h2
    subst h1
    subst h2
    exact ⟨by simp,ho,by assumption⟩
   ·split at h
    ·injection h with h
     injection h with h1 h2
     subst h1
     subst h2
     exact ⟨by simp,ho,by assumption⟩
    ·obtain ⟨h1,h2⟩:=ih h
     exact ⟨by simp [h1],h2⟩
   ·obtain ⟨h1,h2⟩:=ih h
    exact ⟨by simp [h1],h2⟩
  ·obtain ⟨h1,h2⟩:=ih h
   exact ⟨by simp [h1],h2⟩
def nextC (all:List Oper)(i:Nat)(c0:Option (List Ch)):Option (List Ch) :=
 match waitsB all i with
 | true=>none
 | false=>c0
def keepC (D:List Nat)(c0:Option (List Ch))(ch':List Ch)(mods:List Nat):Prop :=
 match c0 with
 | none=>True
 | some c=>okMods D c ch' mods
def exDraw (P:Program)(tb:List (FuncId × Sm))(all:List Oper)(D:List Nat)(c0:Option (List Ch)):Nat→List Bool→List SV→List Ch→(List SV→List Ch→Prop)→Prop
 | 0,listed,ts,ch,k=>match readyL all listed with | []=>k ts ch | _=>False
 | n+1,listed,ts,ch,k =>
  match readyL all listed with
  | []=>k ts ch
  | r::rs =>
   match pickC c0 all ts listed (r::rs) with
   | some (i,o) =>
    match guardOf all ts o.guard with
    | .run=>exCalm P o.op ts (calmCh c0 ch o.op) fun v=>exDraw P tb all D c0 n (listed.set i true) (putT ts o.dst v) ch k
    | .skip=>exDraw P tb all D c0 n (listed.set i true) (putT ts o.dst .undef) ch k
    | .ask d b want =>
     (b=want→exCalm P o.op (litT ts d want) (calmCh c0 ch o.op) fun v=>exDraw P tb all D c0 n (listed.set i true) (putT (litT ts d want) o.dst v) ch k) ∧
     (b=!want→exDraw P tb all D c0 n (listed.set i true) (putT (litT ts d (!want)) o.dst .undef) ch k)
    | .bad=>False
   | none=>allOf (fun i =>
     match all[i]? with
     | some o =>
      match guardOf all ts o.guard with
      | .run=>exOne P tb o ts ch fun v ch' mods=>keepC D (nextC all i c0) ch' mods∧exDraw P tb all D (nextC all i c0) n (listed.set i true) (putT ts o.dst v) ch' k
      | .skip=>exDraw P tb all D c0 n (listed.set i true) (putT ts o.dst .undef) ch k
      | .ask d b want =>
       (b=want→exOne P tb o (litT ts d want) ch fun v ch' mods=>keepC D (nextC all i c0) ch' mods∧exDraw P tb all D (nextC all i c0) n (listed.set i true) (putT (litT ts d want) o.dst v) ch' k) ∧
       (b=!want→exDraw P tb all D c0 n (listed.set i true) (putT (litT ts d (!want)) o.dst .undef) ch k)
      | .bad=>False
     | none=>False) (r::rs)
theorem drawN_ok {P:Program}{X:Cx}{tb:List (FuncId × Sm)}(hb:TbOK P tb){all:List Oper}(hsel:noSelL all=true){D:List Nat}{Q:Exit→Act→World→Prop}(hQ:∀ c a w,Q (.panic c) a w→False) :
  ∀ (n:Nat) (listed:List Bool) (ts:List SV) (ch:List Ch) (k:List SV→List Ch→Prop) (a:Act) (w:World),
  exDraw P tb all D none n listed ts ch k→Ts ts a→a.defers=[]→HS X ch w →
  (∀ ts' ch' a' w',k ts' ch'→Ts ts' a'→a'.defers=[]→HS X ch' w'→Q .normal a' w')→wpAny P .any all.toArray Q n listed.toArray a w:=by
 intro n
 induction n with
 | zero =>
  intro listed ts ch k a w h hT hd hs hq
  simp only [exDraw] at h
  split at h
  ·rename_i hr
   exact wpAny_done (by rw [readyL_eq,hr]) (hq ts ch a w h hT hd hs) 0
  ·exact h.elim
 | succ n ih =>
  intro listed ts ch k a w h hT hd hs hq
  simp only [exDraw] at h
  split at h
  ·rename_i hr
   exact wpAny_done (by rw [readyL_eq,hr]) (hq ts ch a w h hT hd hs) (n+1)
  ·rename_i r rs hr
   have hset:∀ i,(listed.set i true).toArray=listed.toArray.setIfInBounds i true:=fun i=>by simp
   split at h
   ·rename_i i o hp
    obtain ⟨hmem,hi,hfree⟩:=pickC_ok hp
    have hcc:calmCh none ch o.op=ch:=by unfold calmCh;split <;> simp_all
    have hnl:=pickC_load hp
    simp only [hcc] at h
    have take:∀ {v:Value},Yields P all.toArray o v a→wpAny P .any all.toArray Q n (listed.toArray.setIfInBounds i true) (a.put o.dst v) w →
      wpAny P .any all.toArray Q (n+1) listed.toArray a w:=fun hy h' =>
     wpAny_take (by simpa using hi) (by rw [noSelL_eq];exact hsel) (by rw [freeL_eq];exact hfree) (by rw [readyL_eq,hr];simpa using hmem) (fun c a' w' hq'=>(hQ c _ w' hq').elim) hy h'
    split at h
    ·rename_i hg
     obtain ⟨v,h,hv⟩:=calm_pure h (hnl.resolve_left (by rw [hg];intro q;cases q))
     exact take (.inl ⟨guard_run hT hg,fun w'=>hv a hT w hs.all w'⟩) (by rw [← hset];exact ih _ _ ch k _ w h (hT.put _ _) (put_defers hd _ _) hs hq)
    ·rename_i hg
     exact take (v:=Go.undef) (.inr ⟨guard_skip hT hg,rfl⟩) (by rw [← hset];exact ih _ _ ch k _ w h (hT.put _ .undef) (put_defers hd _ _) hs hq)
    ·rename_i d b want hg
     obtain ⟨h1,h2⟩:=guard_ask hT hg
     by_cases e:b=want
     ·subst e
      obtain ⟨v,h,hv⟩:=calm_pure (h.1 rfl) (hnl.resolve_left (by rw [hg];intro q;cases q))
      exact take (.inl ⟨by rw [h2];simp,fun w'=>hv a (hT.lit h1) w hs.all w'⟩) (by rw [← hset];exact ih _ _ ch k _ w h ((hT.lit h1).put _ _) (put_defers hd _ _) hs hq)
     ·have e':b=!want:=by cases b <;> cases want <;> simp_all
      subst e'
      exact take (v:=Go.undef) (.inr ⟨by rw [h2];cases want <;> rfl,rfl⟩) (by rw [← hset];exact ih _ _ ch k _ w (h.2 rfl) ((hT.lit h1).put _ .undef) (put_defers hd _ _) hs hq)
    ·exact h.elim
   ·refine wpAny_all (rs:=r::rs) (by rw [readyL_eq,hr]) (by simp) fun i hi=>?_
    have h':=allOf_mem h i hi
    unfold wpOp
    split at h'
    ·rename_i o ho
     simp only [List.getElem?_toArray,ho]
     have hnx:nextC all i none=none:=by unfold nextC;split <;> rfl
     have one:∀ {ts'},Ts ts' a→(exOne P tb o ts' ch fun v ch' mods=>keepC D (nextC all i none) ch' mods∧exDraw P tb all D (nextC all i none) n (listed.set i true) (putT ts' o.dst v) ch' k) →
       o.wp P a w (wpAny P .any all.toArray Q n (listed.toArray.setIfInBounds i true)) Q:=fun hT' h1 =>
      (one_ok hb h1 hT' hs).wp fun v ch' mods w' hs' hag ⟨hm,h2⟩=>by
       rw [hnx] at h2
       rw [← hset]
       exact ih _ _ ch' k _ w' h2 (hT'.put _ _) (put_defers hd _ _) hs' hq
     split at h'
     ·rename_i hg
      rw [if_pos (guard_run hT hg)]
      exact .inl (one hT h')
     ·rename_i hg
      rw [if_neg (by rw [guard_skip hT hg];exact Bool.false_ne_true),← hset]
      exact ih _ _ ch k _ w h' (hT.put _ .undef) (put_defers hd _ _) hs hq
     ·rename_i d b want hg
      obtain ⟨h1,h2⟩:=guard_ask hT hg
      by_cases e:b=want
      ·subst e
       rw [if_pos (by rw [h2];simp)]
       exact .inl (one (hT.lit h1) (h'.1 rfl))
      ·have e':b=!want:=by cases b <;> cases want <;> simp_all
       subst e'
       rw [if_neg (by rw [h2];cases want <;> simp),← hset]
       exact ih _ _ ch k _ w (h'.2 rfl) ((hT.lit h1).put _ .undef) (put_defers hd _ _) hs hq
     ·exact h'.elim
    ·exact h'.elim
theorem draw_ok {P:Program}{X:Cx}{tb:List (FuncId × Sm)}(hb:TbOK P tb){all:List Oper}(hsel:noSelL all=true){D:List Nat}{ch0:List Ch}{Q:Exit→Act→World→Prop}(hQ:∀ c a w,Q (.panic c) a w→False) :
  ∀ (n:Nat) (listed:List Bool) (ts:List SV) (ch:List Ch) (k:List SV→List Ch→Prop) (a:Act) (w:World),
  exDraw P tb all D (some ch0) n listed ts ch k→Ts ts a→a.defers=[]→HS X ch w→Leans ch0 ch D →
  (∀ ts' ch' a' w',k ts' ch'→Ts ts' a'→a'.defers=[]→HS X ch' w'→Q .normal a' w')→wpAnyG P .any all.toArray Q (Sat ch0) (waitsB all) n listed.toArray a w:=by
 intro n
 induction n with
 | zero =>
  intro listed ts ch k a w h hT hd hs hl hq
  simp only [exDraw] at h
  split at h
  ·rename_i hr
   exact wpAnyG_done (by rw [readyL_eq,hr]) (hq ts ch a w h hT hd hs) 0
  ·exact h.elim
 | succ n ih =>
  intro listed ts ch k a w h hT hd hs hl hq
  simp only [exDraw] at h
  split at h
  ·rename_i hr
   exact wpAnyG_done (by rw [readyL_eq,hr]) (hq ts ch a w h hT hd hs) (n+1)
  ·rename_i r rs hr
   have hset:∀ i,(listed.set i true).toArray=listed.toArray.setIfInBounds i true:=fun i=>by simp
   split at h
   ·rename_i i o hp
    obtain ⟨hmem,hi,hfree⟩:=pickC_ok hp
    have take:∀ {v:Value},((Region.wanted o (yielded all.toArray a.tmps)=true∧(isLoad o.op=true→∀ w',Sat ch0 w'→(execOp a.eval o).run P w'=.ok (.value v) w')∧(isLoad o.op=false→∀ w',(execOp a.eval o).run P w'=.ok (.value v) w'))∨(Region.wanted o (yielded all.toArray a.tmps)=false∧v=Go.undef)) →
      wpAnyG P .any all.toArray Q (Sat ch0) (waitsB all) n (listed.toArray.setIfInBounds i true) (a.put o.dst v) w →
      wpAnyG P .any all.toArray Q (Sat ch0) (waitsB all) (n+1) listed.toArray a w:=fun {v} hy h'=>by
     have hS:=Region.noSelect_spec (show Region.noSelect all.toArray=true by rw [noSelL_eq];exact hsel)
     have hF:=Region.free_spec (md:=.any) (by simpa using hi) (show Region.free .any all.toArray listed.toArray i=true by rw [freeL_eq];exact hfree)
     have hR:i∈Region.ready .any all.toArray listed.toArray:=by rw [readyL_eq,hr];exact hmem
     cases hld:isLoad o.op with
     | true=>exact wpAnyG_first (by simpa using hi) hS (fun c a' w' hq'=>(hQ c _ w' hq').elim) (fun j oj hj hN hne=>waitsB_ok (j:=j) hi hld j oj hj hN hne) n _ a w hF hR (hy.imp (fun ⟨h1,h2,_⟩=>⟨h1,h2 hld⟩) id) (hl.sat hs) h'
     | false=>exact wpAnyG_pure (by simpa using hi) hS (fun c a' w' hq'=>(hQ c _ w' hq').elim) n _ a w hF hR (hy.imp (fun ⟨h1,_,h2⟩=>⟨h1,h2 hld⟩) id) (hl.sat hs) h'
    have calm:∀ {ts'} {K:SV→Prop},Ts ts' a→exCalm P o.op ts' (calmCh (some ch0) ch o.op) K→∃ v,K v∧(isLoad o.op=true→∀ w',Sat ch0 w'→(execOp a.eval o).run P w'=.ok (.value v.den) w')∧(isLoad o.op=false→∀ w',(execOp a.eval o).run P w'=.ok (.value v.den) w'):=fun {ts' K} hT' h=>by
     cases hld:isLoad o.op with
     | true =>
      have e:calmCh (some ch0) ch o.op=ch0:=by unfold calmCh;rw [hld]
      rw [e] at h
      obtain ⟨v,h,hv⟩:=calm_ok h
      exact ⟨v,h,⟨fun _ w' hw'=>hv a hT' w' hw',fun q=>(by cases q)⟩⟩
     | false =>
      have e:calmCh (some ch0) ch o.op=ch:=by unfold calmCh;rw [hld]
      rw [e] at h
      obtain ⟨v,h,hv⟩:=calm_pure h hld
      exact ⟨v,h,⟨fun q=>(by cases q),fun _ w'=>hv a hT' w hs.all w'⟩⟩
    split at h
    ·rename_i hg
     obtain ⟨v,h,hv⟩:=calm hT h
     exact take (.inl ⟨guard_run hT hg,hv⟩) (by rw [← hset];exact ih _ _ ch k _ w h (hT.put _ _) (put_defers hd _ _) hs hl hq)
    ·rename_i hg
     exact take (v:=Go.undef) (.inr ⟨guard_skip hT hg,rfl⟩) (by rw [← hset];exact ih _ _ ch k _ w h (hT.put _ .undef) (put_defers hd _ _) hs hl hq)
    ·rename_i d b want hg
     obtain ⟨h1,h2⟩:=guard_ask hT hg
     by_cases e:b=want
     ·subst e
      obtain ⟨v,h,hv⟩:=calm (hT.lit h1) (h.1 rfl)
      exact take (.inl ⟨by rw [h2];simp,hv⟩) (by rw [← hset];exact ih _ _ ch k _ w h ((hT.lit h1).put _ _) (put_defers hd _ _) hs hl hq)
     ·have e':b=!want:=by cases b <;> cases want <;> simp_all
      subst e'
      exact take (v:=Go.undef) (.inr ⟨by rw [h2];cases want <;> rfl,rfl⟩) (by rw [← hset];exact ih _ _ ch k _ w (h.2 rfl) ((hT.lit h1).put _ .undef) (put_defers hd _ _) hs hl hq)
    ·exact h.elim
   ·refine wpAnyG_all (rs:=r::rs) (by rw [readyL_eq,hr]) (by simp) fun i hi=>?_
    have h':=allOf_mem h i hi
    unfold wpOp
    split at h'
    ·rename_i o ho
     simp only [List.getElem?_toArray,ho]
     have one:∀ {ts'},Ts ts' a→(exOne P tb o ts' ch fun v ch' mods=>keepC D (nextC all i (some ch0)) ch' mods∧exDraw P tb all D (nextC all i (some ch0)) n (listed.set i true) (putT ts' o.dst v) ch' k) →
       o.wp P a w (fun a' w'=>(waitsB all i=true∧wpAny P .any all.toArray Q n (listed.toArray.setIfInBounds i true) a' w')∨(Sat ch0 w'∧wpAnyG P .any all.toArray Q (Sat ch0) (waitsB all) n (listed.toArray.setIfInBounds i true) a' w')) Q:=fun hT' h1 =>
      (one_ok hb h1 hT' hs).wp fun v ch' mods w' hs' hag ⟨hm,h2⟩=>by
       rw [← hset]
       cases hwt:waitsB all i with
       | true =>
        have hnx:nextC all i (some ch0)=none:=by unfold nextC;rw [hwt]
        rw [hnx] at h2
        exact .inl ⟨rfl,drawN_ok hb hsel hQ n _ _ ch' k _ w' h2 (hT'.put _ _) (put_defers hd _ _) hs' hq⟩
       | false =>
        have hnx:nextC all i (some ch0)=some ch0:=by unfold nextC;rw [hwt]
        rw [hnx] at h2 hm
        have hl':=hl.next hag hm
        exact .inr ⟨hl'.sat hs',ih _ _ ch' k _ w' h2 (hT'.put _ _) (put_defers hd _ _) hs' hl' hq⟩
     have same:∀ {a'},wpAnyG P .any all.toArray Q (Sat ch0) (waitsB all) n (listed.toArray.setIfInBounds i true) a' w →
       (waitsB all i=true∧wpAny P .any all.toArray Q n (listed.toArray.setIfInBounds i true) a' w)∨(Sat ch0 w∧wpAnyG P .any all.toArray Q (Sat ch0) (waitsB all) n (listed.toArray.setIfInBounds i true) a' w):=fun hh=>.inr ⟨hl.sat hs,hh⟩
     split at h'
     ·rename_i hg
      rw [if_pos (guard_run hT hg)]
      exact .inl (one hT h')
     ·rename_i hg
      rw [if_neg (by rw [guard_skip hT hg];exact Bool.false_ne_true)]
      exact same (by rw [← hset];exact ih _ _ ch k _ w h' (hT.put _ .undef) (put_defers hd _ _) hs hl hq)
     ·rename_i d b want hg
      obtain ⟨h1,h2⟩:=guard_ask hT hg
      by_cases e:b=want
      ·subst e
       rw [if_pos (by rw [h2];simp)]
       exact .inl (one (hT.lit h1) (h'.1 rfl))
      ·have e':b=!want:=by cases b <;> cases want <;> simp_all
       subst e'
       rw [if_neg (by rw [h2];cases want <;> simp)]
       exact same (by rw [← hset];exact ih _ _ ch k _ w (h'.2 rfl) ((hT.lit h1).put _ .undef) (put_defers hd _ _) hs hl hq)
     ·exact h'.elim
    ·exact h'.elim
def SC.ren (f:Nat→Nat):SC→SC
 | .ptr id b off=>.ptr (f id) b off
 | .rptr id ao s i c=>.rptr (f id) ao s i c
 | .sl id ao n cap=>.sl (f id) ao n cap
 | .slc id b n cap=>.slc (f id) b n cap
 | .obj id v=>.obj (f id) v
 | .vw id ao lo n cap=>.vw (f id) ao lo n cap
 | x=>x
theorem SC.ren_den (f:Nat→Nat)(x:SC):(x.ren f).den=x.den:=by cases x <;> rfl
def SA.ren (f:Nat→Nat):SA→SA
 | .c x=>.c (x.ren f)
 | .agg xs=>.agg (xs.map (SC.ren f))
theorem SC.ren_map (f:Nat→Nat)(xs:List SC):(xs.map (SC.ren f)).map SC.den=xs.map SC.den:=by
 simp [Function.comp_def,SC.ren_den]
theorem SA.ren_den (f:Nat→Nat)(x:SA):(x.ren f).den=x.den:=by
 cases x with
 | c x=>exact SC.ren_den f x
 | agg xs=>simp only [SA.ren,SA.den,SC.ren_map]
def SV.ren (f:Nat→Nat):SV→SV
 | .a x=>.a (x.ren f)
 | .tup vs=>.tup (vs.map (SA.ren f))
 | .undef=>.undef
theorem SV.ren_den (f:Nat→Nat)(x:SV):(x.ren f).den=x.den:=by
 cases x with
 | a x=>exact SA.ren_den f x
 | tup vs=>simp [SV.ren,SV.den,Function.comp_def,SA.ren_den]
 | undef=>rfl
def Ch.ren (f:Nat→Nat):Ch→Ch
 | .cells b t cs=>.cells b t (cs.map (SC.ren f))
 | .row r=>.row ⟨r.own,r.ao,r.t,r.s,r.n,r.cap,r.fld.map fun g i=>(g i).ren f⟩
 | .dead=>.dead
 | .obj o rs=>.obj o rs
 | .whole b t g z x=>.whole b t g z (x.ren f)
theorem Ch.ren_own (f:Nat→Nat)(c:Ch):(c.ren f).own=c.own:=by cases c <;> rfl
theorem Ch.ren_at (f:Nat→Nat)(c:Ch)(b:Nat):(c.ren f).at b ↔ c.at b:=by cases c <;> exact Iff.rfl
theorem Ch.ren_sat (f:Nat→Nat){c:Ch}{w:World}(h:c.sat w):(c.ren f).sat w:=by
 cases c with
 | cells b t cs =>
  show w.heap[b]?=_
  rw [SC.ren_map]
  exact h
 | row r =>
  have hr:r.sat w:=h
  have get:∀ (c:Nat) (g:Nat→SC),(r.fld.map fun g i=>(g i).ren f)[c]?=some g→∃ g0:Nat→SC,r.fld[c]?=some g0∧∀ i,(g i).den=(g0 i).den:=fun c g hg=>by
   simp only [List.getElem?_map] at hg
   cases hc:r.fld[c]? with
   | none=>simp [hc] at hg
   | some g0 =>
    simp only [hc,Option.map_some,Option.some.injEq] at hg
    exact ⟨g0,rfl,fun i=>by rw [← hg];exact SC.ren_den f _⟩
  refine ⟨by simpa using hr.1,fun ho hn=>?_,fun ho=>?_⟩
  ·obtain ⟨b,off,h1,h2,h3⟩:=hr.2.1 ho hn
   refine ⟨b,off,h1,h2,fun i hi c g hg=>?_⟩
   obtain ⟨g0,h4,h5⟩:=get c g hg
   rw [h5 i]
   exact h3 i hi c g0 h4
  ·rcases hr.2.2 ho with h1 | ⟨b,cs,h1,h2,h3,h4,h5,h6⟩
   ·exact .inl h1
   ·refine .inr ⟨b,cs,h1,h2,h3,h4,h5,fun i hi c g hg=>?_⟩
    obtain ⟨g0,h7,h8⟩:=get c g hg
    rw [h8 i]
    exact h6 i hi c g0 h7
 | dead=>trivial
 | obj o rs=>exact h
 | whole b t g z x =>
  refine ⟨?_,?_⟩
  ·rw [SC.ren_den];exact h.1
  ·rw [SC.ren_den];exact h.2
theorem HS.ren {X:Cx}{ch:List Ch}{w:World}(h:HS X ch w)(f:Nat→Nat):HS X (ch.map (Ch.ren f)) w:=by
 have get:∀ (i:Nat) (c:Ch),(ch.map (Ch.ren f))[i]?=some c→∃ d,ch[i]?=some d∧c=d.ren f:=fun i c hc=>by
  simp only [List.getElem?_map] at hc
  cases hi:ch[i]? with
  | none=>simp [hi] at hc
  | some d=>simp [hi] at hc;exact ⟨d,rfl,hc.symm⟩
 refine ⟨h.fr,fun i c hc=>?_,fun i j ci cj b hij hi hj ho hai haj=>?_,fun i c b hc ho ha=>?_⟩
 ·obtain ⟨d,hd,rfl⟩:=get i c hc
  exact Ch.ren_sat f (h.sat i d hd)
 ·obtain ⟨d,hd,rfl⟩:=get i ci hi
  obtain ⟨e,he,rfl⟩:=get j cj hj
  exact h.dis i j d e b hij hd he (by rw [← Ch.ren_own f];exact ho) ((Ch.ren_at f d b).1 hai) ((Ch.ren_at f e b).1 haj)
 ·obtain ⟨d,hd,rfl⟩:=get i c hc
  exact h.new i d b hd (by rw [← Ch.ren_own f];exact ho) ((Ch.ren_at f d b).1 ha)
def pickM (ch:List Ch)(l:List Nat):List Ch:=l.map fun i=>ch.getD i .dead
def memM (n:Nat):List Nat→Bool
 | []=>false
 | x::r=>match Nat.beq x n with | true=>true | false=>memM n r
def ndM:List Nat→Bool
 | []=>true
 | x::r=>match memM x r with | true=>false | false=>ndM r
theorem memM_ok {n:Nat}:∀ {l:List Nat},memM n l=false→n ∉ l:=by
 intro l
 induction l with
 | nil=>intro _ h;cases h
 | cons x r ih =>
  intro h hm
  simp only [memM] at h
  split at h
  ·cases h
  ·rename_i he
   rcases List.mem_cons.1 hm with rfl | hm
   ·rw [Nat.beq_refl] at he;cases he
   ·exact ih h hm
theorem ndM_ok:∀ {l:List Nat},ndM l=true→l.Nodup:=by
 intro l
 induction l with
 | nil=>intro _;exact List.nodup_nil
 | cons x r ih =>
  intro h
  simp only [ndM] at h
  split at h
  ·cases h
  ·rename_i he
   exact List.nodup_cons.2 ⟨memM_ok he,ih h⟩
theorem HS.pickM {X:Cx}{ch:List Ch}{w:World}(h:HS X ch w)(l:List Nat)(hl:l.Nodup):HS X (Go.Proofs.YtbhfabaofhhkeaaGreat.pickM ch l) w:=by
 have get:∀ (i:Nat) (c:Ch),(Go.Proofs.YtbhfabaofhhkeaaGreat.pickM ch l)[i]?=some c→c=.dead∨∃ j,l[i]?=some j∧ch[j]?=some c:=fun i c hc=>by
  simp only [Go.Proofs.YtbhfabaofhhkeaaGreat.pickM,List.getElem?_map] at hc
  cases hi:l[i]? with
  | none=>simp [hi] at hc
  | some j =>
   simp only [hi,Option.map_some,Option.some.injEq,List.getD_eq_getElem?_getD] at hc
   cases hj:ch[j]? with
   | none=>simp [hj] at hc;exact .inl hc.symm
   | some d=>simp [hj] at hc;subst hc;exact .inr ⟨j,rfl,hj⟩
 refine ⟨h.fr,fun i c hc=>?_,fun i j ci cj b hij hi hj ho hai haj=>?_,fun i c b hc ho ha=>?_⟩
 ·rcases get i c hc with rfl | ⟨j,_,hj⟩
  ·trivial
  ·exact h.sat j c hj
 ·rcases get i ci hi with rfl | ⟨i',hi1,hi2⟩
  ·exact hai.elim
  ·rcases get j cj hj with rfl | ⟨j',hj1,hj2⟩
   ·exact haj.elim
   ·refine h.dis i' j' ci cj b (fun e=>hij ?_) hi2 hj2 ho hai haj
    subst e
    obtain ⟨h1,h2⟩:=List.getElem?_eq_some_iff.1 hi1
    obtain ⟨h3,h4⟩:=List.getElem?_eq_some_iff.1 hj1
    have hp:=List.pairwise_iff_getElem.1 hl
    rcases Nat.lt_trichotomy i j with hlt | heq | hgt
    ·exact absurd (h2.trans h4.symm) (hp i j h1 h3 hlt)
    ·exact heq
    ·exact absurd (h4.trans h2.symm) (hp j i h3 h1 hgt)
 ·rcases get i c hc with rfl | ⟨j,_,hj⟩
  ·exact ha.elim
  ·exact h.new j c b hj ho ha
def exOrd (P:Program)(tb:List (FuncId × Sm))(all:List Oper):List Nat→List SV→List Ch→(List SV→List Ch→Prop)→Prop
 | [],ts,ch,k=>k ts ch
 | i::r,ts,ch,k =>
  match all[i]? with
  | some o =>
   match guardOf all ts o.guard with
   | .run =>
    match isCalm o.op with
    | true=>exCalm P o.op ts ch fun v=>exOrd P tb all r (putT ts o.dst v) ch k
    | false=>exOne P tb o ts ch fun v ch' _=>exOrd P tb all r (putT ts o.dst v) ch' k
   | .skip=>exOrd P tb all r (putT ts o.dst .undef) ch k
   | _=>False
  | none=>False
def allotS:List Oper→List Nat
 | []=>[]
 | o::r =>
  match o.op,o.dst with
  | .alloc _,some d=>d::allotS r
  | _,_=>allotS r
def ptrId:SV→Nat
 | .a (.c (.ptr id _ _))=>id
 | _=>1000000
def fromTo (a:Nat):Nat→List Nat
 | 0=>[]
 | n+1=>a::fromTo (a+1) n
def notIn (l:List Nat):List Nat→List Nat
 | []=>[]
 | x::r=>match memM x l with | true=>notIn l r | false=>x::notIn l r
def orderM (all:List Oper)(n0:Nat)(ts:List SV)(ch:List Ch):List Nat :=
 let al:=(allotS all).map fun d=>ptrId (ts.getD d .undef)
 fromTo 0 n0 ++ (al ++ notIn al (fromTo n0 (ch.length-n0)))
def placeM (l:List Nat)(n:Nat)(i:Nat):Nat :=
 match l with
 | []=>1000007
 | x::r=>match Nat.beq x n with | true=>i | false=>placeM r n (i+1)
def dstsOf:List Oper→List Nat
 | []=>[]
 | o::r =>
  match o.dst with
  | some d=>d::dstsOf r
  | none=>dstsOf r
def pickD (l:List Nat)(ts:List SV):List SV:=l.map fun d=>ts.getD d .undef
def putAll:List Nat→List SV→List SV→List SV
 | d::l,v::vs,ts=>putAll l vs (ts.set d v)
 | _,_,ts=>ts
def Out (l:List Nat)(ts ts':List SV):Prop:=ts'.length=ts.length∧∀ i:Nat,i ∉ l→ts'[i]?=ts[i]?
theorem Out.refl (l:List Nat)(ts:List SV):Out l ts ts:=⟨rfl,fun _ _=>rfl⟩
theorem Out.set {l:List Nat}{ts ts':List SV}(h:Out l ts ts'){d:Nat}(hd:d∈l)(v:SV):Out l ts (ts'.set d v) :=
 ⟨by rw [List.length_set];exact h.1,fun i hi=>by rw [List.getElem?_set_ne (fun (e:d=i)=>hi (by rw [← e];exact hd))];exact h.2 i hi⟩
theorem dstsOf_mem {o:Oper}{d:Nat}:∀ {all:List Oper},o∈all→o.dst=some d→d∈dstsOf all:=by
 intro all
 induction all with
 | nil=>intro h;cases h
 | cons p r ih =>
  intro h hd
  rcases List.mem_cons.1 h with rfl | h
  ·simp [dstsOf,hd]
  ·have:=ih h hd
   simp only [dstsOf]
   split
   ·exact List.mem_cons_of_mem _ this
   ·exact this
theorem Out.putT {all:List Oper}{ts ts':List SV}(h:Out (dstsOf all) ts ts'){i:Nat}{o:Oper}(hi:all[i]?=some o)(v:SV):Out (dstsOf all) ts (Go.Proofs.YtbhfabaofhhkeaaGreat.putT ts' o.dst v):=by
 cases hd:o.dst with
 | none=>exact h
 | some d=>exact h.set (dstsOf_mem (List.mem_of_getElem? hi) hd) v
theorem same_ask {a b:Bool}{d:Nat}{x w:Bool}(h:same a b=.ask d x w):False:=by cases a <;> cases b <;> cases h
theorem Out.ask {all:List Oper}{ts ts':List SV}(h:Out (dstsOf all) ts ts'){g:Option (Nat × Bool)}{d:Nat}{b want:Bool}(hg:guardOf all ts' g=.ask d b want)(x:Bool):Out (dstsOf all) ts (litT ts' d x):=by
 have hd:d∈dstsOf all:=by
  unfold guardOf at hg
  split at hg
  ·cases hg
  ·split at hg
   ·rename_i oj hj
    split at hg
    ·rename_i d' hd
     split at hg
     ·exact (same_ask hg).elim
     ·injection hg with h1 _ _
      subst h1
      exact dstsOf_mem (List.mem_of_getElem? hj) hd
     ·cases hg
     ·cases hg
     ·cases hg
    ·cases hg
   ·cases hg
 exact h.set hd _
theorem putAll_out:∀ {l:List Nat} {ts ts':List SV},Out l ts ts'→putAll l (pickD l ts') ts=ts':=by
 intro l
 induction l with
 | nil =>
  intro ts ts' h
  exact (List.ext_getElem? fun i=>h.2 i (by simp)).symm
 | cons d l ih =>
  intro ts ts' h
  refine ih ⟨by rw [List.length_set];exact h.1,fun i hi=>?_⟩
  by_cases e:d=i
  ·subst e
   have hl:=h.1
   rw [List.getElem?_set_self']
   cases hg:ts'[d]? with
   | none =>
    have:ts.length≤d:=by have:=List.getElem?_eq_none_iff.1 hg;omega
    simp [List.getElem?_eq_none this]
   | some v =>
    have hlt:=(List.getElem?_eq_some_iff.1 hg).1
    simp [List.getElem?_eq_getElem (show d<ts.length by omega),List.getD_eq_getElem?_getD,hg]
  ·rw [List.getElem?_set_ne e]
   exact h.2 i (fun hm=>(List.mem_cons.1 hm).elim (fun q=>e q.symm) hi)
theorem putAll_den {f:SV→SV}(hf:∀ x,(f x).den=x.den):∀ {l:List Nat} {ts ts':List SV},Out l ts ts'→(putAll l ((pickD l ts').map f) ts).map SV.den=ts'.map SV.den:=by
 have key:∀ (l:List Nat) (vs:List SV) (ts us:List SV),ts.map SV.den=us.map SV.den→(putAll l (vs.map f) ts).map SV.den=(putAll l vs us).map SV.den:=by
  intro l
  induction l with
  | nil=>intro vs ts us h;exact h
  | cons d l ih =>
   intro vs ts us h
   cases vs with
   | nil=>exact h
   | cons v vs=>exact ih vs _ _ (by rw [List.map_set,List.map_set,h,hf])
 intro l ts ts' h
 rw [key l _ ts ts rfl,putAll_out h]
theorem exOrd_out {P:Program}{tb:List (FuncId × Sm)}{all:List Oper}{ts:List SV}{k:List SV→List Ch→Prop}:∀ (l:List Nat) (ts0:List SV) (ch:List Ch),Out (dstsOf all) ts ts0 →
  exOrd P tb all l ts0 ch k=exOrd P tb all l ts0 ch (fun t c=>k (putAll (dstsOf all) (pickD (dstsOf all) t) ts) c):=by
 intro l
 induction l with
 | nil=>intro ts0 ch h;simp only [exOrd];rw [putAll_out h]
 | cons i r ih =>
  intro ts0 ch h
  simp only [exOrd]
  cases hi:all[i]? with
  | none=>rfl
  | some o =>
   simp only
   split
   ·split
    ·congr 1;funext v;exact ih _ _ (h.putT hi v)
    ·congr 1;funext v ch' _;exact ih _ _ (h.putT hi v)
   ·exact ih _ _ (h.putT hi _)
   ·rfl
theorem exDraw_out {P:Program}{tb:List (FuncId × Sm)}{all:List Oper}{D:List Nat}{ts:List SV}{k:List SV→List Ch→Prop}:∀ (n:Nat) (c0:Option (List Ch)) (listed:List Bool) (ts0:List SV) (ch:List Ch),Out (dstsOf all) ts ts0 →
  exDraw P tb all D c0 n listed ts0 ch k=exDraw P tb all D c0 n listed ts0 ch (fun t c=>k t c∧Out (dstsOf all) ts t):=by
 have leaf:∀ (ts0:List SV) (ch:List Ch),Out (dstsOf all) ts ts0→k ts0 ch=(k ts0 ch∧Out (dstsOf all) ts ts0):=fun ts0 ch h=>propext ⟨fun q=>⟨q,h⟩,fun q=>q.1⟩
 intro n
 induction n with
 | zero =>
  intro c0 listed ts0 ch h
  simp only [exDraw]
  split
  ·exact leaf _ _ h
  ·rfl
 | succ n ih =>
  intro c0 listed ts0 ch h
  simp only [exDraw]
  split
  ·exact leaf _ _ h
  ·rename_i r rs hr
   split
   ·rename_i i o hp
    obtain ⟨_,hi,_⟩:=pickC_ok hp
    split
    ·congr 1;funext v;exact ih _ _ _ _ (h.putT hi v)
    ·exact ih _ _ _ _ (h.putT hi _)
    ·rename_i d b want hg
     congr 1
     ·congr 1;congr 1;funext v;exact ih _ _ _ _ ((h.ask hg want).putT hi v)
     ·congr 1;exact ih _ _ _ _ ((h.ask hg (!want)).putT hi _)
    ·rfl
   ·congr 1
    funext i
    cases hi:all[i]? with
    | none=>rfl
    | some o =>
     simp only
     split
     ·congr 1;funext v ch' mods;congr 1;exact ih _ _ _ _ (h.putT hi v)
     ·exact ih _ _ _ _ (h.putT hi _)
     ·rename_i d b want hg
      congr 1
      ·congr 1;congr 1;funext v ch' mods;congr 1;exact ih _ _ _ _ ((h.ask hg want).putT hi v)
      ·congr 1;exact ih _ _ _ _ ((h.ask hg (!want)).putT hi _)
     ·rfl
def exDrawM (P:Program)(tb:List (FuncId × Sm))(all:List Oper)(D:List Nat)(c0:Option (List Ch))(n:Nat)(listed:List Bool)(ord:List Nat)(ts:List SV)(ch:List Ch)(k:List SV→List Ch→Prop):Prop :=
 exOrd P tb all ord ts ch k∧exDraw P tb all D c0 n listed ts ch fun ts' ch' =>
  ndM (orderM all ch.length ts' ch')=true∧∀ Q:List SV→List Ch→Prop,exOrd P tb all ord ts ch (fun t c=>Q (pickD (dstsOf all) t) c)→Q ((pickD (dstsOf all) ts').map (SV.ren fun i=>placeM (orderM all ch.length ts' ch') i 0)) ((pickM ch' (orderM all ch.length ts' ch')).map (Ch.ren fun i=>placeM (orderM all ch.length ts' ch') i 0))
end Go.Proofs.YtbhfabaofhhkeaaGreat
namespace Go.Proofs.YtbhfabaofhhkeaaGreat
set_option linter.unusedVariables false
set_option linter.unusedSimpArgs false
open Go.RowKit
abbrev CK:=Exit→List SV→List Ch→Prop
abbrev LSm:=List SV→List Ch→CK→Prop
def Kh (X:Cx)(k:CK):Exit→Act→World→Prop:=fun e a w =>
 match e with
 | .panic _=>False
 | .outgrown=>False
 | .goto _=>False
 | e=>∃ ts ch,Ts ts a∧a.defers=[]∧HS X ch w∧k e ts ch
def firstReg:Code→Nat
 | .region id _ _=>id
 | .seq a _=>firstReg a
 | .cond _ a _=>firstReg a
 | .block _ b=>firstReg b
 | .loop b=>firstReg b
 | .scope b=>firstReg b
 | _=>0
def lookL:List (Nat × LSm)→Nat→Option LSm
 | [],_=>none
 | (f,S)::r,g=>match Nat.beq f g with | true=>some S | false=>lookL r g
def LoopOK (P:Program)(X:Cx)(b:Code)(S:LSm):Prop:=∀ (ts:List SV) (ch:List Ch) (k:CK) (a:Act) (w:World),S ts ch k→Ts ts a→a.defers=[]→HS X ch w→(Code.loop b).wp P (Kh X k) a w
def LoopsOK (P:Program)(X:Cx)(L:List (Nat × LSm)):Code→Prop
 | .loop b=>(match lookL L (firstReg b) with | some S=>LoopOK P X b S | none=>True)∧LoopsOK P X L b
 | .seq a b=>LoopsOK P X L a∧LoopsOK P X L b
 | .cond _ a b=>LoopsOK P X L a∧LoopsOK P X L b
 | .block _ b=>LoopsOK P X L b
 | _=>True
theorem loopsOK_nil (P:Program)(X:Cx):∀ c:Code,LoopsOK P X [] c:=by
 intro c
 induction c with
 | loop b ih=>exact ⟨trivial,ih⟩
 | seq a b iha ihb=>exact ⟨iha,ihb⟩
 | cond c a b iha ihb=>exact ⟨iha,ihb⟩
 | block id b ih=>exact ih
 | _=>trivial
def rounds (F:List SV→List Ch→CK→Prop):Nat→List SV→List Ch→CK→Prop
 | 0,_,_,_=>False
 | m+1,ts,ch,k=>F ts ch fun e ts' ch'=>match e with
  | .normal=>rounds F m ts' ch' k
  | e=>k e ts' ch'
structure Env where
 tb:List (FuncId × Sm):=[]
 L:List (Nat × LSm):=[]
 D:Nat→List Nat:=fun _=>[]
 R:List (Nat × Nat):=[]
 O:List (Nat × List Nat):=[]
def lookO:List (Nat × List Nat)→Nat→Option (List Nat)
 | [],_=>none
 | (f,S)::r,g=>match Nat.beq f g with | true=>some S | false=>lookO r g
def rnd:List (Nat × Nat)→Nat→Nat→Nat
 | [],_,n=>n
 | (k,m)::r,key,n=>match Nat.beq k key with
  | true=>m
  | false=>rnd r key n
def litC (ts:List SV)(c:Operand)(b:Bool):List SV :=
 match c with
 | .tmp d=>litT ts d b
 | _=>ts
theorem litC_ok {ts:List SV}{a:Act}(h:Ts ts a){c:Operand}{b:Bool}(hc:ev ts c=.a (.c (.bool b))):Ts (litC ts c b) a:=by
 cases c with
 | tmp d =>
  refine h.lit ?_
  simp only [ev,List.getD_eq_getElem?_getD] at hc
  cases hs:ts[d]? with
  | none=>simp [hs] at hc
  | some v=>simp only [hs,Option.getD_some] at hc;rw [hc]
 | _=>exact h
def exCode (P:Program)(E:Env):Nat→Code→List SV→List Ch→CK→Prop
 | 0,_,_,_,_=>False
 | n+1,c,ts,ch,k =>
  match c with
  | .skip=>k .normal ts ch
  | .label _=>k .normal ts ch
  | .region id ops dr =>
   match dr with
   | false=>exOps P E.tb ops.toList ops.toList ts ch fun ts' ch'=>k .normal ts' ch'
   | true =>
    match noSelL ops.toList with
    | true =>
     match lookO E.O id with
     | none=>exDraw P E.tb ops.toList (E.D id) (some (mask (E.D id) ch)) ops.toList.length (List.replicate ops.toList.length false) ts ch fun ts' ch'=>k .normal ts' ch'
     | some ord=>exDrawM P E.tb ops.toList (E.D id) (some (mask (E.D id) ch)) ops.toList.length (List.replicate ops.toList.length false) ord ts ch fun ts' ch'=>k .normal ts' ch'
    | false=>False
  | .seq a b=>exCode P E n a ts ch fun e ts' ch'=>match e with
   | .normal=>exCode P E n b ts' ch' k
   | e=>k e ts' ch'
  | .cond c a b =>
   match ev ts c with
   | .a (.c (.lit true))=>exCode P E n a ts ch k
   | .a (.c (.lit false))=>exCode P E n b ts ch k
   | .a (.c (.bool t))=>(t=true→exCode P E n a (litC ts c true) ch k)∧(t=false→exCode P E n b (litC ts c false) ch k)
   | _=>False
  | .block id b=>exCode P E n b ts ch fun e ts' ch'=>match e with
   | .exit id'=>match Nat.beq id' id with
    | true=>k .normal ts' ch'
    | false=>k (.exit id') ts' ch'
   | e=>k e ts' ch'
  | .exit id=>k (.exit id) ts ch
  | .ret=>k .ret ts ch
  | .loop b =>
   match lookL E.L (firstReg b) with
   | some S=>S ts ch k
   | none=>rounds (exCode P E n b) (rnd E.R (firstReg b) n) ts ch k
  | _=>False
theorem code_ok {P:Program}(hm:P.follows .mixedOrders=true){X:Cx}{E:Env}(hb:TbOK P E.tb):∀ (n:Nat) (c:Code) (ts:List SV) (ch:List Ch) (k:CK) (a:Act) (w:World),
  LoopsOK P X E.L c→exCode P E n c ts ch k→Ts ts a→a.defers=[]→HS X ch w→c.wp P (Kh X k) a w:=by
 intro n
 induction n with
 | zero=>intro c ts ch k a w _ h;exact h.elim
 | succ n ih =>
  intro c ts ch k a w hL h hT hd hs
  cases c with
  | skip=>exact wp_skip ⟨ts,ch,hT,hd,hs,h⟩
  | label l=>exact wp_label ⟨ts,ch,hT,hd,hs,h⟩
  | region id ops dr =>
   cases dr with
   | false=>exact wp_region_list (by
     have:=ops_ok (P:=P) (Q:=Kh X k) hb ops.toList ts ch _ a w h hT hd hs (fun ts' ch' a' w' hk hT' hd' hs'=>⟨ts',ch',hT',hd',hs',hk⟩)
     simpa using this)
   | true =>
    simp only [exCode] at h
    split at h
    ·rename_i hsel
     have main:∀ kk:List SV→List Ch→Prop,exDraw P E.tb ops.toList (E.D id) (some (mask (E.D id) ch)) ops.toList.length (List.replicate ops.toList.length false) ts ch kk →
       (∀ ts' ch' a' w',kk ts' ch'→Ts ts' a'→a'.defers=[]→HS X ch' w'→Kh X k .normal a' w')→(Code.region id ops true).wp P (Kh X k) a w:=fun kk h hq=>by
      have:=draw_ok (P:=P) (Q:=Kh X k) hb hsel (fun c a w hq=>hq) ops.toList.length (List.replicate ops.toList.length false) ts ch _ a w.drew h hT hd
       (hs.keep ⟨rfl,rfl,rfl,Nat.le_refl _,fun _ _=>rfl⟩) (fun i c hc=>mask_get hc) hq
      refine wp_region_any hm (wpAny_of_G (S:=Sat (mask (E.D id) ch)) (N:=waitsB ops.toList) _ _ _ _ ?_)
      have e:(Array.replicate ops.size false)=(List.replicate ops.toList.length false).toArray:=by simp
      rw [e]
      simpa using this
     split at h
     ·exact main _ h fun ts' ch' a' w' hk hT' hd' hs'=>⟨ts',ch',hT',hd',hs',hk⟩
     ·obtain ⟨h1,h2⟩:=h
      rw [exDraw_out _ _ _ _ _ (Out.refl _ ts)] at h2
      rw [exOrd_out _ _ _ (Out.refl _ ts)] at h1
      refine main _ h2 fun ts' ch' a' w' ⟨⟨hnd,hq⟩,ho⟩ hT' hd' hs'=>⟨_,_,?_,hd',(hs'.pickM _ (ndM_ok hnd)).ren _,hq (fun sl c=>k .normal (putAll (dstsOf ops.toList) sl ts) c) h1⟩
      show a'.tmps=_
      rw [show a'.tmps=_ from hT',putAll_den (SV.ren_den _) ho]
    ·exact h.elim
  | seq x y =>
   refine wp_seq (wp_mono (ih x ts ch _ a w hL.1 h hT hd hs) fun e a' w' hq=>?_)
   cases e with
   | normal =>
    obtain ⟨ts',ch',hT',hd',hs',hk⟩:=hq
    exact ih y ts' ch' k a' w' hL.2 hk hT' hd' hs'
   | exit id=>exact hq
   | ret=>exact hq
   | goto l=>exact hq.elim
   | panic c=>exact hq.elim
   | outgrown=>exact hq.elim
  | cond c x y =>
   simp only [exCode] at h
   split at h
   ·rename_i hc
    exact wp_cond (t:=true) (by rw [ev_den hT,hc];rfl) (ih x ts ch k a w hL.1 h hT hd hs)
   ·rename_i hc
    exact wp_cond (t:=false) (by rw [ev_den hT,hc];rfl) (ih y ts ch k a w hL.2 h hT hd hs)
   ·rename_i t hc
    refine wp_cond (t:=t) (by rw [ev_den hT,hc];rfl) ?_
    cases t with
    | true=>exact ih x _ ch k a w hL.1 (h.1 rfl) (litC_ok hT hc) hd hs
    | false=>exact ih y _ ch k a w hL.2 (h.2 rfl) (litC_ok hT hc) hd hs
   ·exact h.elim
  | block id b =>
   refine wp_block (wp_mono (ih b ts ch _ a w hL h hT hd hs) fun e a' w' hq=>?_)
   cases e with
   | normal=>exact hq
   | exit id' =>
    obtain ⟨ts',ch',hT',hd',hs',hk⟩:=hq
    simp only at hk
    split at hk
    ·rename_i he
     have he':=Nat.eq_of_beq_eq_true he
     simp only [Exit.inBlock,he',if_true]
     exact ⟨ts',ch',hT',hd',hs',hk⟩
    ·rename_i he
     have he':¬ id'=id:=fun q=>by rw [q,Nat.beq_refl] at he;cases he
     simp only [Exit.inBlock,he',if_false]
     exact ⟨ts',ch',hT',hd',hs',hk⟩
   | ret=>exact hq
   | goto l=>exact hq.elim
   | panic c=>exact hq.elim
   | outgrown=>exact hq.elim
  | exit id=>exact wp_exit ⟨ts,ch,hT,hd,hs,h⟩
  | ret=>exact wp_ret ⟨ts,ch,hT,hd,hs,h⟩
  | loop b =>
   simp only [exCode] at h
   split at h
   ·rename_i S hl
    have h1:=hL.1
    rw [hl] at h1
    exact h1 ts ch k a w h hT hd hs
   ·refine wp_loop_rounds (rnd E.R (firstReg b) n) ?_
    have hLb:=hL.2
    clear hL
    have key:∀ (m:Nat) (ts:List SV) (ch:List Ch) (a:Act) (w:World),rounds (exCode P E n b) m ts ch k→Ts ts a→a.defers=[]→HS X ch w→Code.rounds P b (Kh X k) m a w:=by
     intro m
     induction m with
     | zero=>intro ts ch a w h;exact h.elim
     | succ m ihm =>
      intro ts ch a w h hT hd hs
      rw [rounds_succ]
      refine wp_mono (ih b ts ch _ a w hLb h hT hd hs) fun e a' w' hq=>?_
      cases e with
      | normal =>
       obtain ⟨ts',ch',hT',hd',hs',hk⟩:=hq
       exact ihm ts' ch' a' w' hk hT' hd' hs'
      | exit id=>exact hq
      | ret=>exact hq
      | goto l=>exact hq.elim
      | panic c=>exact hq.elim
      | outgrown=>exact hq.elim
    exact key _ ts ch a w h hT hd hs
  | rangeFunc f ps x y=>exact h.elim
  | scope b=>exact h.elim
  | goto l=>exact h.elim
  | refuse s=>exact h.elim
def exRes (P:Program):List ResultVar→List SV→List Ch→(List SA→Prop)→Prop
 | [],_,_,k=>k []
 | .tmp t::r,ts,ch,k =>
  match ts.getD t .undef with
  | .a x=>exRes P r ts ch fun xs=>k (x::xs)
  | _=>False
 | .cell t ty::r,ts,ch,k=>exLoad P ty (ts.getD t .undef) ch fun x=>exRes P r ts ch fun xs=>k (x::xs)
def resV:List SA→SV
 | [x]=>.a x
 | xs=>.tup xs
def ResFn (a:Act)(g:ResultVar→Sem Value):Prop:=(∀ t,g (.tmp t)=pure (a.tmps.getD t Go.undef))∧(∀ p t,g (.cell p t)=(do loadVar t (← asAddr (a.tmps.getD p Go.undef))))
theorem exRes_ok {P:Program}{ts:List SV}{ch:List Ch}{a:Act}(hT:Ts ts a){w:World}(hw:Sat ch w):∀ (rs:List ResultVar) (k:List SA→Prop),exRes P rs ts ch k →
  ∃ xs,k xs∧∀ g,ResFn a g→(rs.mapM g:Sem (List Value)).run P w=.ok (xs.map SA.den) w:=by
 intro rs
 induction rs with
 | nil=>intro k h;exact ⟨[],h,fun g _=>rfl⟩
 | cons r rs ih =>
  intro k h
  cases r with
  | tmp t =>
   simp only [exRes] at h
   split at h
   ·rename_i x hx
    obtain ⟨xs,h,hr⟩:=ih _ h
    have e:a.tmps.getD t Go.undef=x.den:=by
     have:=ev_den hT (.tmp t)
     simp only [Act.eval,ev] at this
     rw [this,hx]
     rfl
    refine ⟨x::xs,h,fun g hg=>?_⟩
    simp only [List.mapM_cons,hg.1,Sem.run_bind,Sem.run_pure,Result.andThen_ok,hr g hg,e,List.map_cons]
   ·exact h.elim
  | cell t ty =>
   simp only [exRes] at h
   obtain ⟨x,h,hx⟩:=exLoad_ok h
   obtain ⟨xs,h,hr⟩:=ih _ h
   have e:a.tmps.getD t Go.undef=(ts.getD t .undef).den:=ev_den hT (.tmp t)
   have hx':=hx w hw
   have h2:(do loadVar ty (← asAddr (a.tmps.getD t Go.undef)):Sem Value).run P w=.ok x.den w:=by
    rw [e]
    generalize (ts.getD t .undef).den=v at hx'
    cases v with
    | pointer p =>
     cases p with
     | none=>simp [Instr.loadAt,Instr.sureAddr] at hx'
     | some p=>simpa [Instr.loadAt,Instr.sureAddr,asAddr] using hx'
    | _=>simp [Instr.loadAt,Instr.sureAddr] at hx'
   refine ⟨x::xs,h,fun g hg=>?_⟩
   rw [List.mapM_cons,hg.2,Sem.run_bind,h2]
   simp only [Result.andThen_ok,Sem.run_bind,hr g hg,Sem.run_pure,List.map_cons]
def exFn (P:Program)(E:Env)(n:Nat)(fn:Func)(ts:List SV)(ch:List Ch)(K:SV→List Ch→Prop):Prop :=
 match fn.body with
 | some c=>exCode P E n c (ts ++ List.replicate (fn.ntmps-ts.length) .undef) ch fun e ts' ch'=>match e with
  | .normal=>exRes P fn.results.toList ts' ch' fun xs=>K (resV xs) ch'
  | .ret=>exRes P fn.results.toList ts' ch' fun xs=>K (resV xs) ch'
  | _=>False
 | none=>False
theorem fn_ok {P:Program}(hm:P.follows .mixedOrders=true){X:Cx}{E:Env}(hb:TbOK P E.tb){n:Nat}{f:FuncId}{fn:Func}(hf:P.funcs[f]?=some fn)(hL:∀ c,fn.body=some c→LoopsOK P X E.L c)
  {ts:List SV} {ch:List Ch} {K:SV→List Ch→Prop} (h:exFn P E n fn ts ch K) {w:World} (hs:HS X ch w) {R:Ending→World→Prop}
  (hR:∀ v ch' w',K v ch'→HS X ch' w'→R (.returned v.den) w'):Calls P f (ts.map SV.den).toArray w R:=by
 unfold exFn at h
 split at h
 ·rename_i c hc
  refine calls_of_wp hf hc (wp_mono (code_ok hm hb n c _ ch _ _ w (hL c hc) h ?_ rfl hs) fun e a' w' hq=>?_)
  ·show _=((ts ++ List.replicate (fn.ntmps-ts.length) SV.undef).map SV.den).toArray
   apply Array.ext'
   simp [SV.den]
  ·have fin:∀ {k:CK} {ts' ch'},Ts ts' a'→HS X ch' w'→a'.defers=[]→exRes P fn.results.toList ts' ch' (fun xs=>K (resV xs) ch')→a'.defers=[]∧∃ v,(results fn a'.tmps).run P w'=.ok v w'∧R (.returned v) w':=by
    intro _ ts' ch' hT' hs' hd' hr
    obtain ⟨xs,hk,hg⟩:=exRes_ok hT' hs'.all _ _ hr
    refine ⟨hd',_,?_,hR _ _ _ hk hs'⟩
    unfold results
    have e:fn.results=fn.results.toList.toArray:=by simp
    rw [e,List.mapM_toArray,Sem.run_bind,Sem.run_map,hg _ ⟨fun _=>rfl,fun _ _=>rfl⟩]
    simp only [Result.andThen_ok,Sem.run_pure]
    congr 1
    cases xs with
    | nil=>rfl
    | cons x xs =>
     cases xs with
     | nil=>rfl
     | cons y ys=>simp [resV,SV.den]
   cases e with
   | normal =>
    obtain ⟨ts',ch',hT',hd',hs',hk⟩:=hq
    exact fin (k:=fun _ _ _=>True) hT' hs' hd' hk
   | ret =>
    obtain ⟨ts',ch',hT',hd',hs',hk⟩:=hq
    exact fin (k:=fun _ _ _=>True) hT' hs' hd' hk
   | exit id=>obtain ⟨ts',ch',_,_,_,hk⟩:=hq;exact hk.elim
   | goto l=>exact hq.elim
   | panic c=>exact hq.elim
   | outgrown=>exact hq.elim
 ·exact h.elim
end Go.Proofs.YtbhfabaofhhkeaaGreat
namespace Go.Proofs.YtbhfabaofhhkeaaGreat
set_option linter.unusedVariables false
set_option linter.unusedSimpArgs false
open Go.RowKit
def Next (X:Cx)(J:List SV→List Ch→Prop)(ts:List SV)(ch:List Ch):Prop :=
 ∃ ts' ch',J ts' ch'∧ts.map SV.den=ts'.map SV.den∧∀ w,HS X ch w→HS X ch' w
theorem Next.mk {X:Cx}{J:List SV→List Ch→Prop}{ts:List SV}{ch:List Ch}(f:(Nat→Value)→List SV)(ch':List Ch)(h:J (f fun d=>(ts.getD d .undef).den) ch')
  (ht:ts.map SV.den=(f fun d=>(ts.getD d .undef).den).map SV.den) (hc:∀ w,HS X ch w→HS X ch' w):Next X J ts ch:=⟨_,ch',h,ht,hc⟩
def loopK (N:List SV→List Ch→Prop)(k:CK):CK:=fun e ts ch =>
 match e with
 | .normal=>N ts ch
 | e=>k e ts ch
theorem loop_ok {P:Program}(hm:P.follows .mixedOrders=true){X:Cx}{E:Env}(hb:TbOK P E.tb){b:Code}(hL:LoopsOK P X E.L b)(fuel:Nat)(n:Nat)(I:Nat→List SV→List Ch→Prop){k:CK}
  (body:∀ j ts ch,I j ts ch→j≤n→exCode P E fuel b ts ch (loopK (fun ts' ch'=>j<n∧Next X (I (j+1)) ts' ch') (fun e ts' ch'=>Next X (k e) ts' ch')))
  {ts:List SV} {ch:List Ch} (h0:Next X (I 0) ts ch) {a:Act} {w:World} (hT:Ts ts a) (hd:a.defers=[]) (hs:HS X ch w):(Code.loop b).wp P (Kh X k) a w:=by
 refine wp_loop_rounds (n+1) ?_
 have out:∀ {e:Exit} {a':Act} {w':World},(∃ ts ch,Ts ts a'∧a'.defers=[]∧HS X ch w'∧Next X (k e) ts ch)→∃ ts ch,Ts ts a'∧a'.defers=[]∧HS X ch w'∧k e ts ch:=by
  rintro e a' w' ⟨ts',ch',hT',hd',hs',ts2,ch2,hk,hts,hch⟩
  exact ⟨ts2,ch2,by show a'.tmps=_;rw [show a'.tmps=_ from hT',hts],hd',hch w' hs',hk⟩
 have key:∀ (m j:Nat) (ts:List SV) (ch:List Ch) (a:Act) (w:World),j+m=n→I j ts ch→Ts ts a→a.defers=[]→HS X ch w→Code.rounds P b (Kh X k) (m+1) a w:=by
  intro m
  induction m with
  | zero =>
   intro j ts ch a w hj hI hT hd hs
   rw [rounds_succ]
   refine wp_mono (code_ok hm hb fuel b ts ch _ a w hL (body j ts ch hI (by omega)) hT hd hs) fun e a' w' hq=>?_
   cases e with
   | normal=>obtain ⟨ts',ch',_,_,_,hk,_⟩:=hq;omega
   | exit id=>exact out hq
   | ret=>exact out hq
   | goto l=>exact hq.elim
   | panic c=>exact hq.elim
   | outgrown=>exact hq.elim
  | succ m ih =>
   intro j ts ch a w hj hI hT hd hs
   rw [rounds_succ]
   refine wp_mono (code_ok hm hb fuel b ts ch _ a w hL (body j ts ch hI (by omega)) hT hd hs) fun e a' w' hq=>?_
   cases e with
   | normal =>
    obtain ⟨ts',ch',hT',hd',hs',_,ts2,ch2,hJ,hts,hch⟩:=hq
    exact ih (j+1) ts2 ch2 a' w' (by omega) hJ (by show a'.tmps=_;rw [show a'.tmps=_ from hT',hts]) hd' (hch w' hs')
   | exit id=>exact out hq
   | ret=>exact out hq
   | goto l=>exact hq.elim
   | panic c=>exact hq.elim
   | outgrown=>exact hq.elim
 obtain ⟨ts2,ch2,hJ,hts,hch⟩:=h0
 exact key n 0 ts2 ch2 a w (by omega) hJ (by show a.tmps=_;rw [show a.tmps=_ from hT,hts]) hd (hch w hs)
def FEq (n:Nat):List (Nat→SC)→List (Nat→SC)→Prop
 | [],[]=>True
 | f::fs,g::gs=>(∀ i,ltN i n→(f i).den=(g i).den)∧FEq n fs gs
 | _,_=>False
theorem FEq.len {n:Nat}:∀ {fs gs:List (Nat→SC)},FEq n fs gs→gs.length=fs.length:=by
 intro fs
 induction fs with
 | nil=>intro gs h;cases gs with | nil=>rfl | cons g gs=>exact h.elim
 | cons f fs ih=>intro gs h;cases gs with | nil=>exact h.elim | cons g gs=>simp [ih h.2]
theorem FEq.get {n:Nat}:∀ {fs gs:List (Nat→SC)},FEq n fs gs→∀ (c:Nat) (f g:Nat→SC),fs[c]?=some f→gs[c]?=some g→∀ i,i<n→(f i).den=(g i).den:=by
 intro fs
 induction fs with
 | nil=>intro gs h c f g hf;simp at hf
 | cons f0 fs ih =>
  intro gs h c f g hf hg
  cases gs with
  | nil=>exact h.elim
  | cons g0 gs =>
   cases c with
   | zero =>
    simp only [List.getElem?_cons_zero,Option.some.injEq] at hf hg
    subst hf
    subst hg
    exact h.1
   | succ c=>exact ih h.2 c f g (by simpa using hf) (by simpa using hg)
theorem HS.re {X:Cx}{ch:List Ch}{w:World}(h:HS X ch w)(id:Nat)(r:Row)(hid:ch[id]?=some (.row r))(fld:List (Nat→SC))(hf:FEq r.n r.fld fld):HS X (ch.set id (.row { r with fld:=fld })) w :=
 h.congr id r hid fld hf.len fun c f g h1 h2 i hi=>hf.get c f g h1 h2 i hi
def Row.seen (r:Row):Row:=⟨false,r.ao,0,r.s,r.n,0,r.fld⟩
theorem Row.see {w:World}{r:Row}(h:r.sat w):r.seen.sat w:=by
 refine ⟨h.1,fun _ hn=>?_,fun ho=>(by cases ho)⟩
 obtain ⟨b,off,hao,hb,_⟩:=Row.read h hn
 refine ⟨b,off,hao,hb,fun i hi c f hf=>?_⟩
 obtain ⟨b',off',hao',_,hc⟩:=Row.read h hi
 rw [hao] at hao'
 injection hao' with hao'
 injection hao' with h1 h2
 subst h1
 subst h2
 exact hc c f hf
theorem HS.rows {w:World}(M:Nat→Prop)(rs:List Row)(h:∀ r∈rs,r.own=false∧r.sat w):HS ⟨w,M⟩ (rs.map Ch.row) w:=by
 have get:∀ (i:Nat) (c:Ch),(rs.map Ch.row)[i]?=some c→∃ r∈rs,c=.row r:=fun i c hc=>by
  simp only [List.getElem?_map] at hc
  cases hi:rs[i]? with
  | none=>simp [hi] at hc
  | some r=>simp [hi] at hc;exact ⟨r,List.mem_of_getElem? hi,hc.symm⟩
 refine ⟨⟨rfl,rfl,rfl,Nat.le_refl _,fun _ _ _=>rfl⟩,fun i c hc=>?_,fun i j ci cj b _ hi _ ho _ _=>?_,fun i c b hc ho _=>?_⟩
 ·obtain ⟨r,hr,rfl⟩:=get i c hc
  exact (h r hr).2
 ·obtain ⟨r,hr,rfl⟩:=get i ci hi
  rw [show (Ch.row r).own=r.own from rfl,(h r hr).1] at ho
  cases ho
 ·obtain ⟨r,hr,rfl⟩:=get i c hc
  rw [show (Ch.row r).own=r.own from rfl,(h r hr).1] at ho
  cases ho
theorem sel_low (f:Nat→Int)(i j:Nat):selI i j (f j) (lowI i j (f i) 0)=lowI i (j+1) (f i) 0:=by
 simp only [selI,lowI]
 by_cases e:i=j
 ·rw [if_pos e,if_pos (by omega),e]
 ·rw [if_neg e]
  by_cases l:i<j
  ·rw [if_pos l,if_pos (by omega)]
  ·rw [if_neg l,if_neg (by omega)]
def loopsIn:Code→List Code
 | .loop b=>b::loopsIn b
 | .seq a b=>loopsIn a ++ loopsIn b
 | .cond _ a b=>loopsIn a ++ loopsIn b
 | .block _ b=>loopsIn b
 | _=>[]
def loopsF (f:Func):List Code :=
 match f.body with
 | some c=>loopsIn c
 | none=>[]
def theLoop (f:Func)(i:Nat):Code:=(loopsF f).getD i .skip
theorem loopsOK_of {P:Program}{X:Cx}{L:List (Nat × LSm)}:∀ c:Code,(∀ b∈loopsIn c,∀ S,lookL L (firstReg b)=some S→LoopOK P X b S)→LoopsOK P X L c:=by
 intro c
 induction c with
 | loop b ih =>
  intro h
  refine ⟨?_,ih fun d hd=>h d (by simp [loopsIn,hd])⟩
  cases hl:lookL L (firstReg b) with
  | none=>trivial
  | some S=>exact h b (by simp [loopsIn]) S hl
 | seq a b iha ihb=>intro h;exact ⟨iha fun d hd=>h d (by simp [loopsIn,hd]),ihb fun d hd=>h d (by simp [loopsIn,hd])⟩
 | cond c a b iha ihb=>intro h;exact ⟨iha fun d hd=>h d (by simp [loopsIn,hd]),ihb fun d hd=>h d (by simp [loopsIn,hd])⟩
 | block id b ih=>intro h;exact ih h
 | _=>intro _;trivial
theorem one_loop {P:Program}{X:Cx}{fn:Func}{key:Nat}{S:LSm}(hlen:(loopsF fn).length=1)(hk:firstReg (theLoop fn 0)=key)(h:LoopOK P X (theLoop fn 0) S) :
  ∀ c,fn.body=some c→LoopsOK P X [(key,S)] c:=by
 intro c hc
 refine loopsOK_of c fun b hb T hl=>?_
 have e:loopsF fn=loopsIn c:=by simp [loopsF,hc]
 rw [← e] at hb
 match hf:loopsF fn,hlen with
 | [d],_ =>
  rw [hf] at hb
  have hbd:b=d:=by simpa using hb
  have ht:theLoop fn 0=d:=by simp [theLoop,hf]
  subst hbd
  rw [ht] at hk h
  simp only [lookL,hk,Nat.beq_refl,Option.some.injEq] at hl
  subst hl
  exact h
def selC (ch:List Ch)(l:List Nat):List Ch:=l.map fun i=>ch.getD i .dead
theorem HS.sel {X:Cx}{ch:List Ch}{w:World}(h:HS X ch w)(l:List Nat)(hl:l.Nodup):HS X (selC ch l) w:=by
 have get:∀ (i:Nat) (c:Ch),(selC ch l)[i]?=some c→c=.dead∨∃ j,l[i]?=some j∧ch[j]?=some c:=fun i c hc=>by
  simp only [selC,List.getElem?_map] at hc
  cases hi:l[i]? with
  | none=>simp [hi] at hc
  | some j =>
   simp only [hi,Option.map_some,Option.some.injEq,List.getD_eq_getElem?_getD] at hc
   cases hj:ch[j]? with
   | none=>simp [hj] at hc;exact .inl hc.symm
   | some d=>simp [hj] at hc;subst hc;exact .inr ⟨j,rfl,hj⟩
 refine ⟨h.fr,fun i c hc=>?_,fun i j ci cj b hij hi hj ho hai haj=>?_,fun i c b hc ho ha=>?_⟩
 ·rcases get i c hc with rfl | ⟨j,_,hj⟩
  ·trivial
  ·exact h.sat j c hj
 ·rcases get i ci hi with rfl | ⟨i',hi1,hi2⟩
  ·exact hai.elim
  ·rcases get j cj hj with rfl | ⟨j',hj1,hj2⟩
   ·exact haj.elim
   ·refine h.dis i' j' ci cj b (fun e=>hij ?_) hi2 hj2 ho hai haj
    subst e
    obtain ⟨h1,h2⟩:=List.getElem?_eq_some_iff.1 hi1
    obtain ⟨h3,h4⟩:=List.getElem?_eq_some_iff.1 hj1
    have hp:=List.pairwise_iff_getElem.1 hl
    rcases Nat.lt_trichotomy i j with hlt | heq | hgt
    ·exact absurd (h2.trans h4.symm) (hp i j h1 h3 hlt)
    ·exact heq
    ·exact absurd (h4.trans h2.symm) (hp j i h3 h1 hgt)
 ·rcases get i c hc with rfl | ⟨j,_,hj⟩
  ·exact ha.elim
  ·exact h.new j c b hj ho ha
theorem HS.join {X:Cx}{ch new:List Ch}{w w':World}(h:HS X ch w)(h':HS ⟨w,fun _=>False⟩ new w')(hall:∀ c∈new,c.own=true∨c=.dead):HS X (ch ++ new) w':=by
 have hb:Below w.heap.size w w':=h'.below
 have hk:=h.keep hb
 have lt:∀ (i:Nat) (c:Ch) (b:Nat),ch[i]?=some c→c.at b→b<w.heap.size:=fun i c b hc ha=>Ch.sat_lt (h.sat i c hc) ha
 have ge:∀ (i:Nat) (c:Ch) (b:Nat),new[i]?=some c→c.at b→w.heap.size≤b:=fun i c b hc ha=>by
  rcases hall c (List.mem_of_getElem? hc) with ho | rfl
  ·rcases h'.new i c b hc ho ha with h1 | h1
   ·exact h1
   ·exact h1.elim
  ·exact ha.elim
 have get:∀ (i:Nat) (c:Ch),(ch ++ new)[i]?=some c→ch[i]?=some c∨(ch.length≤i∧new[i-ch.length]?=some c):=fun i c hc=>by
  rw [List.getElem?_append] at hc
  split at hc
  ·exact .inl hc
  ·exact .inr ⟨by omega,hc⟩
 refine ⟨hk.fr,fun i c hc=>?_,fun i j ci cj b hij hi hj ho hai haj=>?_,fun i c b hc ho ha=>?_⟩
 ·rcases get i c hc with hc | ⟨_,hc⟩
  ·exact hk.sat i c hc
  ·exact h'.sat _ c hc
 ·rcases get i ci hi with hi | ⟨hi0,hi⟩
  ·rcases get j cj hj with hj | ⟨_,hj⟩
   ·exact h.dis i j ci cj b hij hi hj ho hai haj
   ·have:=lt i ci b hi hai
    have:=ge _ cj b hj haj
    omega
  ·rcases get j cj hj with hj | ⟨hj0,hj⟩
   ·have:=lt j cj b hj haj
    have:=ge _ ci b hi hai
    omega
   ·exact h'.dis _ _ ci cj b (by omega) hi hj ho hai haj
 ·rcases get i c hc with hc | ⟨_,hc⟩
  ·exact h.new i c b hc ho ha
  ·exact .inl (Nat.le_trans h.fr.size (ge _ c b hc ha))
def ownAll (new:List Ch):Bool:=new.all fun c=>match c with | .dead=>true | c=>c.own
theorem ownAll_ok {new:List Ch}(h:ownAll new=true):∀ c∈new,c.own=true∨c=.dead:=fun c hc=>by
 have:=List.all_eq_true.1 h c hc
 cases c with
 | dead=>exact .inr rfl
 | cells b t cs=>exact .inl rfl
 | row r=>exact .inl this
 | obj o rs=>exact .inl this
 | whole b t g z x=>exact .inl rfl
theorem smN {P:Program}{f:FuncId}(hc:∀ args w,(callFunc f args).run P w=.ok (.enter f args) w){S:Sm}
  (h:∀ (args:List SV) (ch:List Ch) (k:EK) (w:World) (X:Cx),S args ch k→HS X ch w→Calls P f (args.map SV.den).toArray w fun e w'=>∃ v new,e=.returned v.den∧HS ⟨w,fun _=>False⟩ new w'∧ownAll new=true∧k v (ch ++ new) []):SmOK P f S :=
 ⟨hc,fun X args ch k w hS hs=>Calls.mono (h args ch k w X hS hs) fun _ _ ⟨v,_,he,hn,ho,hk⟩=>⟨v,_,[],he,hs.join hn (ownAll_ok ho),Agree.app _ _,hk⟩⟩
theorem HS.swap {X:Cx}{ch:List Ch}{w w':World}(h:HS X ch w){M:Nat→Prop}{ids:List Nat}{ch':List Ch}(h':HS ⟨w,M⟩ ch' w')
  (hM:∀ b,M b→∃ i∈ids,∃ c,ch[i]?=some c∧c.own=true∧c.at b) {out:List Ch} (hlen:out.length=ch.length)
  (hout:∀ (i:Nat) (d:Ch),out[i]?=some d→(i ∉ ids∧ch[i]?=some d)∨(i∈ids∧Ch.sat w' d∧∃ c,ch[i]?=some c∧c.own=true∧∀ b,d.at b→c.at b)):HS X out w':=by
 have keep:∀ (i:Nat) (c:Ch),i ∉ ids→ch[i]?=some c→∀ b,c.at b→w'.heap[b]?=w.heap[b]?:=fun i c hi hc b ha =>
  h'.fr.block b (Ch.sat_lt (h.sat i c hc) ha) fun hm=>by
   obtain ⟨j,hj,d,hd,hod,had⟩:=hM b hm
   exact h.dis j i d c b (fun e=>hi (e ▸ hj)) hd hc hod had ha
 have old:∀ (i:Nat) (d:Ch),out[i]?=some d→∃ c,ch[i]?=some c∧(d.own=true→c.own=true)∧∀ b,d.at b→c.at b:=fun i d hd=>by
  rcases hout i d hd with ⟨_,h1⟩ | ⟨_,_,c,h1,h2,h3⟩
  ·exact ⟨d,h1,fun e=>e,fun _ e=>e⟩
  ·exact ⟨c,h1,fun _=>h2,h3⟩
 refine ⟨⟨h'.fr.os.trans h.fr.os,h'.fr.tape.trans h.fr.tape,h'.fr.output.trans h.fr.output,Nat.le_trans h.fr.size h'.fr.size,fun k hk hkM=>?_⟩,fun i d hd=>?_,fun i j ci cj b hij hi hj ho hai haj=>?_,fun i c b hc ho ha=>?_⟩
 ·refine (h'.fr.block k (Nat.lt_of_lt_of_le hk h.fr.size) fun hm=>?_).trans (h.fr.block k hk hkM)
  obtain ⟨j,_,c,hc,hoc,hac⟩:=hM k hm
  rcases h.new j c k hc hoc hac with h1 | h1
  ·omega
  ·exact hkM h1
 ·rcases hout i d hd with ⟨hi,h1⟩ | ⟨_,h1,_⟩
  ·exact Ch.sat_keep (h.sat i d h1) h'.fr.size (keep i d hi h1)
  ·exact h1
 ·obtain ⟨c1,h1,h2,h3⟩:=old i ci hi
  obtain ⟨c2,h4,h5,h6⟩:=old j cj hj
  exact h.dis i j c1 c2 b hij h1 h4 (h2 ho) (h3 b hai) (h6 b haj)
 ·obtain ⟨c1,h1,h2,h3⟩:=old i c hc
  exact h.new i c1 b h1 (h2 ho) (h3 b ha)
theorem HS.swap1 {X:Cx}{ch:List Ch}{w w':World}(h:HS X ch w){id:Nat}{c d:Ch}(hid:ch[id]?=some c)(ho:c.own=true)(h':HS ⟨w,c.at⟩ [d] w')(hd:∀ b,d.at b→c.at b):HS X (ch.set id d) w':=by
 refine h.swap (ids:=[id]) h' (fun b hb=>⟨id,by simp,c,hid,ho,hb⟩) (by simp) fun i e he=>?_
 rcases get_set he with ⟨rfl,rfl,_⟩ | ⟨hne,he⟩
 ·exact .inr ⟨by simp,h'.sat 0 _ rfl,c,hid,ho,hd⟩
 ·exact .inl ⟨by simp [hne],he⟩
theorem HS.swap2 {X:Cx}{ch:List Ch}{w w':World}(h:HS X ch w){i1 i2:Nat}{c1 c2 d1 d2:Ch}(h1:ch[i1]?=some c1)(h2:ch[i2]?=some c2)(hne:i1 ≠ i2)(o1:c1.own=true)(o2:c2.own=true){ch':List Ch}
  (h':HS ⟨w,fun b=>c1.at b∨c2.at b⟩ ch' w') (s1:Ch.sat w' d1) (s2:Ch.sat w' d2) (hd1:∀ b,d1.at b→c1.at b) (hd2:∀ b,d2.at b→c2.at b):HS X ((ch.set i1 d1).set i2 d2) w':=by
 refine h.swap (ids:=[i1,i2]) h' (fun b hb=>?_) (by simp) fun i e he=>?_
 ·rcases hb with hb | hb
  ·exact ⟨i1,by simp,c1,h1,o1,hb⟩
  ·exact ⟨i2,by simp,c2,h2,o2,hb⟩
 ·rcases get_set he with ⟨rfl,rfl,_⟩ | ⟨hn2,he⟩
  ·exact .inr ⟨by simp,s2,c2,h2,o2,hd2⟩
  ·rcases get_set he with ⟨rfl,rfl,_⟩ | ⟨hn1,he⟩
   ·exact .inr ⟨by simp,s1,c1,h1,o1,hd1⟩
   ·exact .inl ⟨by simp [hn1,hn2],he⟩
theorem HS.owns {w:World}{X:Cx}{ch:List Ch}(h:HS X ch w)(l:List Nat)(hl:l.Nodup)(M:Nat→Prop)(hM:∀ (i:Nat) (c:Ch) (b:Nat),(selC ch l)[i]?=some c→c.own=true→c.at b→M b):HS ⟨w,M⟩ (selC ch l) w:=by
 have:=h.sel l hl
 exact ⟨⟨rfl,rfl,rfl,Nat.le_refl _,fun _ _ _=>rfl⟩,this.sat,this.dis,fun i c b hc ho ha=>.inr (hM i c b hc ho ha)⟩
def inlM (P:Program)(E:Env)(n:Nat)(fn:Func):Sm:=fun args ch k=>exFn P E n fn args ch fun v ch'=>k v ch' (List.range ch.length)
theorem inlM_ok {P:Program}(hm:P.follows .mixedOrders=true){E:Env}(hb:TbOK P E.tb){n:Nat}{f:FuncId}{fn:Func}(hf:P.funcs[f]?=some fn)(hc:∀ args w,(callFunc f args).run P w=.ok (.enter f args) w)
  (hL:∀ X c,fn.body=some c→LoopsOK P X E.L c):SmOK P f (inlM P E n fn) :=
 ⟨hc,fun X args ch k w hS hs=>fn_ok hm hb hf (hL X) hS hs fun v ch' w' hk hs'=>⟨v,ch',_,rfl,hs',fun i c hi hn=>absurd (List.mem_range.2 (List.getElem?_eq_some_iff.1 hi).1) hn,hk⟩⟩
def idsC:SC→List Nat
 | .sl id _ _ _=>[id]
 | .slc id _ _ _=>[id]
 | _=>[]
def idsL:List SC→List Nat
 | []=>[]
 | x::r=>idsC x ++ idsL r
def idsA:SA→List Nat
 | .c x=>idsC x
 | .agg xs=>idsL xs
def idsT:List SA→List Nat
 | []=>[]
 | x::r=>idsA x ++ idsT r
def idsOf:SV→List Nat
 | .a x=>idsA x
 | .tup xs=>idsT xs
 | .undef=>[]
def memB (n:Nat):List Nat→Bool
 | []=>false
 | m::r=>Nat.beq n m || memB n r
def nodupB:List Nat→Bool
 | []=>true
 | n::r=>!memB n r&&nodupB r
theorem memB_ok {n:Nat}{l:List Nat}(h:memB n l=false):n ∉ l:=by
 induction l with
 | nil=>simp
 | cons m r ih =>
  simp only [memB,Bool.or_eq_false_iff] at h
  intro hm
  rcases List.mem_cons.1 hm with rfl | hm
  ·rw [Nat.beq_refl] at h;cases h.1
  ·exact ih h.2 hm
theorem nodupB_ok {l:List Nat}(h:nodupB l=true):l.Nodup:=by
 induction l with
 | nil=>exact List.nodup_nil
 | cons n r ih =>
  simp only [nodupB,Bool.and_eq_true,Bool.not_eq_true'] at h
  exact List.nodup_cons.2 ⟨memB_ok h.1,ih h.2⟩
def OutIs (v:SV)(ch:List Ch)(V:Value)(rows:List Ch):Prop:=v.den=V∧selC ch (idsOf v)=rows∧nodupB (idsOf v)=true
theorem OutIs.hs {v:SV}{ch:List Ch}{V:Value}{rows:List Ch}(h:OutIs v ch V rows){X:Cx}{w:World}(hs:HS X ch w):HS X rows w:=by
 have:=hs.sel _ (nodupB_ok h.2.2)
 rwa [h.2.1] at this
end Go.Proofs.YtbhfabaofhhkeaaGreat
namespace Go.Proofs.YtbhfabaofhhkeaaGreat
set_option linter.unusedVariables false
set_option linter.unusedSimpArgs false
open Go.RowKit
def CEq1 (i:Nat):List (Nat→SC)→List SC→(List SC→Prop)→Prop
 | [],l,k=>k l
 | f::fs,x::l,k=>x.den=(f i).den∧CEq1 i fs l k
 | _::_,[],_=>False
def CEq (fs:List (Nat→SC)):Nat→Nat→List SC→(Nat→Prop)→Prop
 | _,i,[],k=>k i
 | 0,_,_::_,_=>False
 | m+1,i,x::l,k=>CEq1 i fs (x::l) fun l'=>CEq fs m (i+1) l' k
theorem CEq1.get {i:Nat}:∀ {fs:List (Nat→SC)} {l:List SC} {k:List SC→Prop},CEq1 i fs l k→fs.length≤l.length∧k (l.drop fs.length)∧∀ (c:Nat) (f:Nat→SC),fs[c]?=some f→∃ x,l[c]?=some x∧x.den=(f i).den:=by
 intro fs
 induction fs with
 | nil=>intro l k h;exact ⟨by simp,by simpa [CEq1] using h,fun c f hf=>by simp at hf⟩
 | cons g fs ih =>
  intro l k h
  cases l with
  | nil=>exact h.elim
  | cons x l =>
   obtain ⟨h1,h2⟩:=h
   obtain ⟨h3,h4,h5⟩:=ih h2
   refine ⟨by simpa using h3,by simpa using h4,fun c f hf=>?_⟩
   cases c with
   | zero=>simp at hf;subst hf;exact ⟨x,rfl,h1⟩
   | succ c=>simpa using h5 c f (by simpa using hf)
theorem CEq.get {fs:List (Nat→SC)}{k:Nat→Prop}:∀ {m i:Nat} {l:List SC},CEq fs m i l k→∃ n,k (i+n)∧l.length=n*fs.length∧∀ j,j<n→∀ (c:Nat) (f:Nat→SC),fs[c]?=some f→∃ x,l[j*fs.length+c]?=some x∧x.den=(f (i+j)).den:=by
 intro m
 induction m with
 | zero =>
  intro i l h
  cases l with
  | nil=>exact ⟨0,by simpa [CEq] using h,by simp,fun j hj=>by omega⟩
  | cons x l=>exact h.elim
 | succ m ih =>
  intro i l h
  cases l with
  | nil=>exact ⟨0,by simpa [CEq] using h,by simp,fun j hj=>by omega⟩
  | cons x l =>
   obtain ⟨h1,h2,h3⟩:=CEq1.get h
   obtain ⟨n,h0,h4,h5⟩:=ih h2
   refine ⟨n+1,by rw [← Nat.add_assoc,Nat.add_right_comm];exact h0,?_,fun j hj c f hf=>?_⟩
   ·simp only [List.length_drop] at h4
    rw [Nat.succ_mul]
    omega
   ·cases j with
    | zero=>obtain ⟨x,hx,hd⟩:=h3 c f hf;exact ⟨x,by simpa using hx,by simpa using hd⟩
    | succ j =>
     obtain ⟨x,hx,hd⟩:=h5 j (by omega) c f hf
     rw [List.getElem?_drop] at hx
     refine ⟨x,?_,?_⟩
     ·rw [← hx,Nat.succ_mul]
      congr 1
      omega
     ·rw [hd]
      congr 2
      omega
def ReL1:Ch→Ch→Prop
 | .row r,.row r'=>r.own=r'.own∧r.ao=r'.ao∧r.t=r'.t∧r.s=r'.s∧r.n=r'.n∧r.cap=r'.cap∧FEq r.n r.fld r'.fld
 | .cells b t cs,.row r'=>true=r'.own∧some ⟨b,0,none⟩=r'.ao∧t=r'.t∧Nat.beq r'.fld.length r'.s=true∧CEq r'.fld cs.length 0 cs fun n=>n=r'.n∧n=r'.cap∧Nat.ble n 1048576=true
 | .dead,.row r'=>true=r'.own∧none=r'.ao∧0=r'.n∧0=r'.cap∧Nat.beq r'.fld.length r'.s=true
 | .dead,.dead=>True
 | _,_=>False
def ReL:List Ch→List Ch→Prop
 | [],[]=>True
 | c::l,d::m=>ReL1 c d∧ReL l m
 | _,_=>False
theorem FEq.get' {n:Nat}:∀ {fs gs:List (Nat→SC)},FEq n fs gs→∀ (c:Nat) (g:Nat→SC),gs[c]?=some g→∃ f:Nat→SC,fs[c]?=some f∧∀ i,i<n→(f i).den=(g i).den:=fun {fs gs} h c g hg=>by
 have hc:c<fs.length:=by rw [← h.len];exact (List.getElem?_eq_some_iff.1 hg).1
 exact ⟨_,List.getElem?_eq_getElem hc,h.get c _ g (List.getElem?_eq_getElem hc) hg⟩
theorem ReL1.ok {c d:Ch}(h:ReL1 c d){w:World}(hs:c.sat w):d.sat w∧(d.own=c.own∨∀ b,¬ d.at b)∧∀ b,d.at b→c.at b:=by
 cases c with
 | row r =>
  cases d with
  | row r' =>
   obtain ⟨o,ao,t,s,n,cap,fs⟩:=r
   obtain ⟨o',ao',t',s',n',cap',gs⟩:=r'
   obtain ⟨h1,h2,h3,h4,h5,h6,hf⟩:=h
   simp only at h1 h2 h3 h4 h5 h6 hf
   subst h1 h2 h3 h4 h5 h6
   refine ⟨?_,.inl rfl,fun b hb=>hb⟩
   have hs:Row.sat w ⟨o,ao,t,s,n,cap,fs⟩:=hs
   refine ⟨hf.len.trans hs.1,fun ho hn=>?_,fun ho=>?_⟩
   ·obtain ⟨b,off,e1,e2,e3⟩:=hs.2.1 ho hn
    refine ⟨b,off,e1,e2,fun i hi c g hg=>?_⟩
    obtain ⟨f,hf1,hf2⟩:=hf.get' c g hg
    rw [e3 i hi c f hf1,hf2 i hi]
   ·rcases hs.2.2 ho with h1 | ⟨b,cs,e1,e2,e3,e4,e5,e6⟩
    ·exact .inl h1
    ·refine .inr ⟨b,cs,e1,e2,e3,e4,e5,fun i hi c g hg=>?_⟩
     obtain ⟨f,hf1,hf2⟩:=hf.get' c g hg
     rw [e6 i hi c f hf1,hf2 i hi]
  | cells b t cs=>exact h.elim
  | dead=>exact h.elim
  | obj o rs=>exact h.elim
  | whole b t g z x=>exact h.elim
 | cells b t cs =>
  cases d with
  | row r' =>
   obtain ⟨o',ao',t',s',n',cap',gs⟩:=r'
   obtain ⟨h1,h2,h3,h4,hf⟩:=h
   simp only at h1 h2 h3 h4 hf
   obtain ⟨n0,⟨h5,h6,h7⟩,hl,hg⟩:=hf.get
   rw [Nat.zero_add] at h5 h6 h7
   have h4:=Nat.eq_of_beq_eq_true h4
   subst h1 h2 h3 h4 h5 h6
   have hm:=Nat.le_of_ble_eq_true h7
   have hb:w.heap[b]?=some (.cells (cs.map SC.den).toArray t (0,0)):=hs
   refine ⟨⟨rfl,fun ho=>(by cases ho),fun _=>.inr ⟨b,_,rfl,hb,Nat.le_refl _,by show _≤maxLen;simp only [maxLen];omega,by simp [hl],fun i hi c f hf'=>?_⟩⟩,.inl rfl,fun b' hb'=>?_⟩
   ·obtain ⟨x,hx,hd⟩:=hg i hi c f hf'
    simp only [List.getElem?_toArray,List.getElem?_map]
    show Option.map SC.den cs[i*gs.length+c]?=_
    rw [hx,Option.map_some,hd,Nat.zero_add]
   ·obtain ⟨_,off,ha⟩:=hb'
    injection ha with ha
    injection ha with ha
    exact ha.symm
  | cells b t cs=>exact h.elim
  | dead=>exact h.elim
  | obj o rs=>exact h.elim
  | whole b t g z x=>exact h.elim
 | dead =>
  cases d with
  | dead=>exact ⟨trivial,.inl rfl,fun _ h=>h⟩
  | row r' =>
   obtain ⟨o',ao',t',s',n',cap',gs⟩:=r'
   obtain ⟨h1,h2,h3,h4,h5⟩:=h
   simp only at h1 h2 h3 h4 h5
   have h5:=Nat.eq_of_beq_eq_true h5
   subst h1 h2 h3 h4 h5
   exact ⟨⟨rfl,fun ho=>(by cases ho),fun _=>.inl ⟨rfl,rfl,rfl⟩⟩,Or.inr (fun b hb=>(by obtain ⟨_,off,hb⟩:=hb;cases hb)),fun b hb=>(by obtain ⟨_,off,hb⟩:=hb;cases hb)⟩
  | cells b t cs=>exact h.elim
  | obj o rs=>exact h.elim
  | whole b t g z x=>exact h.elim
 | obj o rs=>cases d <;> exact h.elim
 | whole b t g z x=>cases d <;> exact h.elim
theorem ReL.get:∀ {l m:List Ch},ReL l m→∀ (i:Nat) (d:Ch),m[i]?=some d→∃ c,l[i]?=some c∧ReL1 c d:=by
 intro l
 induction l with
 | nil=>intro m h i d hd;cases m with | nil=>simp at hd | cons _ _=>exact h.elim
 | cons c l ih =>
  intro m h i d hd
  cases m with
  | nil=>exact h.elim
  | cons e m =>
   cases i with
   | zero=>simp at hd;subst hd;exact ⟨c,rfl,h.1⟩
   | succ i=>simpa using ih h.2 i d (by simpa using hd)
theorem HS.reL {X:Cx}{l m:List Ch}{w:World}(h:HS X l w)(hr:ReL l m):HS X m w where
 fr:=h.fr
 sat:=fun i d hd=>by
  obtain ⟨c,hc,hcd⟩:=hr.get i d hd
  exact (hcd.ok (h.sat i c hc)).1
 dis:=fun i j ci cj b hij hi hj ho hai haj=>by
  obtain ⟨c,hc,hcd⟩:=hr.get i ci hi
  obtain ⟨c',hc',hcd'⟩:=hr.get j cj hj
  have h1:=hcd.ok (h.sat i c hc)
  have h2:=hcd'.ok (h.sat j c' hc')
  exact h.dis i j c c' b hij hc hc' ((h1.2.1.resolve_right fun q=>q b hai) ▸ ho) (h1.2.2 b hai) (h2.2.2 b haj)
 new:=fun i d b hd ho ha=>by
  obtain ⟨c,hc,hcd⟩:=hr.get i d hd
  have h1:=hcd.ok (h.sat i c hc)
  exact h.new i c b hc ((h1.2.1.resolve_right fun q=>q b ha) ▸ ho) (h1.2.2 b ha)
def oidC:SC→List (Option Nat)
 | .sl id _ _ _=>[some id]
 | .slc id _ _ _=>[some id]
 | .nil=>[none]
 | _=>[]
def oidL:List SC→List (Option Nat)
 | []=>[]
 | x::r=>oidC x ++ oidL r
def oidA:SA→List (Option Nat)
 | .c x=>oidC x
 | .agg xs=>oidL xs
def oidT:List SA→List (Option Nat)
 | []=>[]
 | x::r=>oidA x ++ oidT r
def oidOf:SV→List (Option Nat)
 | .a x=>oidA x
 | .tup xs=>oidT xs
 | .undef=>[]
def somesL:List (Option Nat)→List Nat
 | []=>[]
 | some i::r=>i::somesL r
 | none::r=>somesL r
def selO (ch:List Ch)(l:List (Option Nat)):List Ch:=l.map fun o=>match o with
 | some i=>ch.getD i .dead
 | none=>.dead
theorem somesL_mem {l:List (Option Nat)}{i:Nat}{a:Nat}(h:l[i]?=some (some a)):a∈somesL l:=by
 induction l generalizing i with
 | nil=>simp at h
 | cons o l ih =>
  cases i with
  | zero=>simp at h;subst h;simp [somesL]
  | succ i=>simp at h;cases o with | none=>exact ih h | some b=>exact List.mem_cons_of_mem _ (ih h)
theorem somesL_inj {l:List (Option Nat)}(hl:(somesL l).Nodup):∀ {i j a:Nat},l[i]?=some (some a)→l[j]?=some (some a)→i=j:=by
 induction l with
 | nil=>intro i j a h;simp at h
 | cons o l ih =>
  intro i j a hi hj
  have hl':(somesL l).Nodup:=by cases o with | none=>exact hl | some b=>exact (List.nodup_cons.1 hl).2
  cases i with
  | zero =>
   cases j with
   | zero=>rfl
   | succ j =>
    simp at hi hj
    subst hi
    exact absurd (somesL_mem hj) (List.nodup_cons.1 hl).1
  | succ i =>
   cases j with
   | zero =>
    simp at hi hj
    subst hj
    exact absurd (somesL_mem hi) (List.nodup_cons.1 hl).1
   | succ j=>simp at hi hj;rw [ih hl' hi hj]
theorem HS.selO {X:Cx}{ch:List Ch}{w:World}(h:HS X ch w)(l:List (Option Nat))(hl:(somesL l).Nodup):HS X (selO ch l) w:=by
 have get:∀ (i:Nat) (c:Ch),(Go.Proofs.YtbhfabaofhhkeaaGreat.selO ch l)[i]?=some c→c=.dead∨∃ j,l[i]?=some (some j)∧ch[j]?=some c:=fun i c hc=>by
  simp only [Go.Proofs.YtbhfabaofhhkeaaGreat.selO,List.getElem?_map] at hc
  cases hi:l[i]? with
  | none=>simp [hi] at hc
  | some o =>
   cases o with
   | none=>simp [hi] at hc;exact .inl hc.symm
   | some j =>
    simp only [hi,Option.map_some,Option.some.injEq,List.getD_eq_getElem?_getD] at hc
    cases hj:ch[j]? with
    | none=>simp [hj] at hc;exact .inl hc.symm
    | some d=>simp [hj] at hc;subst hc;exact .inr ⟨j,rfl,hj⟩
 refine ⟨h.fr,fun i c hc=>?_,fun i j ci cj b hij hi hj ho hai haj=>?_,fun i c b hc ho ha=>?_⟩
 ·rcases get i c hc with rfl | ⟨j,_,hj⟩
  ·trivial
  ·exact h.sat j c hj
 ·rcases get i ci hi with rfl | ⟨i',hi1,hi2⟩
  ·exact hai.elim
  ·rcases get j cj hj with rfl | ⟨j',hj1,hj2⟩
   ·exact haj.elim
   ·exact h.dis i' j' ci cj b (fun e=>hij (somesL_inj hl hi1 (e ▸ hj1))) hi2 hj2 ho hai haj
 ·rcases get i c hc with rfl | ⟨j,_,hj⟩
  ·exact ha.elim
  ·exact h.new j c b hj ho ha
def OutR (v:SV)(ch:List Ch)(V:Value)(rows:List Ch):Prop:=v.den=V∧ReL (selO ch (oidOf v)) rows∧nodupB (somesL (oidOf v))=true
theorem OutR.hs {v:SV}{ch:List Ch}{V:Value}{rows:List Ch}(h:OutR v ch V rows){X:Cx}{w:World}(hs:HS X ch w):HS X rows w:=(hs.selO _ (nodupB_ok h.2.2)).reL h.2.1
end Go.Proofs.YtbhfabaofhhkeaaGreat
namespace Go.Proofs.YtbhfabaofhhkeaaGreat
set_option linter.unusedVariables false
set_option linter.unusedSimpArgs false
open Go.RowKit
theorem map_get {α β:Type}{f:α→β}{l:List α}{i:Nat}{y:β}(h:(l.map f)[i]?=some y):∃ x,l[i]?=some x∧y=f x:=by
 simp only [List.getElem?_map] at h
 cases hi:l[i]? with
 | none=>simp [hi] at h
 | some x=>simp [hi] at h;exact ⟨x,rfl,h.symm⟩
theorem mem0 {α:Type}{a:α}{l:List α}:a∈a::l:=by simp
theorem memS {α:Type}{a b:α}{l:List α}(h:a∈l):a∈b::l:=List.mem_cons_of_mem _ h
theorem rows_seen {w:World}(rs:List Row)(h:∀ r∈rs,r.own=false∧r.sat w):∀ r∈rs,r.own=false∧r.sat w:=h
theorem one_get {α:Type}{x y:α}{i:Nat}(h:[x][i]?=some y):i=0∧y=x:=by
 cases i with
 | zero=>simp at h;exact ⟨rfl,h.symm⟩
 | succ i=>simp at h
theorem HS.pack {X:Cx}{rs:List Row}{w:World}(h:HS X (rs.map Ch.row) w)(ho:∀ r∈rs,r.own=true):HS X [.obj true rs] w:=by
 have at':∀ {r:Row},r∈rs→∃ i:Nat,(rs.map Ch.row)[i]?=some (.row r):=fun {r} hr=>by
  obtain ⟨i,hi,rfl⟩:=List.getElem_of_mem hr
  exact ⟨i,by simp [hi]⟩
 refine ⟨h.fr,fun i c hc=>?_,fun i j ci cj b hij hi hj _ _ _=>?_,fun i c b hc _ ha=>?_⟩
 ·obtain ⟨_,rfl⟩:=one_get hc
  refine ⟨fun r hr=>⟨ho r hr,?_⟩,fun _ i j p q b hij hi hj ha hb=>?_⟩
  ·obtain ⟨i,hi⟩:=at' hr
   exact h.sat i _ hi
  ·exact h.dis i j (.row p) (.row q) b hij (by simp [hi]) (by simp [hj]) (ho p (List.mem_of_getElem? hi)) ha hb
 ·exact absurd ((one_get hi).1.trans (one_get hj).1.symm) hij
 ·obtain ⟨_,rfl⟩:=one_get hc
  obtain ⟨r,hr,ha⟩:=ha
  obtain ⟨i,hi⟩:=at' hr
  exact h.new i _ b hi (ho r hr) ha
theorem HS.open {X:Cx}{ch:List Ch}{w:World}(h:HS X ch w){id:Nat}{rs:List Row}(hid:ch[id]?=some (.obj true rs)):HS ⟨w,(Ch.obj true rs).at⟩ (rs.map Ch.row) w:=by
 have hs:=h.sat id _ hid
 refine ⟨⟨rfl,rfl,rfl,Nat.le_refl _,fun _ _ _=>rfl⟩,fun i c hc=>?_,fun i j ci cj b hij hi hj _ ha hb=>?_,fun i c b hc _ ha=>.inr ?_⟩
 ·obtain ⟨r,hr,rfl⟩:=map_get hc
  exact (hs.1 r (List.mem_of_getElem? hr)).2
 ·obtain ⟨p,hp,rfl⟩:=map_get hi
  obtain ⟨q,hq,rfl⟩:=map_get hj
  exact hs.2 rfl i j p q b hij hp hq ha hb
 ·obtain ⟨r,hr,rfl⟩:=map_get hc
  exact ⟨r,List.mem_of_getElem? hr,ha⟩
theorem HS.seeObj {X:Cx}{ch:List Ch}{w:World}(h:HS X ch w){id:Nat}{o:Bool}{rs:List Row}(hid:ch[id]?=some (.obj o rs)):∀ r∈rs,r.own=o∧r.sat w:=(h.sat id _ hid).1
theorem smTurnO {P:Program}{f:FuncId}(hc:∀ args w,(callFunc f args).run P w=.ok (.enter f args) w){S:Sm}
  (h:∀ (args:List SV) (ch:List Ch) (k:EK) (w:World) (X:Cx),S args ch k→HS X ch w→∃ (v:SV) (id:Nat) (rs rs':List Row),ch[id]?=some (.obj true rs)∧k v (ch.set id (.obj true rs')) [id]∧(∀ r∈rs',r.own=true)∧(∀ b,(Ch.obj true rs').at b→(Ch.obj true rs).at b) ∧
   Calls P f (args.map SV.den).toArray w fun e w'=>e=.returned v.den∧HS ⟨w,(Ch.obj true rs).at⟩ (rs'.map Ch.row) w'):SmOK P f S :=
 ⟨hc,fun X args ch k w hS hs=>by
  obtain ⟨v,id,rs,rs',hid,hk,ho,hat,hcall⟩:=h args ch k w X hS hs
  exact Calls.mono hcall fun e w' ⟨he,hn⟩=>⟨v,_,[id],he,hs.swap1 hid rfl (hn.pack ho) hat,Agree.set _ _ _,hk⟩⟩
theorem smV {P:Program}{f:FuncId}(hc:∀ args w,(callFunc f args).run P w=.ok (.enter f args) w){S:Sm}
  (h:∀ (args:List SV) (ch:List Ch) (k:EK) (w:World) (X:Cx),S args ch k→HS X ch w→Calls P f (args.map SV.den).toArray w fun e w'=>∃ v:SV,e=.returned v.den∧Below w.heap.size w w'∧k v ch []):SmOK P f S :=
 ⟨hc,fun X args ch k w hS hs=>Calls.mono (h args ch k w X hS hs) fun e w' ⟨v,he,hb,hk⟩=>⟨v,ch,[],he,hs.keep hb,Agree.refl _,hk⟩⟩
theorem at_cons {r r':Row}{rs rs':List Row}(h1:r'.own=r.own)(h2:r'.ao=r.ao)(h3:r'.n=r.n)(h:∀ b,(Ch.obj true rs').at b→(Ch.obj true rs).at b):∀ b,(Ch.obj true (r'::rs')).at b→(Ch.obj true (r::rs)).at b:=fun b hb=>by
 obtain ⟨q,hq,ha⟩:=hb
 rcases List.mem_cons.1 hq with rfl | hq
 ·exact ⟨r,by simp,by obtain ⟨h4,off,h5⟩:=ha;exact ⟨by rw [← h1,← h3];exact h4,off,by rw [← h2];exact h5⟩⟩
 ·obtain ⟨p,hp,hpa⟩:=h b ⟨q,hq,ha⟩
  exact ⟨p,List.mem_cons_of_mem _ hp,hpa⟩
theorem cells_seen {w:World}{b:Nat}{t:TypeId}{cs:List SC}{l:List Int}(h:Ch.sat w (.cells b t cs))(hl:intL cs=some l){s n:Nat}(hn:n*s≤cs.length){F:List (Nat→SC)}(hF:F.length=s)
  (hf:∀ (c:Nat) (f:Nat→SC),F[c]?=some f→∀ i,i<n→(f i).den=.int .i64 (getZ l (s*i+c))):Row.sat w ⟨false,some ⟨b,0,none⟩,0,s,n,0,F⟩:=by
 have hb:w.heap[b]?=some (.cells (cs.map SC.den).toArray t (0,0)):=h
 refine ⟨hF,fun _ hn0=>⟨b,0,rfl,(Array.getElem?_eq_some_iff.1 hb).1,fun i hi c f hfc=>?_⟩,fun ho=>(by cases ho)⟩
 have hc:c<s:=by rw [← hF];exact (List.getElem?_eq_some_iff.1 hfc).1
 have hlt:i*s+c<cs.length:=by
  have:(i+1)*s≤n*s:=Nat.mul_le_mul_right _ hi
  rw [Nat.add_mul] at this
  omega
 have hx:=(intL_get hl).2 (i*s+c) _ (List.getElem?_eq_getElem hlt)
 rw [hf c f hfc i hi,Nat.mul_comm s i,← hx]
 simp [World.cell?,hb,hlt]
def rd2 (ch:List Ch)(x:SC)(K:Nat→(Nat→Int)→(Nat→Int)→Prop):Prop :=
 match x with
 | .sl id ao n _ =>
  match ch[id]? with
  | some (.row r)=>∃ g0 g1:Nat→Int,(ao=r.ao∧n=r.n∧r.fld=[fun i=>.int (g0 i),fun i=>.int (g1 i)])∧K n g0 g1
  | _=>False
 | .slc id b n _ =>
  match ch[id]? with
  | some (.cells b' _ cs) =>
   match intL cs,Nat.ble (n*2) cs.length with
   | some l,true=>b=b'∧K n (fun i=>getZ l (2*i)) fun i=>getZ l (2*i+1)
   | _,_=>False
  | _=>False
 | .nil=>K 0 (fun _=>0) fun _=>0
 | _=>False
theorem nil_seen {w:World}{s:Nat}{F:List (Nat→SC)}(hF:F.length=s):Row.sat w ⟨false,none,0,s,0,0,F⟩:=⟨hF,fun _ h=>absurd h (Nat.lt_irrefl 0),fun ho=>(by cases ho)⟩
theorem seenAs' {w:World}{r:Row}(h:r.sat w){F:List (Nat→SC)}{s:Nat}(hf:r.fld=F)(hl:F.length=s):Row.sat w ⟨false,r.ao,0,s,r.n,0,F⟩:=by
 have h2:=Row.see h
 have hs:r.s=s:=by rw [← hl,← hf];exact h.1.symm
 subst hf
 rw [← hs]
 exact h2
theorem rd2_ok {ch:List Ch}{x:SC}{K:Nat→(Nat→Int)→(Nat→Int)→Prop}(h:rd2 ch x K){X:Cx}{w:World}(hs:HS X ch w) :
  ∃ (ao:Option Addr) (n c:Nat) (g0 g1:Nat→Int),x.den=.slice ao n c∧Row.sat w ⟨false,ao,0,2,n,0,[fun i=>.int (g0 i),fun i=>.int (g1 i)]⟩∧K n g0 g1:=by
 unfold rd2 at h
 split at h
 ·rename_i id ao n cap
  split at h
  ·rename_i r hid
   obtain ⟨g0,g1,⟨rfl,rfl,hf⟩,hk⟩:=h
   exact ⟨r.ao,r.n,cap,g0,g1,rfl,seenAs' (hs.sat id _ hid) hf rfl,hk⟩
  ·exact h.elim
 ·rename_i id b n cap
  split at h
  ·rename_i b' t cs hid
   split at h
   ·rename_i l hl hle
    obtain ⟨rfl,hk⟩:=h
    refine ⟨_,n,cap,_,_,rfl,cells_seen (hs.sat id _ hid) hl (by have:=Nat.le_of_ble_eq_true hle;omega) rfl fun c f hf i hi=>?_,hk⟩
    match c with
    | 0=>simp at hf;subst hf;simp [SC.den]
    | 1=>simp at hf;subst hf;simp [SC.den]
    | c+2=>simp at hf
   ·exact h.elim
  ·exact h.elim
 ·exact ⟨none,0,0,_,_,rfl,nil_seen rfl,h⟩
 ·exact h.elim
end Go.Proofs.YtbhfabaofhhkeaaGreat
namespace Go.Proofs.YtbhfabaofhhkeaaGreat
set_option linter.unusedVariables false
set_option linter.unusedSimpArgs false
open Go.RowKit
theorem HS.head {X:Cx}{l:List Ch}{c d:Ch}{w:World}(h:HS X (c::l) w)(hsat:Ch.sat w d)(ho:d.own=c.own)(hat:∀ b,d.at b→c.at b):HS X (d::l) w where
 fr:=h.fr
 sat:=fun i e he=>by
  cases i with
  | zero=>simp at he;subst he;exact hsat
  | succ i=>exact h.sat (i+1) e he
 dis:=fun i j ci cj b hij hi hj hoi hai haj=>by
  cases i with
  | zero =>
   simp at hi;subst hi
   cases j with
   | zero=>exact absurd rfl hij
   | succ j=>exact h.dis 0 (j+1) c cj b hij rfl hj (by rw [← ho];exact hoi) (hat b hai) haj
  | succ i =>
   cases j with
   | zero=>simp at hj;subst hj;exact h.dis (i+1) 0 ci c b hij hi rfl hoi hai (hat b haj)
   | succ j=>exact h.dis (i+1) (j+1) ci cj b hij hi hj hoi hai haj
 new:=fun i e b he hoe hae=>by
  cases i with
  | zero=>simp at he;subst he;exact h.new 0 c b rfl (by rw [← ho];exact hoe) (hat b hae)
  | succ i=>exact h.new (i+1) e b he hoe hae
theorem HS.addNil {X:Cx}{ch:List Ch}{w:World}(h:HS X ch w)(r:Row)(ho:r.own=true)(ha:r.ao=none)(hn:r.n=0)(hc:r.cap=0)(hl:r.fld.length=r.s):HS X (ch ++ [.row r]) w :=
 h.add (Below.refl _ _) _ ⟨hl,fun q=>(by rw [ho] at q;cases q),fun _=>.inl ⟨ha,hn,hc⟩⟩ fun b hb=>by
  obtain ⟨_,off,hb⟩:=hb
  rw [ha] at hb
  cases hb
theorem HS.recell {X:Cx}{ch:List Ch}{w:World}(h:HS X ch w)(id:Nat){b:Nat}{t:TypeId}{cs:List SC}(hid:ch[id]?=some (.cells b t cs))(cs':List SC)(e:cs.map SC.den=cs'.map SC.den):HS X (ch.set id (.cells b t cs')) w where
 fr:=h.fr
 sat:=fun i d hd=>by
  rcases get_set hd with ⟨rfl,rfl,_⟩ | ⟨_,hd⟩
  ·have:=h.sat _ _ hid
   show w.heap[b]?=_
   rw [← e]
   exact this
  ·exact h.sat i d hd
 dis:=fun i j ci cj b' hij hi hj ho hai haj=>by
  rcases get_set hi with ⟨rfl,rfl,_⟩ | ⟨_,hi'⟩
  ·rcases get_set hj with ⟨rfl,rfl,_⟩ | ⟨_,hj'⟩
   ·exact hij rfl
   ·exact h.dis _ j _ cj b' hij hid hj' rfl hai haj
  ·rcases get_set hj with ⟨rfl,rfl,_⟩ | ⟨_,hj'⟩
   ·exact h.dis i _ ci _ b' hij hi' hid ho hai haj
   ·exact h.dis i j ci cj b' hij hi' hj' ho hai haj
 new:=fun i d b' hd ho ha=>by
  rcases get_set hd with ⟨rfl,rfl,_⟩ | ⟨_,hd⟩
  ·exact h.new _ _ b' hid rfl ha
  ·exact h.new i d b' hd ho ha
theorem first_loop {P:Program}{X:Cx}{fn:Func}{key:Nat}{rest:List Nat}{S:LSm}(hl:(loopsF fn).map firstReg=key::rest)(hne:key ∉ rest)(h:LoopOK P X (theLoop fn 0) S) :
  ∀ c,fn.body=some c→LoopsOK P X [(key,S)] c:=by
 intro c hc
 refine loopsOK_of c fun b hb T hT=>?_
 have e:loopsF fn=loopsIn c:=by simp [loopsF,hc]
 rw [← e] at hb
 match hf:loopsF fn with
 | []=>rw [hf] at hb;cases hb
 | d::ds =>
  rw [hf] at hb hl
  simp only [List.map_cons,List.cons.injEq] at hl
  have ht:theLoop fn 0=d:=by simp [theLoop,hf]
  rw [ht] at h
  rcases List.mem_cons.1 hb with rfl | hb
  ·simp only [lookL,hl.1,Nat.beq_refl,Option.some.injEq] at hT
   subst hT
   exact h
  ·have hm:firstReg b∈rest:=by rw [← hl.2];exact List.mem_map.2 ⟨b,hb,rfl⟩
   simp only [lookL] at hT
   split at hT
   ·rename_i hq
    have:=Nat.eq_of_beq_eq_true hq
    rw [← this] at hm
    exact absurd hm hne
   ·cases hT
theorem body_loop {P:Program}{X:Cx}{c d:Code}{key:Nat}{S:LSm}(hd:loopsIn c=[d])(hk:firstReg d=key)(h:LoopOK P X d S):LoopsOK P X [(key,S)] c:=by
 refine loopsOK_of c fun b hb T hT=>?_
 rw [hd] at hb
 have hbd:b=d:=by simpa using hb
 subst hbd
 simp only [lookL,hk,Nat.beq_refl,Option.some.injEq] at hT
 subst hT
 exact h
theorem HS.seenAll {w:World}(M:Nat→Prop)(cs:List Ch)(h:∀ c∈cs,c.own=false∧c.sat w):HS ⟨w,M⟩ cs w where
 fr:=⟨rfl,rfl,rfl,Nat.le_refl _,fun _ _ _=>rfl⟩
 sat:=fun i c hc=>(h c (List.mem_of_getElem? hc)).2
 dis:=fun i j ci cj b _ hi _ ho=>by rw [(h ci (List.mem_of_getElem? hi)).1] at ho;cases ho
 new:=fun i c b hc ho=>by rw [(h c (List.mem_of_getElem? hc)).1] at ho;cases ho
theorem seenC_nil {w:World}:∀ c∈([]:List Ch),c.own=false∧c.sat w:=fun c h=>(by cases h)
theorem seenC_row {w:World}{r:Row}{cs:List Ch}(ho:r.own=false)(h:r.sat w)(h2:∀ c∈cs,c.own=false∧c.sat w):∀ c∈Ch.row r::cs,c.own=false∧c.sat w:=fun c hm=>by
 rcases List.mem_cons.1 hm with rfl | hm
 ·exact ⟨ho,h⟩
 ·exact h2 c hm
theorem seenC_obj {w:World}{rs:List Row}{cs:List Ch}(h:∀ r∈rs,r.own=false∧r.sat w)(h2:∀ c∈cs,c.own=false∧c.sat w):∀ c∈Ch.obj false rs::cs,c.own=false∧c.sat w:=fun c hm=>by
 rcases List.mem_cons.1 hm with rfl | hm
 ·exact ⟨rfl,h,fun q=>(by cases q)⟩
 ·exact h2 c hm
end Go.Proofs.YtbhfabaofhhkeaaGreat
namespace Go.Proofs.YtbhfabaofhhkeaaGreat
set_option linter.unusedVariables false
set_option linter.unusedSimpArgs false
open Go.RowKit
theorem mixed:Tryz.prog.follows .mixedOrders=true:=by kernel_rfl
theorem fnB {tb:List (FuncId × Sm)}{D:Nat→List Nat}{R':List (Nat × Nat)}{n:Nat}{f:FuncId}{fn:Func}{ts:List SV}{ch:List Ch}{K:SV→List Ch→Prop}{M:Nat→Prop}(hb:TbOK Tryz.prog tb)(hf:Tryz.prog.funcs[f]?=some fn)
  (h:exFn Tryz.prog { tb:=tb,D:=D,R:=R' } n fn ts ch K) {w:World} (hs:HS ⟨w,M⟩ ch w) {R:Ending→World→Prop}
  (hR:∀ v ch' w',K v ch'→HS ⟨w,M⟩ ch' w'→R (.returned v.den) w'):Calls Tryz.prog f (ts.map SV.den).toArray w R :=
 fn_ok mixed hb hf (fun _ _=>loopsOK_nil _ _ _) h hs hR
theorem smB {f:FuncId}(hc:∀ args w,(callFunc f args).run Tryz.prog w=.ok (.enter f args) w){S:Sm}
  (h:∀ (args:List SV) (ch:List Ch) (k:EK) (w:World) (X:Cx),S args ch k→HS X ch w→∃ r,k r ch []∧Calls Tryz.prog f (args.map SV.den).toArray w fun e w'=>e=.returned r.den∧Below w.heap.size w w'):SmOK Tryz.prog f S :=
 ⟨hc,fun X args ch k w hS hs=>by
  obtain ⟨r,hk,hcall⟩:=h args ch k w X hS hs
  exact Calls.mono hcall fun e w' ⟨he,hb⟩=>⟨r,ch,[],he,hs.keep hb,Agree.refl _,hk⟩⟩
def ints:List SC→Option (List Int)
 | []=>some []
 | x::r =>
  match asI x,ints r with
  | some a,some l=>some (a::l)
  | _,_=>none
def bools:List SC→Option (List Bool)
 | []=>some []
 | x::r =>
  match asB x,bools r with
  | some a,some l=>some (a::l)
  | _,_=>none
theorem ints_cons {x:SC}{r:List SC}{a:Int}{l:List Int}(h:ints (x::r)=some (a::l)):x.den=.int .i64 a∧ints r=some l:=by
 simp only [ints] at h
 split at h
 ·rename_i b m hb hm
  injection h with h
  injection h with h1 h2
  subst h1
  subst h2
  exact ⟨asI_den hb,hm⟩
 ·cases h
theorem ints_den:∀ {xs:List SC} {l:List Int},ints xs=some l→xs.map SC.den=l.map (Value.int .i64):=by
 intro xs
 induction xs with
 | nil=>intro l h;simp only [ints,Option.some.injEq] at h;subst h;rfl
 | cons x r ih =>
  intro l h
  cases l with
  | nil =>
   simp only [ints] at h
   split at h
   ·injection h with h;cases h
   ·cases h
  | cons a l =>
   obtain ⟨h1,h2⟩:=ints_cons h
   simp only [List.map_cons,h1,ih h2]
theorem bools_cons {x:SC}{r:List SC}{a:Bool}{l:List Bool}(h:bools (x::r)=some (a::l)):x.den=.bool a∧bools r=some l:=by
 simp only [bools] at h
 split at h
 ·rename_i b m hb hm
  injection h with h
  injection h with h1 h2
  subst h1
  subst h2
  exact ⟨asB_den hb,hm⟩
 ·cases h
theorem den_sl (id:Nat)(ao:Option Addr)(n cap:Nat):(SC.sl id ao n cap).den=.slice ao n cap:=rfl
abbrev capC (n:Nat):Prop:=n≤2097152
abbrev markC (n:Nat)(k:Int):Prop:=n≤2097152∧0≤k∧k≤1099511627776
abbrev szC (n:Nat)(k:Int):Prop:=n≤9223372036854775807∧0≤k∧k≤1048576
abbrev mrkC (k:Int):Prop:=0≤k∧k≤549755813888
abbrev endC (k z m:Int):Prop:=0≤z∧z≤k+m
abbrev szK (k:Int):Prop:=0≤k∧k≤1048576
abbrev szO (z k:Int):Prop:=0≤z∧z≤k
abbrev lenC (n:Nat):Prop:=n≤9223372036854775807
def mk (k:Int)(s c i:Nat):Int:=k+((s*i+c:Nat):Int)
abbrev szLt (k:Int)(n:Nat):Prop:=k<(n:Int)
abbrev szGe (k:Int)(n:Nat):Prop:=(n:Int)≤k
abbrev szSub (k:Int)(n:Nat):Int:=k-(n:Int)
def szI (k:Int)(n:Nat):Int:=if k-(n:Int)<0 then -1 else k-(n:Int)
theorem mk_low (k:Int)(s c:Nat)(f:Nat→Int)(i j:Nat)(v:Int)(hv:v=mk k s c j):selI i j v (lowI i j (mk k s c i) (f i))=lowI i (j+1) (mk k s c i) (f i):=by
 subst hv
 simp only [selI,lowI]
 by_cases e:i=j
 ·rw [if_pos e,if_pos (by omega),e]
 ·rw [if_neg e]
  by_cases l:i<j
  ·rw [if_pos l,if_pos (by omega)]
  ·rw [if_neg l,if_neg (by omega)]
theorem mk_next (k:Int)(s j:Nat):mk k s 0 (j+1)=mk k s 0 j+(s:Int):=by
 unfold mk
 rw [Nat.mul_add]
 omega
theorem mk_bound {k:Int}{s c i n:Nat}(h:n≤2097152∧0≤k∧k≤1099511627776)(hi:i≤n)(hs:s≤8)(hc:c≤16):0≤mk k s c i∧mk k s c i≤1100000000000:=by
 unfold mk
 have:s*i≤8*2097152:=Nat.mul_le_mul hs (by omega)
 omega
theorem mk_more {k:Int}{s n:Nat}(h0:0≤k)(hn:n≤2097152)(hs:s≤8):0≤mk k s 0 n∧mk k s 0 n≤k+16777216:=by
 unfold mk
 have:s*n≤8*2097152:=Nat.mul_le_mul hs hn
 omega
theorem Row.seenAs {w:World}{r:Row}(h:r.sat w){F:List (Nat→SC)}{s:Nat}(hf:r.fld=F)(hl:F.length=s):Row.sat w ⟨false,r.ao,0,s,r.n,0,F⟩:=by
 have h2:=Row.see h
 have hs:r.s=s:=by rw [← hl,← hf];exact h.1.symm
 subst hf
 rw [← hs]
 exact h2
theorem HS.one {w:World}{r:Row}(h:r.sat w):HS ⟨w,(Ch.row r).at⟩ [.row r] w:=by
 refine ⟨⟨rfl,rfl,rfl,Nat.le_refl _,fun _ _ _=>rfl⟩,fun i c hc=>?_,fun i j ci cj b hij hi hj _ _ _=>?_,fun i c b hc _ ha=>?_⟩
 ·cases i with
  | zero=>simp at hc;subst hc;exact h
  | succ i=>simp at hc
 ·cases i with
  | zero =>
   cases j with
   | zero=>exact hij rfl
   | succ j=>simp at hj
  | succ i=>simp at hi
 ·cases i with
  | zero=>simp at hc;subst hc;exact .inr ha
  | succ i=>simp at hc
theorem smTurn {f:FuncId}(hc:∀ args w,(callFunc f args).run Tryz.prog w=.ok (.enter f args) w){S:Sm}
  (h:∀ (args:List SV) (ch:List Ch) (k:EK) (w:World) (X:Cx),S args ch k→HS X ch w→∃ (v:SV) (id:Nat) (r:Row) (fld:List (Nat→SC)),ch[id]?=some (.row r)∧r.own=true∧k v (ch.set id (.row { r with fld:=fld })) [id] ∧
   Calls Tryz.prog f (args.map SV.den).toArray w fun e w'=>e=.returned v.den∧HS ⟨w,(Ch.row r).at⟩ [.row { r with fld:=fld }] w'):SmOK Tryz.prog f S :=
 ⟨hc,fun X args ch k w hS hs=>by
  obtain ⟨v,id,r,fld,hid,ho,hk,hcall⟩:=h args ch k w X hS hs
  exact Calls.mono hcall fun e w' ⟨he,hn⟩=>⟨v,_,[id],he,hs.swap1 hid ho hn (fun b hb=>hb),Agree.set _ _ _,hk⟩⟩
end Go.Proofs.YtbhfabaofhhkeaaGreat
namespace Go.Proofs.YtbhfabaofhhkeaaGreat
set_option linter.unusedVariables false
set_option linter.unusedSimpArgs false
open Go.RowKit
theorem HS.reTail {X:Cx}{c:Ch}{l m:List Ch}{w:World}(h:HS X (c::l) w)(hr:ReL l m):HS X (c::m) w where
 fr:=h.fr
 sat:=fun i d hd=>by
  cases i with
  | zero=>exact h.sat 0 d hd
  | succ i =>
   obtain ⟨e,he,hed⟩:=hr.get i d hd
   exact (hed.ok (h.sat (i+1) e he)).1
 dis:=fun i j ci cj b hij hi hj ho hai haj=>by
  cases i with
  | zero =>
   cases j with
   | zero=>exact absurd rfl hij
   | succ j =>
    obtain ⟨e,he,hed⟩:=hr.get j cj hj
    have h2:=hed.ok (h.sat (j+1) e he)
    exact h.dis 0 (j+1) ci e b (by omega) hi he ho hai (h2.2.2 b haj)
  | succ i =>
   obtain ⟨e,he,hed⟩:=hr.get i ci hi
   have h1:=hed.ok (h.sat (i+1) e he)
   cases j with
   | zero=>exact h.dis (i+1) 0 e cj b (by omega) he hj ((h1.2.1.resolve_right fun q=>q b hai) ▸ ho) (h1.2.2 b hai) haj
   | succ j =>
    obtain ⟨e',he',hed'⟩:=hr.get j cj hj
    have h2:=hed'.ok (h.sat (j+1) e' he')
    exact h.dis (i+1) (j+1) e e' b hij he he' ((h1.2.1.resolve_right fun q=>q b hai) ▸ ho) (h1.2.2 b hai) (h2.2.2 b haj)
 new:=fun i d b hd ho ha=>by
  cases i with
  | zero=>exact h.new 0 d b hd ho ha
  | succ i =>
   obtain ⟨e,he,hed⟩:=hr.get i d hd
   have h1:=hed.ok (h.sat (i+1) e he)
   exact h.new (i+1) e b he ((h1.2.1.resolve_right fun q=>q b ha) ▸ ho) (h1.2.2 b ha)
def CurRel:Ch→Ch→Prop
 | .cells b t cs,.cells b' t' cs'=>b=b'∧t=t'∧cs.map SC.den=cs'.map SC.den
 | _,_=>False
theorem CurRel.ok {c d:Ch}(h:CurRel c d){w:World}(hs:c.sat w):d.sat w∧d.own=c.own∧∀ b,d.at b→c.at b:=by
 unfold CurRel at h
 split at h
 ·obtain ⟨rfl,rfl,e⟩:=h
  exact ⟨by simp only [Ch.sat] at hs ⊢;rw [← e];exact hs,rfl,fun b hb=>hb⟩
 ·exact h.elim
def OutC (v:SV)(ch:List Ch)(V:Value)(d:Ch)(rows:List Ch):Prop:=v.den=V∧CurRel (ch.getD 0 .dead) d∧ReL (selO ch (oidOf v)) rows∧nodupB (0::somesL (oidOf v))=true
theorem OutC.hs {v:SV}{ch:List Ch}{V:Value}{d:Ch}{rows:List Ch}(h:OutC v ch V d rows){X:Cx}{w:World}(hs:HS X ch w):HS X (d::rows) w:=by
 have h1:HS X (selO ch (some 0::oidOf v)) w:=hs.selO _ (nodupB_ok h.2.2.2)
 have h2:HS X (ch.getD 0 .dead::rows) w:=HS.reTail h1 h.2.2.1
 have h3:=h.2.1.ok (h2.sat 0 _ rfl)
 exact h2.head h3.1 h3.2.1 h3.2.2
end Go.Proofs.YtbhfabaofhhkeaaGreat
namespace Go.Proofs.YtbhfabaofhhkeaaGreat
set_option linter.unusedVariables false
set_option linter.unusedSimpArgs false
open Go.RowKit
structure AD where
 c:CD
 aN:Nat
 ag:Nat→Int
 hN:Nat
 hg:Nat→Int
def cellFld (id:Nat)(x:CD)(so:Nat→Option Addr)(sc:Nat→Nat):List (Nat→SC):=[fun i=>.sl id (so i) (x.sn i) (sc i),fun i=>.bool (x.po i)]
theorem symRows_congr {o:Bool}{t:Nat}{x y:CD}{so so':Nat→Option Addr}{sc sc':Nat→Nat}(hn:x.n=y.n)(h:∀ i,i<x.n→symRow o t x so sc i=symRow o t y so' sc' i):symRows o t x so sc=symRows o t y so' sc':=by
 simp only [symRows,← hn]
 exact List.map_congr_left fun i hi=>h i (List.mem_range.1 hi)
theorem symRows_push {o:Bool}{t:Nat}{x:CD}{so:Nat→Option Addr}{sc:Nat→Nat}{j:Nat}{a:Option Addr}{c:Nat} :
  symRows o t ⟨j,x.sn,x.sy,x.po⟩ so sc ++ [⟨o,a,t,1,x.sn j,c,[fun k=>.int (x.sy j k)]⟩]=symRows o t ⟨j+1,x.sn,x.sy,x.po⟩ (fun i=>if i<j then so i else a) (fun i=>if i<j then sc i else c):=by
 simp only [symRows,List.range_succ,List.map_append,List.map_cons,List.map_nil]
 congr 1
 ·refine List.map_congr_left fun i hi=>?_
  have:=List.mem_range.1 hi
  simp [symRow,this]
 ·simp [symRow]
theorem symRows_set {o:Bool}{t:Nat}{x:CD}{so:Nat→Option Addr}{sc:Nat→Nat}{k:Nat}{a:Option Addr}{m c:Nat}{f:Nat→Int} :
  (symRows o t x so sc).set k ⟨o,a,t,1,m,c,[fun q=>.int (f q)]⟩=symRows o t ⟨x.n,fun i=>if i=k then m else x.sn i,fun i q=>if i=k then f q else x.sy i q,x.po⟩ (fun i=>if i=k then a else so i) (fun i=>if i=k then c else sc i):=by
 refine List.ext_getElem (by simp [symRows]) fun i h1 h2=>?_
 simp only [List.getElem_set]
 split
 ·rename_i e
  subst e
  simp [symRows,symRow]
 ·rename_i e
  have e':¬ i=k:=fun q=>e q.symm
  simp [symRows,symRow,e']
theorem symRows_seen {w:World}{o:Bool}{t:Nat}{x:CD}{so:Nat→Option Addr}{sc:Nat→Nat}(h:∀ r∈symRows o t x so sc,r.sat w):∀ r∈symRows false 0 x so (fun _=>0),r.own=false∧r.sat w:=fun r hr=>by
 obtain ⟨i,hi,rfl⟩:=List.mem_map.1 hr
 exact ⟨rfl,seenAs' (h _ (symRows_mem (List.mem_range.1 hi))) rfl rfl⟩
def rdn (ch:List Ch)(x:SC)(K:Nat→(Nat→Int)→Prop):Prop :=
 match x with
 | .sl id ao n _ =>
  match ch[id]? with
  | some (.row r)=>∃ g0:Nat→Int,(ao=r.ao∧n=r.n∧r.fld=[fun i=>.int (g0 i)])∧K n g0
  | some (.obj o rs)=>∃ (t:Nat) (y:CD) (so:Nat→Option Addr) (sc:Nat→Nat) (i:Nat),(rs=symRows o t y so sc∧ao=so i∧n=y.sn i∧ltN i y.n)∧K n (y.sy i)
  | _=>False
 | .slc id b n _ =>
  match ch[id]? with
  | some (.cells b' _ cs) =>
   match intL cs,Nat.ble n cs.length with
   | some l,true=>b=b'∧K n fun i=>getZ l i
   | _,_=>False
  | _=>False
 | .nil=>K 0 fun _=>0
 | _=>False
theorem rdn_ok {ch:List Ch}{x:SC}{K:Nat→(Nat→Int)→Prop}(h:rdn ch x K){X:Cx}{w:World}(hs:HS X ch w) :
  ∃ (ao:Option Addr) (n c:Nat) (g0:Nat→Int),x.den=.slice ao n c∧Row.sat w ⟨false,ao,0,1,n,0,[fun i=>.int (g0 i)]⟩∧K n g0:=by
 unfold rdn at h
 split at h
 ·rename_i id ao n cap
  split at h
  ·rename_i r hid
   obtain ⟨g0,⟨rfl,rfl,hf⟩,hk⟩:=h
   exact ⟨r.ao,r.n,cap,g0,rfl,seenAs' (hs.sat id _ hid) hf rfl,hk⟩
  ·rename_i o rs hid
   obtain ⟨t,y,so,sc,i,⟨rfl,rfl,rfl,hi⟩,hk⟩:=h
   exact ⟨so i,y.sn i,cap,y.sy i,rfl,seenAs' ((hs.seeObj hid _ (symRows_mem hi)).2) rfl rfl,hk⟩
  ·exact h.elim
 ·rename_i id b n cap
  split at h
  ·rename_i b' t cs hid
   split at h
   ·rename_i l hl hle
    obtain ⟨rfl,hk⟩:=h
    refine ⟨_,n,cap,_,rfl,cells_seen (hs.sat id _ hid) hl (by have:=Nat.le_of_ble_eq_true hle;omega) rfl fun c f hf i hi=>?_,hk⟩
    match c with
    | 0=>simp at hf;subst hf;simp [SC.den]
    | c+1=>simp at hf
   ·exact h.elim
  ·exact h.elim
 ·exact ⟨none,0,0,_,rfl,nil_seen rfl,h⟩
 ·exact h.elim
def ReS1:Ch→Ch→Prop
 | .cells b t cs,.cells b' t' cs'=>b=b'∧t=t'∧cs.map SC.den=cs'.map SC.den
 | .obj o rs,.obj o' rs'=>o=o'∧rs=rs'
 | .dead,.obj o' rs'=>o'=true∧rs'=[]
 | c,d=>ReL1 c d
def ReS:List Ch→List Ch→Prop
 | [],[]=>True
 | c::l,d::m=>ReS1 c d∧ReS l m
 | _,_=>False
theorem ReS1.ok {c d:Ch}(h:ReS1 c d){w:World}(hs:c.sat w):d.sat w∧(d.own=c.own∨∀ b,¬ d.at b)∧∀ b,d.at b→c.at b:=by
 unfold ReS1 at h
 split at h
 ·obtain ⟨rfl,rfl,e⟩:=h
  refine ⟨?_,.inl rfl,fun b hb=>hb⟩
  show w.heap[_]?=_
  rw [← e]
  exact hs
 ·obtain ⟨rfl,rfl⟩:=h
  exact ⟨hs,.inl rfl,fun b hb=>hb⟩
 ·obtain ⟨rfl,rfl⟩:=h
  refine ⟨⟨fun r hr=>(by cases hr),fun _ i j p q b _ hp=>(by simp at hp)⟩,.inr fun b hb=>?_,fun b hb=>?_⟩
  ·obtain ⟨r,hr,_⟩:=hb
   cases hr
  ·obtain ⟨r,hr,_⟩:=hb
   cases hr
 ·exact ReL1.ok h hs
theorem ReS.get:∀ {l m:List Ch},ReS l m→∀ (i:Nat) (d:Ch),m[i]?=some d→∃ c,l[i]?=some c∧ReS1 c d:=by
 intro l
 induction l with
 | nil=>intro m h i d hd;cases m with | nil=>simp at hd | cons _ _=>exact h.elim
 | cons c l ih =>
  intro m h i d hd
  cases m with
  | nil=>exact h.elim
  | cons e m =>
   cases i with
   | zero=>simp at hd;subst hd;exact ⟨c,rfl,h.1⟩
   | succ i=>simpa using ih h.2 i d (by simpa using hd)
theorem HS.reS {X:Cx}{l m:List Ch}{w:World}(h:HS X l w)(hr:ReS l m):HS X m w where
 fr:=h.fr
 sat:=fun i d hd=>by
  obtain ⟨c,hc,hcd⟩:=hr.get i d hd
  exact (hcd.ok (h.sat i c hc)).1
 dis:=fun i j ci cj b hij hi hj ho hai haj=>by
  obtain ⟨c,hc,hcd⟩:=hr.get i ci hi
  obtain ⟨c',hc',hcd'⟩:=hr.get j cj hj
  have h1:=hcd.ok (h.sat i c hc)
  have h2:=hcd'.ok (h.sat j c' hc')
  exact h.dis i j c c' b hij hc hc' ((h1.2.1.resolve_right fun q=>q b hai) ▸ ho) (h1.2.2 b hai) (h2.2.2 b haj)
 new:=fun i d b hd ho ha=>by
  obtain ⟨c,hc,hcd⟩:=hr.get i d hd
  have h1:=hcd.ok (h.sat i c hc)
  exact h.new i c b hc ((h1.2.1.resolve_right fun q=>q b ha) ▸ ho) (h1.2.2 b ha)
def SelS (ch:List Ch)(l:List Nat)(m:List Ch):Prop:=ReS (selC ch l) m∧nodupB l=true
theorem SelS.hs {ch:List Ch}{l:List Nat}{m:List Ch}(h:SelS ch l m){X:Cx}{w:World}(hs:HS X ch w):HS X m w:=(hs.sel l (nodupB_ok h.2)).reS h.1
theorem HS.remix {X:Cx}{ch:List Ch}{w:World}(h:HS X ch w)(a b:Nat){rs rs':List Row}{r:Row}(ha:ch[a]?=some (.obj true rs))(hb:ch[b]?=some (.row r))(ho:r.own=true)(hab:a ≠ b)
  (hm:∀ q∈rs',q∈rs∨q=r) (hd:∀ (i j:Nat) (p q:Row) (k:Nat),i ≠ j→rs'[i]?=some p→rs'[j]?=some q→p.at k→q.at k→False):HS X ((ch.set b .dead).set a (.obj true rs')) w:=by
 have hat:∀ q∈rs',∀ k,q.at k→(Ch.obj true rs).at k∨(Ch.row r).at k:=fun q hq k hk=>by
  rcases hm q hq with h1 | rfl
  ·exact .inl ⟨q,h1,hk⟩
  ·exact .inr hk
 have hsat:∀ q∈rs',q.own=true∧q.sat w:=fun q hq=>by
  rcases hm q hq with h1 | rfl
  ·exact h.seeObj ha q h1
  ·exact ⟨ho,h.sat b _ hb⟩
 have get:∀ (i:Nat) (c:Ch),((ch.set b .dead).set a (.obj true rs'))[i]?=some c→(i=a∧c=.obj true rs')∨c=.dead∨(i ≠ a∧i ≠ b∧ch[i]?=some c):=fun i c hc=>by
  rcases get_set hc with ⟨rfl,rfl,_⟩ | ⟨h1,hc⟩
  ·exact .inl ⟨rfl,rfl⟩
  ·rcases get_set hc with ⟨rfl,rfl,_⟩ | ⟨h2,hc⟩
   ·exact .inr (.inl rfl)
   ·exact .inr (.inr ⟨h1,h2,hc⟩)
 have apart:∀ (j:Nat) (cj:Ch) (k:Nat),j ≠ a→j ≠ b→ch[j]?=some cj→(Ch.obj true rs').at k→cj.at k→False:=fun j cj k h1 h2 hj hk hjk=>by
  obtain ⟨q,hq,hqk⟩:=hk
  rcases hat q hq k hqk with h3 | h3
  ·exact h.dis a j _ cj k (fun e=>h1 e.symm) ha hj rfl h3 hjk
  ·exact h.dis b j _ cj k (fun e=>h2 e.symm) hb hj ho h3 hjk
 refine ⟨h.fr,fun i c hc=>?_,fun i j ci cj k hij hi hj hoi hai haj=>?_,fun i c k hc hoc hac=>?_⟩
 ·rcases get i c hc with ⟨_,rfl⟩ | rfl | ⟨_,_,hc⟩
  ·exact ⟨hsat,fun _=>hd⟩
  ·trivial
  ·exact h.sat i c hc
 ·rcases get i ci hi with ⟨ei,rfl⟩ | rfl | ⟨h1,h2,hi2⟩
  ·rcases get j cj hj with ⟨ej,rfl⟩ | rfl | ⟨h3,h4,hj2⟩
   ·exact hij (ei.trans ej.symm)
   ·exact haj.elim
   ·exact apart j cj k h3 h4 hj2 hai haj
  ·exact hai.elim
  ·rcases get j cj hj with ⟨ej,rfl⟩ | rfl | ⟨h3,h4,hj2⟩
   ·exact apart i ci k h1 h2 hi2 haj hai
   ·exact haj.elim
   ·exact h.dis i j ci cj k hij hi2 hj2 hoi hai haj
 ·rcases get i c hc with ⟨rfl,rfl⟩ | rfl | ⟨h1,h2,hc⟩
  ·obtain ⟨q,hq,hqk⟩:=hac
   rcases hat q hq k hqk with h3 | h3
   ·exact h.new _ _ k ha rfl h3
   ·exact h.new _ _ k hb ho h3
  ·exact hac.elim
  ·exact h.new i c k hc hoc hac
theorem HS.nestApp {X:Cx}{ch:List Ch}{w:World}(h:HS X ch w)(a b:Nat){rs:List Row}{r:Row}(ha:ch[a]?=some (.obj true rs))(hb:ch[b]?=some (.row r))(ho:r.own=true)(hab:a ≠ b):HS X ((ch.set b .dead).set a (.obj true (rs ++ [r]))) w:=by
 have hin:=(h.sat a _ ha).2 rfl
 have apart:∀ (i:Nat) (p:Row) (k:Nat),rs[i]?=some p→p.at k→r.at k→False:=fun i p k hp h1 h2=>h.dis a b _ _ k hab ha hb rfl ⟨p,List.mem_of_getElem? hp,h1⟩ h2
 refine h.remix a b ha hb ho hab (fun q hq=>?_) fun i j p q k hij hi hj h1 h2=>?_
 ·rcases List.mem_append.1 hq with hq | hq
  ·exact .inl hq
  ·exact .inr (by simpa using hq)
 ·rcases get_app_one hi with hi2 | ⟨hi0,ep⟩
  ·rcases get_app_one hj with hj2 | ⟨_,eq⟩
   ·exact hin i j p q k hij hi2 hj2 h1 h2
   ·exact apart i p k hi2 h1 (eq ▸ h2)
  ·rcases get_app_one hj with hj2 | ⟨hj0,eq⟩
   ·exact apart j q k hj2 h2 (ep ▸ h1)
   ·exact hij (hi0.trans hj0.symm)
theorem HS.nestTurn {X:Cx}{ch:List Ch}{w w':World}(h:HS X ch w){a i:Nat}{rs:List Row}{r r':Row}(ha:ch[a]?=some (.obj true rs))(hi:rs[i]?=some r)(h':HS ⟨w,(Ch.row r).at⟩ [.row r'] w')(ho:r'.own=true)(hat:∀ b,r'.at b→r.at b) :
  HS X (ch.set a (.obj true (rs.set i r'))) w':=by
 have hin:=(h.sat a _ ha).2 rfl
 have hr:r∈rs:=List.mem_of_getElem? hi
 have hat':∀ b,(Ch.obj true (rs.set i r')).at b→(Ch.obj true rs).at b:=fun b ⟨q,hq,hqb⟩=>by
  rcases List.mem_or_eq_of_mem_set hq with h1 | rfl
  ·exact ⟨q,h1,hqb⟩
  ·exact ⟨r,hr,hat b hqb⟩
 refine h.swap1 ha rfl ⟨⟨h'.fr.os,h'.fr.tape,h'.fr.output,h'.fr.size,fun k hk hM=>h'.fr.block k hk fun hm=>hM ⟨r,hr,hm⟩⟩,fun j c hc=>?_,fun p q cp cq b hpq hp hq _ _ _=>?_,fun j c b hc _ hb=>?_⟩ hat'
 ·obtain ⟨_,rfl⟩:=one_get hc
  refine ⟨fun q hq=>?_,fun _ p q cp cq b hpq hp hq h1 h2=>?_⟩
  ·obtain ⟨m,hm⟩:=List.getElem?_of_mem hq
   rcases get_set hm with ⟨rfl,rfl,_⟩ | ⟨hne,hm⟩
   ·exact ⟨ho,h'.sat 0 _ rfl⟩
   ·obtain ⟨q1,q2⟩:=h.seeObj ha q (List.mem_of_getElem? hm)
    refine ⟨q1,Row.sat_keep q2 h'.fr.size fun b hb=>h'.fr.block b (Row.sat_lt q2 hb) fun hrb=>?_⟩
    exact hin m i q r b hne hm hi hb hrb
  ·rcases get_set hp with ⟨e1,e2,_⟩ | ⟨hp0,hp2⟩
   ·rcases get_set hq with ⟨e3,_,_⟩ | ⟨hq0,hq2⟩
    ·exact hpq (e1.trans e3.symm)
    ·exact hin i q r cq b (fun e=>hq0 e.symm) hi hq2 (hat b (e2 ▸ h1)) h2
   ·rcases get_set hq with ⟨e3,e4,_⟩ | ⟨hq0,hq2⟩
    ·exact hin p i cp r b hp0 hp2 hi h1 (hat b (e4 ▸ h2))
    ·exact hin p q cp cq b hpq hp2 hq2 h1 h2
 ·obtain ⟨rfl,_⟩:=one_get hp
  obtain ⟨rfl,_⟩:=one_get hq
  exact absurd rfl hpq
 ·obtain ⟨_,rfl⟩:=one_get hc
  exact .inr (hat' b hb)
theorem Row.reF {w:World}{o:Bool}{ao:Option Addr}{t s n cap:Nat}{fs gs:List (Nat→SC)}(h:Row.sat w ⟨o,ao,t,s,n,cap,fs⟩)(hf:FEq n fs gs):Row.sat w ⟨o,ao,t,s,n,cap,gs⟩ :=
 (ReL1.ok (c:=.row ⟨o,ao,t,s,n,cap,fs⟩) (d:=.row ⟨o,ao,t,s,n,cap,gs⟩) ⟨rfl,rfl,rfl,rfl,rfl,rfl,hf⟩ h).1
end Go.Proofs.YtbhfabaofhhkeaaGreat
namespace Go.Proofs.YtbhfabaofhhkeaaGreat
set_option linter.unusedVariables false
set_option linter.unusedSimpArgs false
open Go.RowKit
theorem den_obj (id:Nat)(v:Value):(SC.obj id v).den=v:=rfl
end Go.Proofs.YtbhfabaofhhkeaaGreat
namespace Go.Proofs.YtbhfabaofhhkeaaGreat
set_option linter.unusedVariables false
set_option linter.unusedSimpArgs false
open Go.RowKit
set_option maxRecDepth 100000
set_option maxHeartbeats 8000000
def flatC:List Ch→List Row
 | []=>[]
 | .row r::t=>r::flatC t
 | .obj _ rs::t=>rs ++ flatC t
 | _::t=>flatC t
def ownRO (c:Ch):Prop:=(∃ r:Row,c=.row r∧r.own=true)∨∃ rs,c=.obj true rs
theorem flat_at {ch:List Ch}{r:Row}(hr:r∈flatC ch){b:Nat}(hb:r.at b)(ho:∀ c∈ch,ownRO c):∃ c∈ch,c.own=true∧c.at b:=by
 induction ch with
 | nil=>simp [flatC] at hr
 | cons c t ih =>
  rcases ho c (by simp) with ⟨r0,rfl,h0⟩ | ⟨rs,rfl⟩
  ·rcases List.mem_cons.1 hr with rfl | hr
   ·exact ⟨.row r,by simp,h0,hb⟩
   ·obtain ⟨c,h1,h2⟩:=ih hr fun c hc=>ho c (by simp [hc])
    exact ⟨c,by simp [h1],h2⟩
  ·rcases List.mem_append.1 hr with hr | hr
   ·exact ⟨.obj true rs,by simp,rfl,⟨r,hr,hb⟩⟩
   ·obtain ⟨c,h1,h2⟩:=ih hr fun c hc=>ho c (by simp [hc])
    exact ⟨c,by simp [h1],h2⟩
theorem flat_sat {ch:List Ch}{w:World}(hs:∀ c∈ch,c.sat w)(ho:∀ c∈ch,ownRO c):∀ r∈flatC ch,r.own=true∧r.sat w:=by
 induction ch with
 | nil=>intro r hr;simp [flatC] at hr
 | cons c t ih =>
  intro r hr
  have ih':=ih (fun c hc=>hs c (by simp [hc])) fun c hc=>ho c (by simp [hc])
  rcases ho c (by simp) with ⟨r0,rfl,h0⟩ | ⟨rs,rfl⟩
  ·rcases List.mem_cons.1 hr with rfl | hr
   ·exact ⟨h0,hs (.row r) (by simp)⟩
   ·exact ih' r hr
  ·rcases List.mem_append.1 hr with hr | hr
   ·exact (hs (.obj true rs) (by simp)).1 r hr
   ·exact ih' r hr
theorem flat_dis {ch:List Ch}{w:World}(hs:∀ c∈ch,c.sat w)(ho:∀ c∈ch,ownRO c)
  (hd:∀ (i j:Nat) (ci cj:Ch) (b:Nat),i ≠ j→ch[i]?=some ci→ch[j]?=some cj→ci.own=true→ci.at b→cj.at b→False) :
  ∀ (i j:Nat) (p q:Row) (b:Nat),i ≠ j→(flatC ch)[i]?=some p→(flatC ch)[j]?=some q→p.at b→q.at b→False:=by
 induction ch with
 | nil=>intro i j p q b _ h;simp [flatC] at h
 | cons c t ih =>
  have ho':∀ c∈t,ownRO c:=fun c hc=>ho c (by simp [hc])
  have ih':=ih (fun c hc=>hs c (by simp [hc])) ho' fun i j ci cj b hij hi hj=>hd (i+1) (j+1) ci cj b (by omega) (by simpa using hi) (by simpa using hj)
  -- the head against the rest
  have key:∀ (q:Row) (b:Nat),q∈flatC t→q.at b→c.own=true→c.at b→False:=fun q b hq hqb hco hcb=>by
   obtain ⟨c',hc',_,h2⟩:=flat_at hq hqb ho'
   obtain ⟨k,hk⟩:=List.getElem?_of_mem hc'
   exact hd 0 (k+1) c c' b (by omega) (by simp) (by simpa using hk) hco hcb h2
  intro i j p q b hij hi hj hp hq
  rcases ho c (by simp) with ⟨r0,rfl,h0⟩ | ⟨rs,rfl⟩
  ·cases i with
   | zero =>
    cases j with
    | zero=>exact hij rfl
    | succ j =>
     simp [flatC] at hi hj
     subst hi
     exact key q b (List.mem_of_getElem? hj) hq h0 hp
   | succ i =>
    cases j with
    | zero =>
     simp [flatC] at hi hj
     subst hj
     exact key p b (List.mem_of_getElem? hi) hp h0 hq
    | succ j=>exact ih' i j p q b (by omega) (by simpa [flatC] using hi) (by simpa [flatC] using hj) hp hq
  ·have hin:=(hs (.obj true rs) (by simp)).2 rfl
   simp only [flatC] at hi hj
   rw [List.getElem?_append] at hi hj
   split at hi
   ·have hpm:=List.mem_of_getElem? hi
    split at hj
    ·exact hin i j p q b hij hi hj hp hq
    ·exact key q b (List.mem_of_getElem? hj) hq rfl ⟨p,hpm,hp⟩
   ·split at hj
    ·exact key p b (List.mem_of_getElem? hi) hp rfl ⟨q,List.mem_of_getElem? hj,hq⟩
    ·exact ih' _ _ p q b (by omega) hi hj hp hq
theorem HS.packAll {X:Cx}{ch:List Ch}{w:World}(h:HS X ch w)(ho:∀ c∈ch,ownRO c):HS X [.obj true (flatC ch)] w:=by
 have hs:∀ c∈ch,c.sat w:=fun c hc=>by
  obtain ⟨i,hi⟩:=List.getElem?_of_mem hc
  exact h.sat i c hi
 refine ⟨h.fr,fun i c hc=>?_,fun i j ci cj b hij hi hj _ _ _=>?_,fun i c b hc _ hb=>?_⟩
 ·obtain ⟨_,rfl⟩:=one_get hc
  exact ⟨flat_sat hs ho,fun _=>flat_dis hs ho h.dis⟩
 ·obtain ⟨rfl,_⟩:=one_get hi
  obtain ⟨rfl,_⟩:=one_get hj
  exact hij rfl
 ·obtain ⟨_,rfl⟩:=one_get hc
  obtain ⟨r,hr,hrb⟩:=hb
  obtain ⟨c,hcm,hco,hcb⟩:=flat_at hr hrb ho
  obtain ⟨k,hk⟩:=List.getElem?_of_mem hcm
  exact h.new k c b hk hco hcb
end Go.Proofs.YtbhfabaofhhkeaaGreat

/-
  FnExactControllerNew: a part of the walk (merged and squeezed by program: SxPol2 SxN2 SxSpare2 SxPol3).
-/
import Derived.Test.YtbhfabaofhhkeaaGreatZaj
import Derived.Test.YtbhfabaofhhkeaaGreatZak
import Derived.Test.YtbhfabaofhhkeaaGreatZal
namespace Go.Proofs.YtbhfabaofhhkeaaGreat
set_option linter.unusedVariables false
set_option linter.unusedSimpArgs false
open Go.RowKit
set_option maxRecDepth 100000
set_option maxHeartbeats 8000000
def ifN (b:Bool)(n:Nat):Nat:=if b=true then n else 0
theorem shB_facts {n:Nat}{g0 g1:Nat→Int}(h:shB n g0 g1=true):1≤n∧n≤4:=by
 simp only [shB,Bool.and_eq_true,btw,decide_eq_true_eq] at h
 omega
theorem shB_big {n:Nat}{g0 g1:Nat→Int}(h:4<n):shB n g0 g1=false:=by
 cases hs:shB n g0 g1
 ·rfl
 ·have:=shB_facts hs;omega
theorem shB_min (n:Nat)(g0 g1:Nat→Int):shB (min5 n) g0 g1=shB n g0 g1:=by
 by_cases h:n≤4
 ·rw [(min5_ok n).2.2.1 (by omega)]
 ·rw [shB_big (by have:=min5_ok n;omega),shB_big (by omega)]
theorem shNewI_T (wo:Option Addr)(n wc:Nat)(wg:Nat→Int):(exFn Tryz.prog {tb:=[(107,sShOk)],L:=[(3,sshNewI wo n wc wg)]} 400 Tryz.f40 ([.a (.c (.sl 0 wo n wc))]) ([.row ⟨false,wo,0,1,n,0,[fun i=>.int (wg i)]⟩]) (fun v ch=>∃ (ro0:Option Addr) (rc0:Nat),OutR v ch (.tuple #[.slice ro0 (ifN (shB n wg wg) n) rc0,.bool (shB n wg wg)]) [.row ⟨true,ro0,153,2,ifN (shB n wg wg) n,rc0,[fun i=>.int (wg i),fun i=>.int (wg i)]⟩]))=(
 (fun b:Value=>(fun d:Value=>(fun g:Nat=>(fun h:Ch=>(fun j:Prop=>∀ k:Nat,(fun l:Value=>∃ m:Nat,([d,b,Wn,Wb false,l,b,b,l,d,Wi ((n:Nat):Int),Wi 0,b,b,b,b,b,b,b,b,b,b,b,b,b,b]=[d,b,Wn,Wb false,Ws (Ad m 0) 0 0,b,b,l,d,Wi ((n:Nat):Int),Wi 0,b,b,b,b,b,b,b,b,b,b,b,b,b,b]∧[h,Hc k 153 []]=[h,Hc m 153 []])∧∀(o:Nat→Value) (p:Option Addr) (q:Nat),∃ r s:Nat→Int,(p=p∧n=n∧[fun t=>Ci (wg t),fun t=>Ci (wg t)]=[fun t=>Ci (r t),fun t=>Ci (s t)])∧lenC n∧((! (shB n r s))=true→∃(t:Option Addr) (u:Nat),(Wu [Wn,Wb false])=(Wu [Ws t g u,Wb (shB n wg wg)])∧((true=true∧(none:Option Addr)=t∧0=g∧0=u∧true=true)∧True)∧true=true)∧((! (shB n r s))=false→∃(t:Option Addr) (u:Nat),(Wu [Ws p n q,Wb true])=(Wu [Ws t g u,Wb (shB n wg wg)])∧((true=true∧p=t∧153=153∧2=2∧n=g∧q=u∧j∧j∧True)∧True)∧true=true)) (Ws (Ad k 0) 0 0)) (∀ j:Nat,j<n→(Wi (wg j))=(Wi (wg j)))) (Hr false wo 0 1 n 0 [fun h=>Ci (wg h)])) (ifN (shB n wg wg) n)) (Ws wo n wc)) (Wu [])):=by kernel_rfl
theorem shNewI_any (wo:Option Addr)(n wc:Nat)(wg:Nat→Int)(w:World)(h:Row.sat w ⟨false,wo,0,1,n,0,[fun i=>.int (wg i)]⟩)(hpre:capC n):Calls Tryz.prog 40 #[.slice wo n wc] w fun e w'=>∃ (ro0:Option Addr) (rc0:Nat),e=.returned (.tuple #[.slice ro0 (ifN (shB n wg wg) n) rc0,.bool (shB n wg wg)])∧HS ⟨w,fun _=>False⟩ [.row ⟨true,ro0,153,2,ifN (shB n wg wg) n,rc0,[fun i=>.int (wg i),fun i=>.int (wg i)]⟩] w':=by
 refine fn_ok mixed (E:={ tb:=[(107,sShOk)],L:=[(3,sshNewI wo n wc wg)] }) ⟨sShOk_I,trivial⟩ Tryz.func40 (one_loop (by kernel_rfl) (by kernel_rfl) (shNewI_ok wo n wc wg hpre _)) (@Eq.mpr _ _ (shNewI_T wo n wc wg) ?_) (HS.rows (fun _=>False) [⟨false,wo,0,1,n,0,[fun i=>.int (wg i)]⟩] (by simpa using h)) (fun v ch' w' ⟨ro,rc,hk⟩ hs=>⟨ro,rc,by rw [hk.1],hk.hs hs⟩)
 dsimp -zeta -proj -iota -eta -failIfUnchanged (etaStruct:=.none) only
 clear h
 have hm5:=min5_ok n
 cases hs:shB n wg wg
 ·have hn0:ifN (shB n wg wg) n=0:=by simp [hs,ifN]
  repeat' (first
   | with_reducible exact rfl
   | exact True.intro
   | with_reducible assumption
   | refine And.intro ?_ ?_
   | apply Exists.intro
   | (intro h;exfalso;simp [hs,shB_min] at h;done)
   | (intro h;exfalso;simp [hs,shB_min] at h;omega)
   | intro _
   | omega
   | (simp;omega))
  all_goals (try simp_all [ifN,shB_min])
 ·have hf:=shB_facts hs
  have hm:min5 n=n:=(min5_ok n).2.2.1 (by omega)
  repeat' (first
   | with_reducible exact rfl
   | exact True.intro
   | with_reducible assumption
   | refine And.intro ?_ ?_
   | apply Exists.intro
   | (intro h;exfalso;simp [hs,shB_min] at h;done)
   | (intro h;exfalso;simp [hs,shB_min] at h;omega)
   | intro _
   | omega
   | (simp;omega))
  all_goals (try simp_all [ifN,shB_min])
theorem shNewS_T (wo:Option Addr)(n wc:Nat)(wg:Nat→Int):(exFn Tryz.prog {tb:=[(98,sShOk)],L:=[(3,sshNewS wo n wc wg)]} 400 Tryz.f24 ([.a (.c (.sl 0 wo n wc))]) ([.row ⟨false,wo,0,1,n,0,[fun i=>.int (wg i)]⟩]) (fun v ch=>∃ (ro0:Option Addr) (rc0:Nat),OutR v ch (.tuple #[.slice ro0 (ifN (shB n wg wg) n) rc0,.bool (shB n wg wg)]) [.row ⟨true,ro0,153,2,ifN (shB n wg wg) n,rc0,[fun i=>.int (wg i),fun i=>.int (wg i)]⟩]))=(
 (fun b:Value=>(fun d:Nat=>(fun g:Nat=>(fun h:Ch=>(fun j:Prop=>∀ k:Nat,(fun l:Value=>∃ m:Nat,([Ws wo n wc,b,Wn,Wb false,l,Wi 0,l,b,b,b,b,b,b,b,b,b,b,b,b,b,b,b,b,b,b,b,b,b,b,b,b,b,b,b]=[Ws wo n wc,b,Wn,Wb false,Ws (Ad m 0) 0 0,Wi 0,l,b,b,b,b,b,b,b,b,b,b,b,b,b,b,b,b,b,b,b,b,b,b,b,b,b,b,b]∧[h,Hc k 153 []]=[h,Hc m 153 []])∧∀(o:Nat→Value) (p:Option Addr) (q:Nat),∃ r s:Nat→Int,(p=p∧d=d∧[fun t=>Ci (wg t),fun t=>Ci (wg t)]=[fun t=>Ci (r t),fun t=>Ci (s t)])∧lenC d∧((! (shB d r s))=true→∀ t:Nat,∃(u:Option Addr) (w:Nat),(Wu [Ws (Ad t 0) 0 0,Wb false])=(Wu [Ws u g w,Wb (shB n wg wg)])∧((true=true∧(Ad t 0)=u∧153=153∧true=true∧0=g∧0=w∧true=true)∧True)∧true=true)∧((! (shB d r s))=false→∃(t:Option Addr) (u:Nat),(Wu [Ws p d q,Wb true])=(Wu [Ws t g u,Wb (shB n wg wg)])∧((true=true∧p=t∧153=153∧2=2∧d=g∧q=u∧j∧j∧True)∧True)∧true=true)) (Ws (Ad k 0) 0 0)) (∀ j:Nat,j<d→(Wi (wg j))=(Wi (wg j)))) (Hr false wo 0 1 n 0 [fun h=>Ci (wg h)])) (ifN (shB n wg wg) n)) (min5 n)) (Wu [])):=by kernel_rfl
theorem shNewS_any (wo:Option Addr)(n wc:Nat)(wg:Nat→Int)(w:World)(h:Row.sat w ⟨false,wo,0,1,n,0,[fun i=>.int (wg i)]⟩)(hpre:capC n):Calls Tryz.prog 24 #[.slice wo n wc] w fun e w'=>∃ (ro0:Option Addr) (rc0:Nat),e=.returned (.tuple #[.slice ro0 (ifN (shB n wg wg) n) rc0,.bool (shB n wg wg)])∧HS ⟨w,fun _=>False⟩ [.row ⟨true,ro0,153,2,ifN (shB n wg wg) n,rc0,[fun i=>.int (wg i),fun i=>.int (wg i)]⟩] w':=by
 refine fn_ok mixed (E:={ tb:=[(98,sShOk)],L:=[(3,sshNewS wo n wc wg)] }) ⟨sShOk_S,trivial⟩ Tryz.func24 (one_loop (by kernel_rfl) (by kernel_rfl) (shNewS_ok wo n wc wg hpre _)) (@Eq.mpr _ _ (shNewS_T wo n wc wg) ?_) (HS.rows (fun _=>False) [⟨false,wo,0,1,n,0,[fun i=>.int (wg i)]⟩] (by simpa using h)) (fun v ch' w' ⟨ro,rc,hk⟩ hs=>⟨ro,rc,by rw [hk.1],hk.hs hs⟩)
 dsimp -zeta -proj -iota -eta -failIfUnchanged (etaStruct:=.none) only
 clear h
 have hm5:=min5_ok n
 cases hs:shB n wg wg
 ·have hn0:ifN (shB n wg wg) n=0:=by simp [hs,ifN]
  repeat' (first
   | with_reducible exact rfl
   | exact True.intro
   | with_reducible assumption
   | refine And.intro ?_ ?_
   | apply Exists.intro
   | (intro h;exfalso;simp [hs,shB_min] at h;done)
   | (intro h;exfalso;simp [hs,shB_min] at h;omega)
   | intro _
   | omega
   | (simp;omega))
  all_goals (try simp_all [ifN,shB_min])
 ·have hf:=shB_facts hs
  have hm:min5 n=n:=(min5_ok n).2.2.1 (by omega)
  repeat' (first
   | with_reducible exact rfl
   | exact True.intro
   | with_reducible assumption
   | refine And.intro ?_ ?_
   | apply Exists.intro
   | (intro h;exfalso;simp [hs,shB_min] at h;done)
   | (intro h;exfalso;simp [hs,shB_min] at h;omega)
   | intro _
   | omega
   | (simp;omega))
  all_goals (try simp_all [ifN,shB_min])
def sShNew:Sm:=fun args ch kk =>
 match args with
 | [.a (.c (.sl i0 a0 n0 d0))] =>
  match ch[i0]? with
  | some (.row r0)=>∃ wg0:Nat→Int,(a0=r0.ao∧n0=r0.n∧r0.fld=[fun i=>.int (wg0 i)]∧capC n0)∧∀ (ro0:Option Addr) (rc0:Nat),kk (.tup [.c (.sl (ch.length) ro0 (ifN (shB n0 wg0 wg0) n0) rc0),.c (.bool (shB n0 wg0 wg0))]) (ch ++ [.row ⟨true,ro0,153,2,ifN (shB n0 wg0 wg0) n0,rc0,[fun i=>.int (wg0 i),fun i=>.int (wg0 i)]⟩]) []
  | _=>False
 | _=>False
theorem sShNew_ok {f:FuncId}(hc:∀ args w,(callFunc f args).run Tryz.prog w=.ok (.enter f args) w)(h:∀ (wO:Option Addr) (wN wC:Nat) (wg0:Nat→Int) (w:World),Row.sat w ⟨false,wO,0,1,wN,0,[fun i=>.int (wg0 i)]⟩→capC wN→Calls Tryz.prog f #[.slice wO wN wC] w fun e w'=>∃ (ro0:Option Addr) (rc0:Nat),e=.returned (.tuple #[.slice ro0 (ifN (shB wN wg0 wg0) wN) rc0,.bool (shB wN wg0 wg0)])∧HS ⟨w,fun _=>False⟩ [.row ⟨true,ro0,153,2,ifN (shB wN wg0 wg0) wN,rc0,[fun i=>.int (wg0 i),fun i=>.int (wg0 i)]⟩] w'):SmOK Tryz.prog f sShNew:=by
 refine smN hc fun args ch kk w X h0 hs=>?_
 unfold sShNew at h0
 split at h0
 ·rename_i i0 a0 n0 d0
  split at h0
  ·rename_i r0 hr0
   obtain ⟨wg0,⟨rfl,rfl,hf0,hpre⟩,h0⟩:=h0
   refine Calls.mono (?_:Calls Tryz.prog f _ w (fun e w'=>∃ (ro0:Option Addr) (rc0:Nat),e=.returned (.tuple #[.slice ro0 (ifN (shB r0.n wg0 wg0) r0.n) rc0,.bool (shB r0.n wg0 wg0)])∧HS ⟨w,fun _=>False⟩ [.row ⟨true,ro0,153,2,ifN (shB r0.n wg0 wg0) r0.n,rc0,[fun i=>.int (wg0 i),fun i=>.int (wg0 i)]⟩] w')) (fun e w' ⟨ro0,rc0,he,hs'⟩=>⟨_,_,?_,hs',rfl,h0 ro0 rc0⟩)
   ·simp only [List.map_cons,List.map_nil,den_a,den_c,SA.den,den_sl]
    exact h r0.ao r0.n d0 wg0 w (Row.seenAs (hs.sat i0 _ hr0) hf0 rfl) hpre
   ·rw [he]
    rfl
  ·exact h0.elim
 ·exact h0.elim
theorem sShNew_I:SmOK Tryz.prog 40 sShNew:=sShNew_ok Tryz.call40 (fun wO wN wC wg0 w h0 hp=>shNewI_any wO wN wC wg0 w h0 hp)
theorem sShNew_S:SmOK Tryz.prog 24 sShNew:=sShNew_ok Tryz.call24 (fun wO wN wC wg0 w h0 hp=>shNewS_any wO wN wC wg0 w h0 hp)
def drainB (lo hi:Int):Bool:=decide (0≤lo)&&decide (lo<hi)&&decide (hi≤12)
def ruleB (d s:Int):Bool:=btw d 1 10000&&decide (s > d)&&decide (s≤20000)
theorem drainOkI_T (dOn:Bool)(dLow dHigh:Int):(exFn Tryz.prog {tb:=[]} 400 Tryz.f135 ([.a (.agg [.bool dOn,.int dLow,.int dHigh])]) ([]) (fun v _=>v.den=.bool (drainB dLow dHigh)))=(
 ∀ b:Nat,b=b∧((decide (dLow ≥ (0:Int)))=true→b=b∧b=b∧((decide (dLow<dHigh))=true→b=b∧(Wb (decide (dHigh≤(12:Int))))=(Wb (drainB dLow dHigh)))∧((decide (dLow<dHigh))=false→(Wb false)=(Wb (drainB dLow dHigh))))∧((decide (dLow ≥ (0:Int)))=false→(Wb false)=(Wb (drainB dLow dHigh)))):=by kernel_rfl
theorem drainOkI_any (dOn:Bool)(dLow dHigh:Int)(w:World):Calls Tryz.prog 135 #[.agg #[.bool dOn,.int .i64 dLow,.int .i64 dHigh]] w fun e w'=>e=.returned (.bool (drainB dLow dHigh))∧Below w.heap.size w w':=by
 refine fnB (tb:=[]) trivial Tryz.func135 (@Eq.mpr _ _ (drainOkI_T dOn dLow dHigh) ?_) (HS.start w (fun _=>False)) (fun v ch' w' hk hs=>⟨by rw [hk],hs.below⟩)
 repeat' (first | with_reducible exact rfl | exact True.intro | refine And.intro ?_ ?_ | intro _)
 all_goals (simp_all [drainB,ruleB];try omega)
theorem drainOkS_T (dOn:Bool)(dLow dHigh:Int):(exFn Tryz.prog {tb:=[]} 400 Tryz.f130 ([.a (.agg [.bool dOn,.int dLow,.int dHigh])]) ([]) (fun v _=>v.den=.bool (drainB dLow dHigh)))=(
 ∀ b:Nat,b=b∧((decide (dLow ≥ (0:Int)))=true→b=b∧((decide (dHigh≤(12:Int)))=true→b=b∧b=b∧(Wb (decide (dLow<dHigh)))=(Wb (drainB dLow dHigh)))∧((decide (dHigh≤(12:Int)))=false→(Wb false)=(Wb (drainB dLow dHigh))))∧((decide (dLow ≥ (0:Int)))=false→(Wb false)=(Wb (drainB dLow dHigh)))):=by kernel_rfl
theorem drainOkS_any (dOn:Bool)(dLow dHigh:Int)(w:World):Calls Tryz.prog 130 #[.agg #[.bool dOn,.int .i64 dLow,.int .i64 dHigh]] w fun e w'=>e=.returned (.bool (drainB dLow dHigh))∧Below w.heap.size w w':=by
 refine fnB (tb:=[]) trivial Tryz.func130 (@Eq.mpr _ _ (drainOkS_T dOn dLow dHigh) ?_) (HS.start w (fun _=>False)) (fun v ch' w' hk hs=>⟨by rw [hk],hs.below⟩)
 repeat' (first | with_reducible exact rfl | exact True.intro | refine And.intro ?_ ?_ | intro _)
 all_goals (simp_all [drainB,ruleB];try omega)
def sDrainOk:Sm:=fun args ch k =>
 match args with
 | [.a (.agg [c0,c1,c2])] =>
  match ints [c1,c2],bools [c0] with
  | some [dLow,dHigh],some [dOn]=>k (.a (.c (.bool (drainB dLow dHigh)))) ch []
  | _,_=>False
 | _=>False
theorem sDrainOk_ok {f:FuncId}(hc:∀ args w,(callFunc f args).run Tryz.prog w=.ok (.enter f args) w)(h:∀ (dOn:Bool) (dLow dHigh:Int) (w:World),Calls Tryz.prog f #[.agg #[.bool dOn,.int .i64 dLow,.int .i64 dHigh]] w fun e w'=>e=.returned (.bool (drainB dLow dHigh))∧Below w.heap.size w w'):SmOK Tryz.prog f sDrainOk:=by
 refine smB hc fun args ch k w X h0 hs=>?_
 unfold sDrainOk at h0
 split at h0
 ·split at h0
  ·rename_i dLow dHigh dOn hi hb
   obtain ⟨e1,hi1⟩:=ints_cons hi
   obtain ⟨e2,hi2⟩:=ints_cons hi1
   obtain ⟨e0,hb1⟩:=bools_cons hb
   refine ⟨_,h0,?_⟩
   simp only [List.map_cons,List.map_nil,den_a,den_c,SA.den,e0,e1,e2]
   exact h dOn dLow dHigh w
  ·exact h0.elim
 ·exact h0.elim
theorem sDrainOk_I:SmOK Tryz.prog 135 sDrainOk:=sDrainOk_ok Tryz.call135 drainOkI_any
theorem sDrainOk_S:SmOK Tryz.prog 130 sDrainOk:=sDrainOk_ok Tryz.call130 drainOkS_any
theorem ruleOkI_T (pDown pSleep:Int):(exFn Tryz.prog {tb:=[(106,sBtw)]} 400 Tryz.f136 ([.a (.agg [.int pDown,.int pSleep])]) ([]) (fun v _=>v.den=.bool (ruleB pDown pSleep)))=(
 ∀ b:Nat,b=b∧((btw pDown (1:Int) (10000:Int))=true→b=b∧b=b∧((decide (pSleep > pDown))=true→b=b∧(Wb (decide (pSleep≤(20000:Int))))=(Wb (ruleB pDown pSleep)))∧((decide (pSleep > pDown))=false→(Wb false)=(Wb (ruleB pDown pSleep))))∧((btw pDown (1:Int) (10000:Int))=false→(Wb false)=(Wb (ruleB pDown pSleep)))):=by kernel_rfl
theorem ruleOkI_any (pDown pSleep:Int)(w:World):Calls Tryz.prog 136 #[.agg #[.int .i64 pDown,.int .i64 pSleep]] w fun e w'=>e=.returned (.bool (ruleB pDown pSleep))∧Below w.heap.size w w':=by
 refine fnB (tb:=[(106,sBtw)]) ⟨sBtwI_ok,trivial⟩ Tryz.func136 (@Eq.mpr _ _ (ruleOkI_T pDown pSleep) ?_) (HS.start w (fun _=>False)) (fun v ch' w' hk hs=>⟨by rw [hk],hs.below⟩)
 repeat' (first | with_reducible exact rfl | exact True.intro | refine And.intro ?_ ?_ | intro _)
 all_goals (simp_all [drainB,ruleB];try omega)
theorem ruleOkS_T (pDown pSleep:Int):(exFn Tryz.prog {tb:=[(97,sBtw)]} 400 Tryz.f131 ([.a (.agg [.int pDown,.int pSleep])]) ([]) (fun v _=>v.den=.bool (ruleB pDown pSleep)))=(
 ∀ b:Nat,b=b∧((btw pDown (1:Int) (10000:Int))=true→b=b∧b=b∧((decide (pSleep > pDown))=true→b=b∧(Wb (decide (pSleep≤(20000:Int))))=(Wb (ruleB pDown pSleep)))∧((decide (pSleep > pDown))=false→(Wb false)=(Wb (ruleB pDown pSleep))))∧((btw pDown (1:Int) (10000:Int))=false→(Wb false)=(Wb (ruleB pDown pSleep)))):=by kernel_rfl
theorem ruleOkS_any (pDown pSleep:Int)(w:World):Calls Tryz.prog 131 #[.agg #[.int .i64 pDown,.int .i64 pSleep]] w fun e w'=>e=.returned (.bool (ruleB pDown pSleep))∧Below w.heap.size w w':=by
 refine fnB (tb:=[(97,sBtw)]) ⟨sBtwS_ok,trivial⟩ Tryz.func131 (@Eq.mpr _ _ (ruleOkS_T pDown pSleep) ?_) (HS.start w (fun _=>False)) (fun v ch' w' hk hs=>⟨by rw [hk],hs.below⟩)
 repeat' (first | with_reducible exact rfl | exact True.intro | refine And.intro ?_ ?_ | intro _)
 all_goals (simp_all [drainB,ruleB];try omega)
def sRuleOk:Sm:=fun args ch k =>
 match args with
 | [.a (.agg [c0,c1])] =>
  match ints [c0,c1],bools [] with
  | some [pDown,pSleep],some []=>k (.a (.c (.bool (ruleB pDown pSleep)))) ch []
  | _,_=>False
 | _=>False
theorem sRuleOk_ok {f:FuncId}(hc:∀ args w,(callFunc f args).run Tryz.prog w=.ok (.enter f args) w)(h:∀ (pDown pSleep:Int) (w:World),Calls Tryz.prog f #[.agg #[.int .i64 pDown,.int .i64 pSleep]] w fun e w'=>e=.returned (.bool (ruleB pDown pSleep))∧Below w.heap.size w w'):SmOK Tryz.prog f sRuleOk:=by
 refine smB hc fun args ch k w X h0 hs=>?_
 unfold sRuleOk at h0
 split at h0
 ·split at h0
  ·rename_i pDown pSleep hi hb
   obtain ⟨e0,hi1⟩:=ints_cons hi
   obtain ⟨e1,hi2⟩:=ints_cons hi1
   refine ⟨_,h0,?_⟩
   simp only [List.map_cons,List.map_nil,den_a,den_c,SA.den,e0,e1]
   exact h pDown pSleep w
  ·exact h0.elim
 ·exact h0.elim
theorem sRuleOk_I:SmOK Tryz.prog 136 sRuleOk:=sRuleOk_ok Tryz.call136 ruleOkI_any
theorem sRuleOk_S:SmOK Tryz.prog 131 sRuleOk:=sRuleOk_ok Tryz.call131 ruleOkS_any
theorem rankI_T (G B R K:Int)(N:Nat):(exFn Tryz.prog {tb:=[(102,sGeo),(39,sBank)]} 400 Tryz.f33 ([.a (.agg [.int G,.int B,.int R,.int K])]) ([]) (fun v_ ch=>∃ (b:Nat),OutR v_ ch (.agg #[.slice (some ⟨b,0,none⟩) N N,.int .i64 0]) [.row ⟨true,some ⟨b,0,none⟩,194,2,N,N,[fun i=>.lit false,fun i=>.il 0]⟩]))=(
 ∀ c d:Nat,c=c∧((! (geoB G B R K))=true→d=d∧d=d∧∃ g:Nat,(Wa [Wn,Wi 0])=(Wa [Ws (Ad g 0) N N,Wi 0])∧((true=true∧(none:Option Addr)=(Ad g 0)∧0=N∧0=N∧true=true)∧True)∧true=true)∧((! (geoB G B R K))=false→c=c∧(bankN G B R K)=(bankN G B R K)∧mkC 16 (bankN G B R K)∧∀ g:Nat,d=d∧d=d∧∃ h:Nat,(Wa [Ws (Ad g 0) (Int.toNat (bankN G B R K)) (Int.toNat (bankN G B R K)),Wi 0])=(Wa [Ws (Ad h 0) N N,Wi 0])∧((true=true∧(Ad g 0)=(Ad h 0)∧194=194∧2=2∧(Int.toNat (bankN G B R K))=N∧(Int.toNat (bankN G B R K))=N∧(∀ j:Nat,j<(Int.toNat (bankN G B R K))→(Wb false)=(Wb false))∧(∀ j:Nat,j<(Int.toNat (bankN G B R K))→(Wi 0)=(Wi 0))∧True)∧True)∧true=true)):=by kernel_rfl
theorem rankI_any (G B R K:Int)(N:Nat)(w:World)(hg:geoB G B R K=true)(hN:bankN G B R K=(N:Int))(h8:1≤N∧N≤8):Calls Tryz.prog 33 #[.agg #[.int .i64 G,.int .i64 B,.int .i64 R,.int .i64 K]] w fun e w'=>∃ (b:Nat),e=.returned (.agg #[.slice (some ⟨b,0,none⟩) N N,.int .i64 0])∧HS ⟨w,fun _=>False⟩ [.row ⟨true,some ⟨b,0,none⟩,194,2,N,N,[fun i=>.lit false,fun i=>.il 0]⟩] w':=by
 refine fn_ok mixed (E:={tb:=[(102,sGeo),(39,sBank)]}) ⟨sGeo_I,sBank_I,trivial⟩ Tryz.func33 (fun _ _=>loopsOK_nil _ _ _) (@Eq.mpr _ _ (rankI_T G B R K N) ?_) (HS.start w (fun _=>False)) (fun v ch' w' ⟨b,hk⟩ hs=>⟨b,by rw [hk.1],hk.hs hs⟩)
 simp only [hN,Int.toNat_natCast]
 repeat' (first
  | with_reducible exact rfl
  | exact True.intro
  | with_reducible assumption
  | (show mkC _ _;exact ⟨by omega,by omega,by omega⟩)
  | (show rng _;exact ⟨by omega,by omega⟩)
  | (intro i hi;with_reducible exact rfl)
  | (intro i hi;exact rfl)
  | refine And.intro ?_ ?_
  | apply Exists.intro
  | (refine fun (h:@Eq Bool _ _)=>?_;exfalso;first | (simp [hg] at h;done) | (simp [hg] at h;omega))
  | intro _
  | omega
  | exact rfl)
theorem rankS_T (G B R K:Int)(N:Nat):(exFn Tryz.prog {tb:=[(19,sBank)]} 400 Tryz.f16 ([.a (.agg [.int G,.int B,.int R,.int K])]) ([]) (fun v_ ch=>∃ (b:Nat),OutR v_ ch (.agg #[.slice (some ⟨b,0,none⟩) N N,.int .i64 0]) [.row ⟨true,some ⟨b,0,none⟩,194,2,N,N,[fun i=>.lit false,fun i=>.il 0]⟩]))=(
 ∀ c d:Nat,c=c∧(bankN G B R K)=(bankN G B R K)∧mkC 16 (bankN G B R K)∧∀ g:Nat,d=d∧d=d∧∃ h:Nat,(Wa [Ws (Ad g 0) (Int.toNat (bankN G B R K)) (Int.toNat (bankN G B R K)),Wi 0])=(Wa [Ws (Ad h 0) N N,Wi 0])∧((true=true∧(Ad g 0)=(Ad h 0)∧194=194∧2=2∧(Int.toNat (bankN G B R K))=N∧(Int.toNat (bankN G B R K))=N∧(∀ j:Nat,j<(Int.toNat (bankN G B R K))→(Wb false)=(Wb false))∧(∀ j:Nat,j<(Int.toNat (bankN G B R K))→(Wi 0)=(Wi 0))∧True)∧True)∧true=true):=by kernel_rfl
theorem rankS_any (G B R K:Int)(N:Nat)(w:World)(hg:geoB G B R K=true)(hN:bankN G B R K=(N:Int))(h8:1≤N∧N≤8):Calls Tryz.prog 16 #[.agg #[.int .i64 G,.int .i64 B,.int .i64 R,.int .i64 K]] w fun e w'=>∃ (b:Nat),e=.returned (.agg #[.slice (some ⟨b,0,none⟩) N N,.int .i64 0])∧HS ⟨w,fun _=>False⟩ [.row ⟨true,some ⟨b,0,none⟩,194,2,N,N,[fun i=>.lit false,fun i=>.il 0]⟩] w':=by
 refine fn_ok mixed (E:={tb:=[(19,sBank)]}) ⟨sBank_S,trivial⟩ Tryz.func16 (fun _ _=>loopsOK_nil _ _ _) (@Eq.mpr _ _ (rankS_T G B R K N) ?_) (HS.start w (fun _=>False)) (fun v ch' w' ⟨b,hk⟩ hs=>⟨b,by rw [hk.1],hk.hs hs⟩)
 simp only [hN,Int.toNat_natCast]
 repeat' (first
  | with_reducible exact rfl
  | exact True.intro
  | with_reducible assumption
  | (show mkC _ _;exact ⟨by omega,by omega,by omega⟩)
  | (show rng _;exact ⟨by omega,by omega⟩)
  | (intro i hi;with_reducible exact rfl)
  | (intro i hi;exact rfl)
  | refine And.intro ?_ ?_
  | apply Exists.intro
  | (refine fun (h:@Eq Bool _ _)=>?_;exfalso;first | (simp [hg] at h;done) | (simp [hg] at h;omega))
  | intro _
  | omega
  | exact rfl)
def flH (n b:Nat)(i:SC)(g:Nat→Value):List SV:=hdN [(0,.a (.c (.int (n:Int)))),(3,.a (.c (.sl 0 (some ⟨b,0,none⟩) n n))),(4,.a (.c i))] g 0 16
theorem flB (n b:Nat)(j:Nat)(g:Nat→Value)(NX:List SV→List Ch→Prop)(kx:Exit→List SV→List Ch→Prop):(exCode Tryz.prog {} 400 (theLoop Tryz.f94 0) (flH n b (.int (j:Int)) g) ([.row ⟨true,some ⟨b,0,none⟩,3,1,n,n,[fun i=>.int (lowI i j (-1) 0)]⟩]) (loopK NX kx))=(
 ((decide (((j:Nat):Int)<((n:Nat):Int)))=true→(Ad b 0)=(Ad b 0)∧n=n∧(0≤((j:Nat):Int)∧((j:Nat):Int)<((n:Nat):Int))∧(Ad b 0)=(Ad b 0)∧j<n∧rng (((j:Nat):Int)+(1:Int))∧NX [iV ((n:Nat):Int),vV (g 1),vV (g 2),sV 0 (Ad b 0) n n,iV (((j:Nat):Int)+(1:Int)),vV (g 5),vV (g 6),iV ((j:Nat):Int),iV ((n:Nat):Int),tV,iV ((j:Nat):Int),iV (((j:Nat):Int)+(1:Int)),sV 0 (Ad b 0) n n,iV ((j:Nat):Int),rV 0 (Ad b 0) 1 j 0,vV (g 15)] [Hr true (Ad b 0) 3 1 n n [fun a=>Ci (if a=j then ((-1):Int) else (if a<j then ((-1):Int) else (0:Int)))]])∧((decide (((j:Nat):Int)<((n:Nat):Int)))=false→kx (Exit.exit 0) [iV ((n:Nat):Int),vV (g 1),vV (g 2),sV 0 (Ad b 0) n n,iV ((j:Nat):Int),vV (g 5),vV (g 6),iV ((j:Nat):Int),iV ((n:Nat):Int),fV,vV (g 10),vV (g 11),vV (g 12),vV (g 13),vV (g 14),vV (g 15)] [Hr true (Ad b 0) 3 1 n n [fun a=>Ci (if a<j then ((-1):Int) else (0:Int))]])):=by kernel_rfl
def sfl (n b:Nat)(sl:List Nat):LSm:=fun ts ch kk=>(ts.map SV.den=(flH n b (.il 0) (fun d=>(ts.getD d .undef).den)).map SV.den∧SelS ch sl [.row ⟨true,some ⟨b,0,none⟩,3,1,n,n,[fun i=>.il 0]⟩])∧∀ g,kk (.exit 0) (flH n b (.int (n:Int)) g) [.row ⟨true,some ⟨b,0,none⟩,3,1,n,n,[fun i=>.int (-1)]⟩]
theorem fl_ok (n b:Nat)(sl:List Nat)(hn:n≤1000)(X:Cx):LoopOK Tryz.prog X (theLoop Tryz.f94 0) (sfl n b sl):=by
 intro ts ch kk a w hS hT hd hs
 obtain ⟨⟨h1,hch⟩,hkk⟩:=hS
 refine loop_ok mixed (E:={}) trivial (loopsOK_nil _ _ _) 400 n (fun j ts ch=>∃ g,ts=flH n b (.int (j:Int)) g∧ch=[.row ⟨true,some ⟨b,0,none⟩,3,1,n,n,[fun i=>.int (lowI i j (-1) 0)]⟩]) ?_ ?_ hT hd hs
 ·rintro j _ _ ⟨g,rfl,rfl⟩ hj
  refine @Eq.mpr _ _ (flB n b j g _ _) ?_
  clear h1
  by_cases hlt:j<n
  ·have hjn:(0:Int)≤(j:Int)∧(j:Int)<(n:Int):=⟨by omega,by omega⟩
   repeat' (first
    | with_reducible exact rfl
    | exact True.intro
    | with_reducible assumption
    | (refine ⟨hlt,?_⟩;show Next _ _ _ _;refine Next.mk (fun g=>flH n b (.int ((j+1:Nat):Int)) g) [.row ⟨true,some ⟨b,0,none⟩,3,1,n,n,[fun i=>.int (lowI i (j+1) (-1) 0)]⟩] ⟨_,rfl,rfl⟩ rfl (fun w hw=>hw.re 0 _ rfl [fun i=>.int (lowI i (j+1) (-1) 0)] ⟨fun i hi=>?_,trivial⟩))
    | (show rng _;exact ⟨by omega,by omega⟩)
    | refine And.intro ?_ ?_
    | (refine fun (h:@Eq Bool _ _)=>?_;exfalso;first | (simp at h;done) | (simp at h;omega))
    | intro _
    | omega)
   all_goals exact congrArg (Value.int .i64) (sel_low (fun _=>-1) i j)
  ·have hjk:n=j:=by omega
   subst hjk
   repeat' (first
    | with_reducible exact rfl
    | exact True.intro
    | (refine Next.mk (fun g=>flH n b (.int (n:Int)) g) _ (hkk _) rfl (fun w hw=>hw.re 0 _ rfl [fun i=>.int (-1)] ⟨fun i hi=>?_,trivial⟩))
    | refine And.intro ?_ ?_
    | (refine fun (h:@Eq Bool _ _)=>?_;exfalso;first | (simp at h;done) | (simp at h;omega))
    | intro _)
   all_goals
    have hi':i<n:=hi
    simp [SC.den,lowI,hi']
 ·refine Next.mk (fun g=>flH n b (.int ((0:Nat):Int)) g) _ ⟨_,rfl,rfl⟩ h1 fun w hw=>(hch.hs hw).re 0 _ rfl [fun i=>.int (lowI i 0 (-1) 0)] ⟨fun i hi=>?_,trivial⟩
  simp [SC.den,lowI]
def sflw (n:Nat):LSm:=fun ts ch kk=>∃ b,sfl n b [0] ts ch kk
theorem flw_ok (n:Nat)(hn:n≤1000)(X:Cx):LoopOK Tryz.prog X (theLoop Tryz.f94 0) (sflw n):=by
 rintro ts ch kk a w ⟨b,h⟩ hT hd hs
 exact fl_ok n b [0] hn X ts ch kk a w h hT hd hs
theorem fill_T (n:Nat):(exFn Tryz.prog {tb:=[],L:=[(3,sflw n)]} 400 Tryz.f94 ([.a (.c (.int (n:Int)))]) ([]) (fun v_ ch=>∃ (b:Nat),OutR v_ ch (.slice (some ⟨b,0,none⟩) n n) [.row ⟨true,some ⟨b,0,none⟩,3,1,n,n,[fun i=>.int (-1)]⟩]))=(
 ((n:Nat):Int)=((n:Nat):Int)∧mkC 8 ((n:Nat):Int)∧∀ d:Nat,∃ g:Nat,([Wi ((n:Nat):Int),Wu [],Wn,Ws (Ad d 0) n n,Wi 0,Wi ((n:Nat):Int),Ws (Ad d 0) n n,Wu [],Wu [],Wu [],Wu [],Wu [],Wu [],Wu [],Wu [],Wu []]=[Wi ((n:Nat):Int),Wu [],Wn,Ws (Ad g 0) n n,Wi 0,Wi ((n:Nat):Int),Ws (Ad d 0) n n,Wu [],Wu [],Wu [],Wu [],Wu [],Wu [],Wu [],Wu [],Wu []]∧SelS [Hr true (Ad d 0) 3 1 n n [fun h=>Cl 0]] [0] [Hr true (Ad g 0) 3 1 n n [fun h=>Cl 0]])∧∀ h:Nat→Value,∃ j:Nat,(Ws (Ad g 0) n n)=(Ws (Ad j 0) n n)∧((true=true∧(Ad g 0)=(Ad j 0)∧3=3∧1=1∧n=n∧n=n∧(∀ k:Nat,k<n→(Wi (-1))=(Wi (-1)))∧True)∧True)∧true=true):=by kernel_rfl
theorem fill_any (n:Nat)(w:World)(hn:n≤1000):Calls Tryz.prog 94 #[.int .i64 n] w fun e w'=>∃ (b:Nat),e=.returned (.slice (some ⟨b,0,none⟩) n n)∧HS ⟨w,fun _=>False⟩ [.row ⟨true,some ⟨b,0,none⟩,3,1,n,n,[fun i=>.int (-1)]⟩] w':=by
 refine fn_ok mixed (E:={tb:=[],L:=[(3,sflw n)]}) trivial Tryz.func94 (one_loop (by kernel_rfl) (by kernel_rfl) (flw_ok n hn _)) (@Eq.mpr _ _ (fill_T n) ?_) (HS.start w (fun _=>False)) (fun v ch' w' ⟨b,hk⟩ hs=>⟨b,by rw [hk.1],hk.hs hs⟩)
 repeat' (first
  | with_reducible exact rfl
  | exact True.intro
  | with_reducible assumption
  | (show mkC _ _;exact ⟨by omega,by omega,by omega⟩)
  | (show rng _;exact ⟨by omega,by omega⟩)
  | (intro i hi;with_reducible exact rfl)
  | (intro i hi;exact rfl)
  | ((with_reducible show SelS _ _ _);exact (by refine ⟨?_,rfl⟩;repeat' (first | exact True.intro | exact rfl | refine And.intro ?_ ?_ | (intro i hi;show _=_;rfl))))
  | refine And.intro ?_ ?_
  | apply Exists.intro
  | (refine fun (h:@Eq Bool _ _)=>?_;exfalso;first | (simp [] at h;done) | (simp [] at h;omega))
  | intro _
  | omega
  | exact rfl)
abbrev mulN (a b:Nat):Nat:=a*b
def spF (m i:Nat):Int:=((i % m:Nat):Int)
def spT (G B R C sp:Int)(N m pa pb pc:Nat)(ao:Option Addr)(j cap:Nat):List Ch:=[.cells pa 38 [.int G,.int B,.int R,.int C],.cells pb 58 [.il 0,.nil],.cells pc 58 [.int sp,.sl 3 ao j cap],.row ⟨true,ao,3,1,j,cap,[fun i=>.int (spF m i)]⟩]
def spT0 (G B R C sp:Int)(N m pa pb pc:Nat):List Ch:=[.cells pa 38 [.int G,.int B,.int R,.int C],.cells pb 58 [.il 0,.nil],.cells pc 58 [.int sp,.nil]]
def spIH (G B R C sp:Int)(N m pa pb pc:Nat)(k:Nat)(i:SC)(g:Nat→Value):List SV:=[.a (.c (.val (g 0))),.a (.c (.int sp)),.a (.c (.ptr 0 pa 0)),.a (.c (.val (g 3))),.a (.c (.ptr 1 pb 0)),.a (.c (.val (g 5))),.a (.c (.ptr 2 pc 0)),.a (.c (.int (k:Int))),.a (.c i),.a (.c (.val (g 9))),.a (.c (.val (g 10))),.a (.c (.val (g 11))),.a (.c (.val (g 12))),.a (.c (.val (g 13))),.a (.c (.val (g 14))),.a (.c (.val (g 15))),.a (.c (.val (g 16))),.a (.c (.val (g 17))),.a (.c (.val (g 18))),.a (.c (.val (g 19))),.a (.c (.val (g 20))),.a (.c (.val (g 21))),.a (.c (.val (g 22))),.a (.c (.val (g 23))),.a (.c (.val (g 24))),.a (.c (.val (g 25))),.a (.c (.val (g 26))),.a (.c (.val (g 27))),.a (.c (.val (g 28))),.a (.c (.val (g 29))),.a (.c (.val (g 30))),.a (.c (.val (g 31))),.a (.c (.val (g 32))),.a (.c (.val (g 33))),.a (.c (.val (g 34))),.a (.c (.val (g 35))),.a (.c (.val (g 36))),.a (.c (.val (g 37))),.a (.c (.val (g 38))),.a (.c (.val (g 39))),.a (.c (.val (g 40))),.a (.c (.val (g 41))),.a (.c (.val (g 42))),.a (.c (.val (g 43))),.a (.c (.val (g 44))),.a (.c (.val (g 45))),.a (.c (.val (g 46))),.a (.c (.val (g 47)))]
def ssp1 (G B R C sp:Int)(N m pa pb pc:Nat):LSm:=fun ts ch kk =>
 ∃ (k:Nat) (ao:Option Addr) (cap:Nat),((ts.map SV.den=(spIH G B R C sp N m pa pb pc k (.il 0) (fun d=>(ts.getD d .undef).den)).map SV.den∧ch=spT G B R C sp N m pa pb pc ao (mulN k m) cap)∧ltN k N) ∧
  ∀ g ao cap,kk (.exit 2) (spIH G B R C sp N m pa pb pc k (.int (m:Int)) g) (spT G B R C sp N m pa pb pc ao (mulN (addN k 1) m) cap)
theorem sp1B (G B R C sp:Int)(N m pa pb pc:Nat)(k:Nat)(ao:Option Addr)(j r cap:Nat)(g:Nat→Value)(NX:List SV→List Ch→Prop)(kx:Exit→List SV→List Ch→Prop):(exCode Tryz.prog {} 400 (theLoop Tryz.f37 1) (spIH G B R C sp N m pa pb pc k (.int (r:Int)) g) (spT G B R C sp N m pa pb pc ao j cap) (loopK NX kx))=(
 (fun a:SV=>(fun b:SV=>(fun c:Bool=>(fun d:Ch=>pa=pa∧rng (R-sp)∧(c=true→pc=pc∧∀ h:Nat,(ao=ao∧j=j∧cap=cap∧h=h∧(∀ l:Nat,true=true)∧apC j 1 8)∧∀(l:Option Addr) (n:Nat),pc=pc∧rng (((r:Nat):Int)+(1:Int))∧NX [vV (g 0),iV sp,pV 0 pa 0,vV (g 3),pV 1 pb 0,vV (g 5),pV 2 pc 0,iV ((k:Nat):Int),b,vV (g 9),vV (g 10),vV (g 11),vV (g 12),vV (g 13),vV (g 14),vV (g 15),vV (g 16),vV (g 17),vV (g 18),vV (g 19),vV (g 20),vV (g 21),vV (g 22),vV (g 23),vV (g 24),vV (g 25),vV (g 26),vV (g 27),vV (g 28),vV (g 29),vV (g 30),vV (g 31),vV (g 32),a,pV 0 pa 2,iV R,iV sp,iV (R-sp),tV,a,b,pV 2 pc 1,sV 3 ao j cap,a,cV 4 h 1 1,sV 5 l (j+1) n,pV 2 pc 1,vV (g 47)] [d,Hc pb 58 [Cl 0,Cz],Hc pc 58 [Ci sp,Cs 5 l (j+1) n],Hd,Hc h 3 [Ci ((r:Nat):Int)],Hr true l 3 1 (j+1) n [fun o=>Ci (if o<j then (spF m o) else ((r:Nat):Int))]])∧(c=false→kx (Exit.exit 2) [vV (g 0),iV sp,pV 0 pa 0,vV (g 3),pV 1 pb 0,vV (g 5),pV 2 pc 0,iV ((k:Nat):Int),a,vV (g 9),vV (g 10),vV (g 11),vV (g 12),vV (g 13),vV (g 14),vV (g 15),vV (g 16),vV (g 17),vV (g 18),vV (g 19),vV (g 20),vV (g 21),vV (g 22),vV (g 23),vV (g 24),vV (g 25),vV (g 26),vV (g 27),vV (g 28),vV (g 29),vV (g 30),vV (g 31),vV (g 32),a,pV 0 pa 2,iV R,iV sp,iV (R-sp),fV,vV (g 39),vV (g 40),vV (g 41),vV (g 42),vV (g 43),vV (g 44),vV (g 45),vV (g 46),vV (g 47)] [d,Hc pb 58 [Cl 0,Cz],Hc pc 58 [Ci sp,Cs 3 ao j cap],Hr true ao 3 1 j cap [fun h=>Ci (spF m h)]])) (Hc pa 38 [Ci G,Ci B,Ci R,Ci C])) (decide (((r:Nat):Int)<(R-sp)))) (iV (((r:Nat):Int)+(1:Int)))) (iV ((r:Nat):Int))):=by kernel_rfl
theorem sp1_ok (G B R C sp:Int)(N m pa pb pc:Nat)(hg:geoB G B R C=true)(hN:bankN G B R C=(N:Int))(hm:R-sp=(m:Int))(hb:N≤8∧2≤m∧m≤16∧0≤sp∧sp≤2)(X:Cx):LoopOK Tryz.prog X (theLoop Tryz.f37 1) (ssp1 G B R C sp N m pa pb pc):=by
 intro ts ch kk a w hS hT hd hs
 obtain ⟨k,ao0,cap0,⟨⟨h1,rfl⟩,hkN⟩,hk⟩:=hS
 have hkm:(k+1)*m≤128:=Nat.le_trans (Nat.mul_le_mul (show k+1≤8 by omega) hb.2.2.1) (by omega)
 have hkm2:(k+1)*m=k*m+m:=Nat.succ_mul k m
 refine loop_ok mixed (E:={}) trivial (loopsOK_nil _ _ _) 400 m (fun r ts ch=>∃ g ao cap,ts=spIH G B R C sp N m pa pb pc k (.int (r:Int)) g∧ch=spT G B R C sp N m pa pb pc ao (k*m+r) cap) ?_ ?_ hT hd hs
 ·rintro r _ _ ⟨g,ao,cap,rfl,rfl⟩ hj
  refine (@Eq.mpr _ _ (sp1B G B R C sp N m pa pb pc k ao (k*m+r) r cap g _ _) ?_)
  dsimp -zeta -proj -iota -eta -failIfUnchanged (etaStruct:=.none) only
  by_cases hlt:r<m
  ·have hmod:spF m (k*m+r)=(r:Int):=by
    simp only [spF]
    rw [Nat.mul_add_mod_self_right,Nat.mod_eq_of_lt hlt]
   repeat' (first
    | with_reducible exact rfl
    | exact True.intro
    | with_reducible assumption
    | (refine ⟨hlt,?_⟩;refine Next.mk (fun g=>spIH G B R C sp N m pa pb pc k (.int ((r+1:Nat):Int)) g) _ ⟨_,_,_,rfl,rfl⟩ rfl (fun w hw=>((hw.sel [0,1,2,5] (by simp)).recell 2 rfl [.int sp,.sl 3 _ (k*m+r+1) _] rfl).re 3 _ rfl [fun i=>.int (spF m i)] ?_);refine ⟨fun i hi=>?_,trivial⟩)
    | fail
    | refine And.intro ?_ ?_
    | (intro h;replace h:=of_decide_eq_true h;first | (exfalso;omega) | skip)
    | (intro h;replace h:=of_decide_eq_false h;first | (exfalso;omega) | skip)
    | intro _
    | omega
    | (simp;omega))
   all_goals
    rename_i i hi
    have hi:i<k*m+r+1:=hi
    simp only [SC.den]
    by_cases e:i<k*m+r
    ·simp [e]
    ·have e2:i=k*m+r:=by omega
     subst e2
     simp [hmod]
  ·have hjn:r=m:=by omega
   subst hjn
   repeat' (first
    | with_reducible exact rfl
    | exact True.intro
    | with_reducible assumption
    | fail
    | (refine Next.mk (fun g=>spIH G B R C sp N r pa pb pc k (.int (r:Int)) g) _ (by have:=hk;rw [show mulN (addN k 1) r=k*r+r from hkm2] at this;exact this _ _ _) rfl fun w hw=>hw)
    | refine And.intro ?_ ?_
    | (intro h;replace h:=of_decide_eq_true h;first | (exfalso;omega) | skip)
    | (intro h;replace h:=of_decide_eq_false h;first | (exfalso;omega) | skip)
    | intro _
    | omega
    | (simp;omega))
 ·exact Next.mk (fun g=>spIH G B R C sp N m pa pb pc k (.int ((0:Nat):Int)) g) _ ⟨_,_,_,rfl,rfl⟩ h1 fun w hw=>hw
def sp0H (G B R C sp:Int)(N m pa pb pc:Nat)(i:SC)(g:Nat→Value):List SV:=[.a (.c (.val (g 0))),.a (.c (.int sp)),.a (.c (.ptr 0 pa 0)),.a (.c (.val (g 3))),.a (.c (.ptr 1 pb 0)),.a (.c (.val (g 5))),.a (.c (.ptr 2 pc 0)),.a (.c i),.a (.c (.val (g 8))),.a (.c (.val (g 9))),.a (.c (.val (g 10))),.a (.c (.val (g 11))),.a (.c (.val (g 12))),.a (.c (.val (g 13))),.a (.c (.val (g 14))),.a (.c (.val (g 15))),.a (.c (.val (g 16))),.a (.c (.val (g 17))),.a (.c (.val (g 18))),.a (.c (.val (g 19))),.a (.c (.val (g 20))),.a (.c (.val (g 21))),.a (.c (.val (g 22))),.a (.c (.val (g 23))),.a (.c (.val (g 24))),.a (.c (.val (g 25))),.a (.c (.val (g 26))),.a (.c (.val (g 27))),.a (.c (.val (g 28))),.a (.c (.val (g 29))),.a (.c (.val (g 30))),.a (.c (.val (g 31))),.a (.c (.val (g 32))),.a (.c (.val (g 33))),.a (.c (.val (g 34))),.a (.c (.val (g 35))),.a (.c (.val (g 36))),.a (.c (.val (g 37))),.a (.c (.val (g 38))),.a (.c (.val (g 39))),.a (.c (.val (g 40))),.a (.c (.val (g 41))),.a (.c (.val (g 42))),.a (.c (.val (g 43))),.a (.c (.val (g 44))),.a (.c (.val (g 45))),.a (.c (.val (g 46))),.a (.c (.val (g 47)))]
def ssp0 (G B R C sp:Int)(N m pa pb pc:Nat):LSm:=fun ts ch kk =>
 (ts.map SV.den=(sp0H G B R C sp N m pa pb pc (.il 0) (fun d=>(ts.getD d .undef).den)).map SV.den∧ch=spT0 G B R C sp N m pa pb pc) ∧
  ∀ g ao cap,kk (.exit 0) (sp0H G B R C sp N m pa pb pc (.int (N:Int)) g) (spT G B R C sp N m pa pb pc ao (mulN N m) cap)
theorem sp0B (G B R C sp:Int)(N m pa pb pc:Nat)(k:Nat)(ao:Option Addr)(cap:Nat)(g:Nat→Value)(NX:List SV→List Ch→Prop)(kx:Exit→List SV→List Ch→Prop):(exCode Tryz.prog {tb:=[(39,sBank)],L:=[(8,ssp1 G B R C sp N m pa pb pc)]} 400 (theLoop Tryz.f37 0) (sp0H G B R C sp N m pa pb pc (.int (k:Int)) g) (spT G B R C sp N m pa pb pc ao (mulN k m) cap) (loopK NX kx))=(
 (fun a:Int=>(fun b:Value=>(fun c:Ch=>(fun d:List (Nat→SC)=>(fun h:Value=>(fun j:Ch=>(fun l:Bool=>(fun n:List Ch=>pa=pa∧(l=true→∃(o:Nat) (p:Option Addr) (q:Nat),(fun r:SV=>(([g 0,Wi sp,Wp pa 0,g 3,Wp pb 0,g 5,Wp pc 0,b,Wi 0,g 9,g 10,g 11,g 12,g 13,g 14,g 15,g 16,g 17,g 18,g 19,g 20,g 21,g 22,g 23,g 24,g 25,g 26,b,h,Wi a,Wb true,g 31,g 32,g 33,g 34,g 35,g 36,g 37,g 38,g 39,g 40,g 41,g 42,g 43,g 44,g 45,g 46,g 47]=[g 0,Wi sp,Wp pa 0,g 3,Wp pb 0,g 5,Wp pc 0,Wi ((o:Nat):Int),Wi 0,g 9,g 10,g 11,g 12,g 13,g 14,g 15,g 16,g 17,g 18,g 19,g 20,g 21,g 22,g 23,g 24,g 25,g 26,b,h,Wi a,Wb true,g 31,g 32,g 33,g 34,g 35,g 36,g 37,g 38,g 39,g 40,g 41,g 42,g 43,g 44,g 45,g 46,g 47]∧n=[j,c,Hc pc 58 [Ci sp,Cs 3 p (mulN o m) q],Hr true p 3 1 (mulN o m) q d])∧o<N)∧∀(s:Nat→Value) (t:Option Addr) (u:Nat),rng (((o:Nat):Int)+(1:Int))∧NX [vV (s 0),iV sp,pV 0 pa 0,vV (s 3),pV 1 pb 0,vV (s 5),pV 2 pc 0,r,iV ((m:Nat):Int),vV (s 9),vV (s 10),vV (s 11),vV (s 12),vV (s 13),vV (s 14),vV (s 15),vV (s 16),vV (s 17),vV (s 18),vV (s 19),vV (s 20),vV (s 21),vV (s 22),vV (s 23),vV (s 24),vV (s 25),vV (s 26),vV (s 27),vV (s 28),vV (s 29),vV (s 30),iV ((o:Nat):Int),r,vV (s 33),vV (s 34),vV (s 35),vV (s 36),vV (s 37),vV (s 38),vV (s 39),vV (s 40),vV (s 41),vV (s 42),vV (s 43),vV (s 44),vV (s 45),vV (s 46),vV (s 47)] [j,c,Hc pc 58 [Ci sp,Cs 3 t (mulN (o+1) m) u],Hr true t 3 1 (mulN (o+1) m) u d]) (iV (((o:Nat):Int)+(1:Int))))∧(l=false→kx (Exit.exit 0) [vV (g 0),iV sp,pV 0 pa 0,vV (g 3),pV 1 pb 0,vV (g 5),pV 2 pc 0,iV ((k:Nat):Int),vV (g 8),vV (g 9),vV (g 10),vV (g 11),vV (g 12),vV (g 13),vV (g 14),vV (g 15),vV (g 16),vV (g 17),vV (g 18),vV (g 19),vV (g 20),vV (g 21),vV (g 22),vV (g 23),vV (g 24),vV (g 25),vV (g 26),iV ((k:Nat):Int),aV [Ci G,Ci B,Ci R,Ci C],iV a,fV,vV (g 31),vV (g 32),vV (g 33),vV (g 34),vV (g 35),vV (g 36),vV (g 37),vV (g 38),vV (g 39),vV (g 40),vV (g 41),vV (g 42),vV (g 43),vV (g 44),vV (g 45),vV (g 46),vV (g 47)] n)) [j,c,Hc pc 58 [Ci sp,Cs 3 ao (mulN k m) cap],Hr true ao 3 1 (mulN k m) cap d]) (decide (((k:Nat):Int)<a))) (Hc pa 38 [Ci G,Ci B,Ci R,Ci C])) (Wa [Wi G,Wi B,Wi R,Wi C])) [fun d=>Ci (spF m d)]) (Hc pb 58 [Cl 0,Cz])) (Wi ((k:Nat):Int))) (bankN G B R C)):=by kernel_rfl
theorem sp0_ok (G B R C sp:Int)(N m pa pb pc:Nat)(hg:geoB G B R C=true)(hN:bankN G B R C=(N:Int))(hm:R-sp=(m:Int))(hb:N≤8∧2≤m∧m≤16∧0≤sp∧sp≤2)(X:Cx):LoopOK Tryz.prog X (theLoop Tryz.f37 0) (ssp0 G B R C sp N m pa pb pc):=by
 intro ts ch kk a w hS hT hd hs
 obtain ⟨⟨h1,rfl⟩,hk⟩:=hS
 refine loop_ok mixed (E:={ tb:=[(39,sBank)],L:=[(8,ssp1 G B R C sp N m pa pb pc)] }) ⟨sBank_I,trivial⟩ (body_loop (by kernel_rfl) (by kernel_rfl) (sp1_ok G B R C sp N m pa pb pc hg hN hm hb X)) 400 N (fun k ts ch=>∃ g ao cap,ts=sp0H G B R C sp N m pa pb pc (.int (k:Int)) g∧ch=spT G B R C sp N m pa pb pc ao (mulN k m) cap) ?_ ?_ hT hd hs
 ·rintro k _ _ ⟨g,ao,cap,rfl,rfl⟩ hj
  refine (@Eq.mpr _ _ (sp0B G B R C sp N m pa pb pc k ao cap g _ _) ?_)
  dsimp -zeta -proj -iota -eta -failIfUnchanged (etaStruct:=.none) only
  by_cases hlt:k<N
  ·repeat' (first
    | with_reducible exact rfl
    | exact True.intro
    | with_reducible assumption
    | (refine ⟨hlt,?_⟩;refine Next.mk (fun g=>sp0H G B R C sp N m pa pb pc (.int ((k+1:Nat):Int)) g) _ ⟨_,_,_,rfl,rfl⟩ rfl fun w hw=>hw)
    | refine And.intro ?_ ?_
    | apply Exists.intro
    | (intro h;replace h:=of_decide_eq_true h;first | (exfalso;omega) | skip)
    | (intro h;replace h:=of_decide_eq_false h;first | (exfalso;omega) | skip)
    | intro _
    | omega
    | (simp;omega))
  ·have hjn:k=N:=by omega
   subst hjn
   repeat' (first
    | with_reducible exact rfl
    | exact True.intro
    | with_reducible assumption
    | fail
    | (refine Next.mk (fun g=>sp0H G B R C sp k m pa pb pc (.int (k:Int)) g) _ (hk _ _ _) rfl fun w hw=>hw)
    | refine And.intro ?_ ?_
    | (intro h;replace h:=of_decide_eq_true h;first | (exfalso;omega) | skip)
    | (intro h;replace h:=of_decide_eq_false h;first | (exfalso;omega) | skip)
    | intro _
    | omega
    | (simp;omega))
 ·refine Next.mk (fun g=>sp0H G B R C sp N m pa pb pc (.int ((0:Nat):Int)) g) _ ⟨_,none,0,rfl,rfl⟩ h1 fun w hw=>?_
  have h2:=(hw.addNil ⟨true,none,3,1,0,0,[fun i=>.int (spF m i)]⟩ rfl rfl rfl rfl rfl).recell 2 rfl [.int sp,.sl 3 none 0 0] rfl
  have e:mulN 0 m=0:=Nat.zero_mul m
  rw [e]
  exact h2
def polB (page cap limit low high:Int)(n:Nat)(g:Nat→Int)(d s:Int):Bool:=btw page 0 1&&btw cap 0 100000&&btw limit 3 1000&&drainB low high&&((n:Int) == 4)&&shB n g g&&ruleB d s
theorem polI_T (pPage:Int)(pCap:Int)(pLimit:Int)(pLow:Int)(pHigh:Int)(pWeightsO:Option Addr)(pWeightsN pWeightsC:Nat)(pWeightsg0:Nat→Int)(pRuleDown:Int)(pRuleSleep:Int):(exFn Tryz.prog {tb:=[(40,sShNew),(106,sBtw),(135,sDrainOk),(136,sRuleOk)]} 400 Tryz.f100 ([.a (.agg [.int pPage,.int pCap,.int pLimit,.int pLow,.int pHigh,.sl 0 pWeightsO pWeightsN pWeightsC,.int pRuleDown,.int pRuleSleep])]) ([.row ⟨false,pWeightsO,0,1,pWeightsN,0,[fun i=>.int (pWeightsg0 i)]⟩]) (fun v _=>v.den=.bool (polB pPage pCap pLimit pLow pHigh pWeightsN pWeightsg0 pRuleDown pRuleSleep)))=(
 (fun b:Value=>(fun c:Bool=>(fun d:Value=>(fun g:Bool=>(fun h:Bool=>(fun j:Bool=>(fun k:Value=>(fun l:Prop=>(fun m:Prop=>(fun n:Prop=>(fun o:Prop=>∀ p:Nat,p=p∧∃ q:Nat→Int,(fun r:Prop=>(pWeightsO=pWeightsO∧pWeightsN=pWeightsN∧[fun s=>Ci (pWeightsg0 s)]=[fun s=>Ci (q s)]∧capC pWeightsN)∧∀(s:Option Addr) (t:Nat),p=p∧((pPage == (0:Int))=false→p=p∧((pPage == (1:Int))=true→r)∧((pPage == (1:Int))=false→b=k))∧((pPage == (0:Int))=true→r)) (p=p∧(h=true→p=p∧(g=true→p=p∧p=p∧(c=true→p=p∧(j=true→((shB pWeightsN q q)=true→p=p∧d=k)∧((shB pWeightsN q q)=false→b=k))∧o)∧l)∧n)∧m)) (j=false→b=k)) (g=false→b=k)) (h=false→b=k)) (c=false→b=k)) (Wb (polB pPage pCap pLimit pLow pHigh pWeightsN pWeightsg0 pRuleDown pRuleSleep))) (((pWeightsN:Nat):Int) == (4:Int))) (btw pCap (0:Int) (100000:Int))) (btw pLimit (3:Int) (1000:Int))) (Wb (ruleB pRuleDown pRuleSleep))) (drainB pLow pHigh)) (Wb false)):=by kernel_rfl
theorem polI_any (pPage:Int)(pCap:Int)(pLimit:Int)(pLow:Int)(pHigh:Int)(pWeightsO:Option Addr)(pWeightsN pWeightsC:Nat)(pWeightsg0:Nat→Int)(pRuleDown:Int)(pRuleSleep:Int)(w:World)(hrpWeights:Row.sat w ⟨false,pWeightsO,0,1,pWeightsN,0,[fun i=>.int (pWeightsg0 i)]⟩)(hpre:capC pWeightsN):Calls Tryz.prog 100 #[.agg #[.int .i64 pPage,.int .i64 pCap,.int .i64 pLimit,.int .i64 pLow,.int .i64 pHigh,.slice pWeightsO pWeightsN pWeightsC,.int .i64 pRuleDown,.int .i64 pRuleSleep]] w fun e w'=>e=.returned (.bool (polB pPage pCap pLimit pLow pHigh pWeightsN pWeightsg0 pRuleDown pRuleSleep))∧Below w.heap.size w w':=by
 refine fnB (tb:=[(40,sShNew),(106,sBtw),(135,sDrainOk),(136,sRuleOk)]) ⟨sShNew_I,sBtwI_ok,sDrainOk_I,sRuleOk_I,trivial⟩ Tryz.func100 (@Eq.mpr _ _ (polI_T pPage pCap pLimit pLow pHigh pWeightsO pWeightsN pWeightsC pWeightsg0 pRuleDown pRuleSleep) ?_) (HS.rows (fun _=>False) [⟨false,pWeightsO,0,1,pWeightsN,0,[fun i=>.int (pWeightsg0 i)]⟩] (by simp;exact hrpWeights)) (fun v ch' w' hk hs=>⟨by rw [hk],hs.below⟩)
 dsimp -zeta -proj -iota -eta -failIfUnchanged (etaStruct:=.none) only
 clear hrpWeights
 repeat' (first
  | with_reducible exact rfl
  | exact True.intro
  | with_reducible assumption
  | refine And.intro ?_ ?_
  | apply Exists.intro
  | (intro h;exfalso;simp at h;done)
  | (intro h;exfalso;simp at h;omega)
  | intro _
  | omega
  | (simp;omega))
 all_goals first
  | (simp_all [polB];done)
  | (simp_all [polB,btw];omega)
  | (simp_all [polB,btw];done)
theorem polS_T (pPage:Int)(pCap:Int)(pLimit:Int)(pLow:Int)(pHigh:Int)(pWeightsO:Option Addr)(pWeightsN pWeightsC:Nat)(pWeightsg0:Nat→Int)(pRuleDown:Int)(pRuleSleep:Int):(exFn Tryz.prog {tb:=[(24,sShNew),(97,sBtw),(130,sDrainOk),(131,sRuleOk)]} 400 Tryz.f91 ([.a (.agg [.int pPage,.int pCap,.int pLimit,.int pLow,.int pHigh,.sl 0 pWeightsO pWeightsN pWeightsC,.int pRuleDown,.int pRuleSleep])]) ([.row ⟨false,pWeightsO,0,1,pWeightsN,0,[fun i=>.int (pWeightsg0 i)]⟩]) (fun v _=>v.den=.bool (polB pPage pCap pLimit pLow pHigh pWeightsN pWeightsg0 pRuleDown pRuleSleep)))=(
 (fun b:Value=>(fun c:Bool=>(fun d:Bool=>(fun g:Bool=>(fun h:Bool=>(fun j:Value=>∀ k:Nat,k=k∧∃ l:Nat→Int,(pWeightsO=pWeightsO∧pWeightsN=pWeightsN∧[fun m=>Ci (pWeightsg0 m)]=[fun m=>Ci (l m)]∧capC pWeightsN)∧∀(m:Option Addr) (n:Nat),k=k∧(c=true→k=k∧(g=true→k=k∧(d=true→k=k∧k=k∧((drainB pLow pHigh)=true→((shB pWeightsN l l)=true→k=k∧(h=true→k=k∧(Wb (ruleB pRuleDown pRuleSleep))=j)∧(h=false→b=j))∧((shB pWeightsN l l)=false→b=j))∧((drainB pLow pHigh)=false→b=j))∧(d=false→b=j))∧(g=false→b=j))∧(c=false→b=j)) (Wb (polB pPage pCap pLimit pLow pHigh pWeightsN pWeightsg0 pRuleDown pRuleSleep))) (((pWeightsN:Nat):Int) == (4:Int))) (btw pCap (0:Int) (100000:Int))) (btw pLimit (3:Int) (1000:Int))) (btw pPage (0:Int) (1:Int))) (Wb false)):=by kernel_rfl
theorem polS_any (pPage:Int)(pCap:Int)(pLimit:Int)(pLow:Int)(pHigh:Int)(pWeightsO:Option Addr)(pWeightsN pWeightsC:Nat)(pWeightsg0:Nat→Int)(pRuleDown:Int)(pRuleSleep:Int)(w:World)(hrpWeights:Row.sat w ⟨false,pWeightsO,0,1,pWeightsN,0,[fun i=>.int (pWeightsg0 i)]⟩)(hpre:capC pWeightsN):Calls Tryz.prog 91 #[.agg #[.int .i64 pPage,.int .i64 pCap,.int .i64 pLimit,.int .i64 pLow,.int .i64 pHigh,.slice pWeightsO pWeightsN pWeightsC,.int .i64 pRuleDown,.int .i64 pRuleSleep]] w fun e w'=>e=.returned (.bool (polB pPage pCap pLimit pLow pHigh pWeightsN pWeightsg0 pRuleDown pRuleSleep))∧Below w.heap.size w w':=by
 refine fnB (tb:=[(24,sShNew),(97,sBtw),(130,sDrainOk),(131,sRuleOk)]) ⟨sShNew_S,sBtwS_ok,sDrainOk_S,sRuleOk_S,trivial⟩ Tryz.func91 (@Eq.mpr _ _ (polS_T pPage pCap pLimit pLow pHigh pWeightsO pWeightsN pWeightsC pWeightsg0 pRuleDown pRuleSleep) ?_) (HS.rows (fun _=>False) [⟨false,pWeightsO,0,1,pWeightsN,0,[fun i=>.int (pWeightsg0 i)]⟩] (by simp;exact hrpWeights)) (fun v ch' w' hk hs=>⟨by rw [hk],hs.below⟩)
 dsimp -zeta -proj -iota -eta -failIfUnchanged (etaStruct:=.none) only
 clear hrpWeights
 repeat' (first
  | with_reducible exact rfl
  | exact True.intro
  | with_reducible assumption
  | refine And.intro ?_ ?_
  | apply Exists.intro
  | (intro h;exfalso;simp at h;done)
  | (intro h;exfalso;simp at h;omega)
  | intro _
  | omega
  | (simp;omega))
 all_goals first
  | (simp_all [polB];done)
  | (simp_all [polB,btw];omega)
  | (simp_all [polB,btw];done)
def sPolOk:Sm:=fun args ch kk =>
 match args with
 | [.a (.agg [c0,c1,c2,c3,c4,.sl i0 a0 n0 d0,c5,c6])] =>
  match ch[i0]?,ints [c0,c1,c2,c3,c4,c5,c6] with
  | some (.row r0),some [pPage,pCap,pLimit,pLow,pHigh,pRuleDown,pRuleSleep]=>∃ pWeightsg0:Nat→Int,(a0=r0.ao∧n0=r0.n∧r0.fld=[fun i=>.int (pWeightsg0 i)]∧capC n0)∧kk (.a (.c (.bool (polB pPage pCap pLimit pLow pHigh n0 pWeightsg0 pRuleDown pRuleSleep)))) ch []
  | _,_=>False
 | _=>False
theorem sPolOk_ok {f:FuncId}(hc:∀ args w,(callFunc f args).run Tryz.prog w=.ok (.enter f args) w)(h:∀ (pPage:Int) (pCap:Int) (pLimit:Int) (pLow:Int) (pHigh:Int) (pWeightsO:Option Addr) (pWeightsN pWeightsC:Nat) (pWeightsg0:Nat→Int) (pRuleDown:Int) (pRuleSleep:Int) (w:World),Row.sat w ⟨false,pWeightsO,0,1,pWeightsN,0,[fun i=>.int (pWeightsg0 i)]⟩→capC pWeightsN→Calls Tryz.prog f #[.agg #[.int .i64 pPage,.int .i64 pCap,.int .i64 pLimit,.int .i64 pLow,.int .i64 pHigh,.slice pWeightsO pWeightsN pWeightsC,.int .i64 pRuleDown,.int .i64 pRuleSleep]] w fun e w'=>e=.returned (.bool (polB pPage pCap pLimit pLow pHigh pWeightsN pWeightsg0 pRuleDown pRuleSleep))∧Below w.heap.size w w'):SmOK Tryz.prog f sPolOk:=by
 refine smB hc fun args ch kk w X h0 hs=>?_
 unfold sPolOk at h0
 split at h0
 ·rename_i c0 c1 c2 c3 c4 i0 a0 n0 d0 c5 c6
  split at h0
  ·rename_i r0 pPage pCap pLimit pLow pHigh pRuleDown pRuleSleep hr0 hi
   obtain ⟨pWeightsg0,⟨rfl,rfl,hf0,hpre⟩,h0⟩:=h0
   obtain ⟨ec0,hi⟩:=ints_cons hi
   obtain ⟨ec1,hi⟩:=ints_cons hi
   obtain ⟨ec2,hi⟩:=ints_cons hi
   obtain ⟨ec3,hi⟩:=ints_cons hi
   obtain ⟨ec4,hi⟩:=ints_cons hi
   obtain ⟨ec5,hi⟩:=ints_cons hi
   obtain ⟨ec6,hi⟩:=ints_cons hi
   refine ⟨_,h0,?_⟩
   simp only [List.map_cons,List.map_nil,den_a,den_c,SA.den,den_sl,ec0,ec1,ec2,ec3,ec4,ec5,ec6]
   exact h pPage pCap pLimit pLow pHigh r0.ao r0.n d0 pWeightsg0 pRuleDown pRuleSleep w (Row.seenAs (hs.sat i0 _ hr0) hf0 rfl) hpre
  ·exact h0.elim
 ·exact h0.elim
theorem sPolOk_ok_polI:SmOK Tryz.prog 100 sPolOk:=sPolOk_ok Tryz.call100 (fun pPage pCap pLimit pLow pHigh pWeightsO pWeightsN pWeightsC pWeightsg0 pRuleDown pRuleSleep w h0 hp=>polI_any pPage pCap pLimit pLow pHigh pWeightsO pWeightsN pWeightsC pWeightsg0 pRuleDown pRuleSleep w h0 hp)
theorem sPolOk_ok_polS:SmOK Tryz.prog 91 sPolOk:=sPolOk_ok Tryz.call91 (fun pPage pCap pLimit pLow pHigh pWeightsO pWeightsN pWeightsC pWeightsg0 pRuleDown pRuleSleep w h0 hp=>polS_any pPage pCap pLimit pLow pHigh pWeightsO pWeightsN pWeightsC pWeightsg0 pRuleDown pRuleSleep w h0 hp)
end Go.Proofs.YtbhfabaofhhkeaaGreat

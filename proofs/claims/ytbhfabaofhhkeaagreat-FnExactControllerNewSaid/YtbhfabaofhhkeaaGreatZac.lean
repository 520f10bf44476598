/-
  FnExactControllerNew: a part of the walk (merged and squeezed by program: Base Btw SxBtw SxGen SxAllB).
-/
import Derived.WalkKit
import Derived.Lib.Hide
import Derived.Deep.QuietTactic
import Derived.BigQuiet
import Derived.Deep.Light
import Derived.Test.YtbhfabaofhhkeaaGreatRows
import Derived.Test.YtbhfabaofhhkeaaGreatZab
namespace Go.Proofs.YtbhfabaofhhkeaaGreat
set_option linter.unusedVariables false
set_option linter.unusedSimpArgs false
open Go.RowKit
def xs16 (y:Nat):Nat:=y ^^^ (y / 65536)
def mulC (y:Nat):Nat:=(y*73244475) % 4294967296
def mixN (y:Nat):Nat:=xs16 (mulC (xs16 (mulC (xs16 y))))
theorem mulC_lt (y:Nat):mulC y<4294967296:=Nat.mod_lt _ (by decide)
def MixAt (n i y:Nat):Prop:=y<4294967296∧(i=0∧y=n∨i=1∧y=mulC (xs16 n)∨i=2∧y=mulC (xs16 (mulC (xs16 n))))
theorem MixAt.start {n:Nat}(h:n<4294967296):MixAt n 0 n:=⟨h,.inl ⟨rfl,rfl⟩⟩
theorem MixAt.step {n i y:Nat}(h:MixAt n i y)(hi:i<2):MixAt n (i+1) (mulC (xs16 y)):=by
 refine ⟨mulC_lt _,?_⟩
 rcases h.2 with ⟨h1,h2⟩ | ⟨h1,h2⟩ | ⟨h1,h2⟩
 ·exact .inr (.inl ⟨by omega,by rw [h2]⟩)
 ·exact .inr (.inr ⟨by omega,by rw [h2]⟩)
 ·omega
theorem MixAt.fin {n i y:Nat}(h:MixAt n i y)(hi:¬ i<2):mixN n=xs16 y:=by
 rcases h.2 with ⟨h1,h2⟩ | ⟨h1,h2⟩ | ⟨h1,h2⟩
 ·omega
 ·omega
 ·rw [h2];rfl
def btw (x lo hi:Int):Bool:=decide (lo≤x)&&decide (x≤hi)
theorem btw_mk {x lo hi:Int}(h1:lo≤x)(h2:x≤hi):btw x lo hi=true:=by simp [btw,h1,h2]
theorem btw_no {x lo hi:Int}(h:x<lo∨hi<x):btw x lo hi=false:=by
 unfold btw
 rcases h with h | h
 ·simp [show ¬ lo≤x by omega]
 ·simp [show ¬ x≤hi by omega]
@[simp] theorem size_setCell (w:World) (a:Addr) (v:Value):(w.setCell a v).heap.size=w.heap.size:=by simp [World.setCell]
end Go.Proofs.YtbhfabaofhhkeaaGreat
namespace Go.Proofs.YtbhfabaofhhkeaaGreat
set_option linter.unusedVariables false
set_option linter.unusedSimpArgs false
open Go.RowKit
theorem between_any (x lo hi:Int)(w:World)(b:Bool)(hb:btw x lo hi=b) :
  Calls Tryz.prog 106 #[.int .i64 x,.int .i64 lo,.int .i64 hi] w fun e w'=>e=.returned (.bool b)∧w=w':=by
 subst hb
 by_cases h1:lo≤x
 ·by_cases h2:x≤hi
  ·have hr:=Lib.hid (btw_mk h1 h2)
   go_enter Tryz.func106,Tryz.ntmps106
   go_wp2
   go_ret
   exact ⟨by rw [hr.out];rfl,rfl⟩
  ·have hr:=Lib.hid (btw_no (lo:=lo) (.inr (show hi<x by omega)))
   go_enter Tryz.func106,Tryz.ntmps106
   go_wp2
   go_ret
   exact ⟨by rw [hr.out];rfl,rfl⟩
 ·have hr:=Lib.hid (btw_no (hi:=hi) (.inl (show x<lo by omega)))
  go_enter Tryz.func106,Tryz.ntmps106
  go_wp2
  go_ret
  exact ⟨by rw [hr.out];rfl,rfl⟩
theorem l01In_any (x lo hi:Int)(w:World)(b:Bool)(hb:btw x lo hi=b) :
  Calls Tryz.prog 97 #[.int .i64 x,.int .i64 lo,.int .i64 hi] w fun e w'=>e=.returned (.bool b)∧w=w':=by
 subst hb
 by_cases h1:lo≤x
 ·by_cases h2:x≤hi
  ·have hr:=Lib.hid (btw_mk h1 h2)
   go_enter Tryz.func97,Tryz.ntmps97
   go_wp2
   go_ret
   exact ⟨by rw [hr.out];rfl,rfl⟩
  ·have hr:=Lib.hid (btw_no (lo:=lo) (.inr (show hi<x by omega)))
   go_enter Tryz.func97,Tryz.ntmps97
   go_wp2
   go_ret
   exact ⟨by rw [hr.out];rfl,rfl⟩
 ·have hr:=Lib.hid (btw_no (hi:=hi) (.inl (show x<lo by omega)))
  go_enter Tryz.func97,Tryz.ntmps97
  go_wp2
  go_ret
  exact ⟨by rw [hr.out];rfl,rfl⟩
end Go.Proofs.YtbhfabaofhhkeaaGreat
namespace Go.Proofs.YtbhfabaofhhkeaaGreat
set_option linter.unusedVariables false
set_option linter.unusedSimpArgs false
open Go.RowKit
def sBtw:Sm:=fun args ch k =>
 match args with
 | [.a (.c x),.a (.c y),.a (.c z)] =>
  match asI x,asI y,asI z with
  | some x,some y,some z=>k (.a (.c (.bool (btw x y z)))) ch []
  | _,_,_=>False
 | _=>False
theorem sBtw_ok {f:FuncId}(hc:∀ args w,(callFunc f args).run Tryz.prog w=.ok (.enter f args) w)(h:∀ (x lo hi:Int) (w:World),Calls Tryz.prog f #[.int .i64 x,.int .i64 lo,.int .i64 hi] w fun e w'=>e=.returned (.bool (btw x lo hi))∧w=w'):SmOK Tryz.prog f sBtw:=by
 refine smB hc fun args ch k w X h0 hs=>?_
 unfold sBtw at h0
 split at h0
 ·split at h0
  ·rename_i a b c ha hb hc
   refine ⟨_,h0,?_⟩
   simp only [List.map_cons,List.map_nil,den_a,den_c,asI_den ha,asI_den hb,asI_den hc]
   exact Calls.mono (h a b c w) fun e w' ⟨he,hw⟩=>⟨he,by rw [← hw];exact Below.refl _ _⟩
  ·exact h0.elim
 ·exact h0.elim
theorem sBtwI_ok:SmOK Tryz.prog 106 sBtw:=sBtw_ok Tryz.call106 fun x lo hi w=>between_any x lo hi w _ rfl
theorem sBtwS_ok:SmOK Tryz.prog 97 sBtw:=sBtw_ok Tryz.call97 fun x lo hi w=>l01In_any x lo hi w _ rfl
end Go.Proofs.YtbhfabaofhhkeaaGreat
namespace Go.Proofs.YtbhfabaofhhkeaaGreat
set_option linter.unusedVariables false
set_option linter.unusedSimpArgs false
open Go.RowKit
set_option maxRecDepth 100000
set_option maxHeartbeats 8000000
def flK (u:Nat→Nat→Int)(v:Nat→Nat→Bool):Nat→List Bool→List (Nat→SC)
 | _,[]=>[]
 | c,true::r=>(fun i=>.int (u c i))::flK u v (c+1) r
 | c,false::r=>(fun i=>.bool (v c i))::flK u v (c+1) r
def hdL (l:List (Nat × SV))(d:Nat)(w:SV):SV :=
 match l with
 | []=>w
 | (e,x)::r =>
  match Nat.beq e d with
  | true=>x
  | false=>hdL r d w
def hdN (l:List (Nat × SV))(g:Nat→Value):Nat→Nat→List SV
 | _,0=>[]
 | d,m+1=>hdL l d (.a (.c (.val (g d))))::hdN l g (d+1) m
theorem fl_len {u:Nat→Nat→Int}{v:Nat→Nat→Bool}:∀ (K:List Bool) (c:Nat),(flK u v c K).length=K.length
 | [],_=>rfl
 | true::r,c=>congrArg Nat.succ (fl_len r (c+1))
 | false::r,c=>congrArg Nat.succ (fl_len r (c+1))
theorem Next.pre {X:Cx}{J:List SV→List Ch→Prop}{ts:List SV}{ch ch':List Ch}(f:(Nat→Value)→List SV)(h:Next X J (f fun d=>(ts.getD d .undef).den) ch')
  (ht:ts.map SV.den=(f fun d=>(ts.getD d .undef).den).map SV.den) (hc:∀ w,HS X ch w→HS X ch' w):Next X J ts ch:=by
 obtain ⟨ts2,ch2,h1,h2,h3⟩:=h
 exact ⟨ts2,ch2,h1,ht.trans h2,fun w hw=>h3 w (hc w hw)⟩
def egH (ao bo:Option Addr)(n c d:Nat)(i:SC)(g:Nat→Value):List SV:=hdN [(0,.a (.c (.sl 0 ao n c))),(1,.a (.c (.sl 1 bo n d))),(4,.a (.c (.lit false))),(5,.a (.c i))] g 0 27
def egT (K:List Bool)(ao bo:Option Addr)(n:Nat)(u:Nat→Nat→Int)(v:Nat→Nat→Bool):List Ch:=[.row ⟨false,ao,0,K.length,n,0,flK u v 0 K⟩,.row ⟨false,bo,0,K.length,n,0,flK u v 0 K⟩]
def egL (K:List Bool)(ao bo:Option Addr)(n c d:Nat)(u:Nat→Nat→Int)(v:Nat→Nat→Bool):LSm:=fun ts ch k =>
 (ts.map SV.den=(egH ao bo n c d (.il 0) (fun d=>(ts.getD d .undef).den)).map SV.den∧ch=egT K ao bo n u v)∧∀ g,k (.exit 0) (egH ao bo n c d (.int (n:Int)) g) (egT K ao bo n u v)
def egB (f:Func)(E:Env)(K:List Bool):Prop:=∀ (ao bo:Option Addr) (n c d j:Nat) (u:Nat→Nat→Int) (v:Nat→Nat→Bool) (g:Nat→Value) (X:Cx) (k:CK),n≤2097152→j≤n →
 (j=n→∀ g,Next X (k (.exit 0)) (egH ao bo n c d (.int (n:Int)) g) (egT K ao bo n u v)) →
 exCode Tryz.prog E 400 (theLoop f 0) (egH ao bo n c d (.int (j:Int)) g) (egT K ao bo n u v)
  (loopK (fun ts ch=>j<n∧Next X (fun ts ch=>∃ g,ts=egH ao bo n c d (.int ((j+1:Nat):Int)) g∧ch=egT K ao bo n u v) ts ch) (fun e ts ch=>Next X (k e) ts ch))
theorem eg_ok {f:Func}{E:Env}(hb:TbOK Tryz.prog E.tb)(hE:E.L=[]){K:List Bool}(B:egB f E K)(ao bo:Option Addr)(n c d:Nat)(u:Nat→Nat→Int)(v:Nat→Nat→Bool)(hn:n≤2097152)(X:Cx):LoopOK Tryz.prog X (theLoop f 0) (egL K ao bo n c d u v):=by
 intro ts ch k a w hS hT hd hs
 obtain ⟨⟨h1,rfl⟩,hk⟩:=hS
 refine loop_ok mixed (E:=E) hb (by rw [hE];exact loopsOK_nil _ _ _) 400 n (fun j ts ch=>∃ g,ts=egH ao bo n c d (.int (j:Int)) g∧ch=egT K ao bo n u v) ?_ ?_ hT hd hs
 ·rintro j _ _ ⟨g,rfl,rfl⟩ hj
  exact B ao bo n c d j u v g X k hn hj fun _ g=>⟨_,_,hk g,rfl,fun w hw=>hw⟩
 ·exact Next.mk (fun g=>egH ao bo n c d (.int ((0:Nat):Int)) g) _ ⟨_,rfl,rfl⟩ h1 fun w hw=>hw
def sEgS (K:List Bool):Sm:=fun args ch k =>
 match args with
 | [.a (.c (.sl id ao n _)),.a (.c (.sl id' bo m _))] =>
  match ch[id]?,ch[id']? with
  | some (.row r),some (.row r')=>∃ (u:Nat→Nat→Int) (v:Nat→Nat→Bool),(ao=r.ao∧n=r.n∧r.fld=flK u v 0 K∧bo=r'.ao∧m=r'.n∧r'.fld=flK u v 0 K∧n=m∧capC n)∧k (.a (.c (.lit true))) ch []
  | _,_=>False
 | _=>False
theorem sEgS_ok {fn:FuncId}{f:Func}{E:Env}{L:Nat}{K:List Bool}(hc:∀ args w,(callFunc fn args).run Tryz.prog w=.ok (.enter fn args) w)(hf:Tryz.prog.funcs[fn]?=some f)(hl:(loopsF f).length=1)(hk:firstReg (theLoop f 0)=L)
  (hb:TbOK Tryz.prog E.tb) (hE:E.L=[]) (B:egB f E K)
  (hT:∀ (ao bo:Option Addr) (n c d:Nat) (u:Nat→Nat→Int) (v:Nat→Nat→Bool),n≤2097152→exFn Tryz.prog {L:=[(L,egL K ao bo n c d u v)]} 400 f [.a (.c (.sl 0 ao n c)),.a (.c (.sl 1 bo n d))] (egT K ao bo n u v) (fun w _=>w.den=.bool true)):SmOK Tryz.prog fn (sEgS K):=by
 refine smB hc fun args ch k w X h0 hs=>?_
 unfold sEgS at h0
 split at h0
 ·rename_i id ao n c id' bo m d
  split at h0
  ·rename_i r r' hid hid'
   obtain ⟨u,v,⟨rfl,rfl,hfl,rfl,rfl,hfl',hnm,hn⟩,h0⟩:=h0
   have hr:=Row.seenAs (hs.sat id _ hid) hfl (fl_len K 0)
   have hr':=Row.seenAs (hs.sat id' _ hid') hfl' (fl_len K 0)
   rw [← hnm] at hr'
   refine ⟨_,h0,?_⟩
   simp only [List.map_cons,List.map_nil,den_a,den_c,SC.den,← hnm]
   exact fn_ok mixed (E:={L:=[(L,egL K r.ao r'.ao r.n c d u v)]}) trivial hf (one_loop hl hk (eg_ok hb hE B r.ao r'.ao r.n c d u v hn _)) (hT r.ao r'.ao r.n c d u v hn) (HS.rows (fun _=>False) [⟨false,r.ao,0,K.length,r.n,0,flK u v 0 K⟩,⟨false,r'.ao,0,K.length,r.n,0,flK u v 0 K⟩] (by simpa using ⟨hr,hr'⟩)) (fun y ch' w' hv hs=>⟨by rw [hv],hs.below⟩)
  ·exact h0.elim
 ·exact h0.elim
end Go.Proofs.YtbhfabaofhhkeaaGreat
namespace Go.Proofs.YtbhfabaofhhkeaaGreat
set_option linter.unusedVariables false
set_option linter.unusedSimpArgs false
open Go.RowKit
set_option maxRecDepth 100000
set_option maxHeartbeats 8000000
theorem dT {p q:Prop}[Decidable p](h:p→q):decide p=true→q:=fun e=>h (of_decide_eq_true e)
theorem dF {p q:Prop}[Decidable p](h:¬ p→q):decide p=false→q:=fun e=>h (of_decide_eq_false e)
def allB (n:Nat)(p:Nat→Bool):Bool:=(List.range n).all p
theorem allB_zero (p:Nat→Bool):allB 0 p=true:=rfl
theorem allB_succ {n:Nat}{p:Nat→Bool}(h:allB n p=true)(hp:p n=true):allB (n+1) p=true:=by
 simp only [allB,List.all_eq_true,List.mem_range] at h ⊢
 intro i hi
 by_cases e:i=n
 ·rw [e];exact hp
 ·exact h i (by omega)
theorem allB_no {n j:Nat}{p:Nat→Bool}(hj:j<n)(hp:p j=false):allB n p=false:=by
 cases h:allB n p
 ·rfl
 ·simp only [allB,List.all_eq_true,List.mem_range] at h
  rw [h j hj] at hp
  cases hp
end Go.Proofs.YtbhfabaofhhkeaaGreat

/-
  FnExactStoredAddr: a part of the walk (merged and squeezed by program: Base Btw SxBtw SxAllB SxGen SxFi).
-/
import Derived.WalkKit
import Derived.Lib.Hide
import Derived.Deep.QuietTactic
import Derived.BigQuiet
import Derived.Deep.Light
import Derived.Test.YtmnccapnjphmfaaGreatRows
import Derived.Test.YtmnccapnjphmfaaGreatZbab
namespace Go.Proofs.YtmnccapnjphmfaaGreat
set_option linter.unusedVariables false
set_option linter.unusedSimpArgs false
open Go.RowKit
def xs16 (y:Nat):Nat:=y ^^^ (y / 65536)
def mulC (y:Nat):Nat:=(y*73244475) % 4294967296
def mixN (y:Nat):Nat:=xs16 (mulC (xs16 (mulC (xs16 y))))
theorem mulC_lt (y:Nat):mulC y<4294967296:=Nat.mod_lt _ (by decide)
def MixAt (n i y:Nat):Prop:=y<4294967296∧(i=0∧y=n∨i=1∧y=mulC (xs16 n)∨i=2∧y=mulC (xs16 (mulC (xs16 n))))
theorem MixAt.start {n:Nat}(h:n<4294967296):MixAt n 0 n:=⟨h,.inl ⟨rfl,rfl⟩⟩
theorem MixAt.step {n i y:Nat}(h:MixAt n i y)(hi:i<2):MixAt n (i+1) (mulC (xs16 y)):=by
 refine ⟨mulC_lt _,?_⟩
 rcases h.2 with ⟨h1,h2⟩ | ⟨h1,h2⟩ | ⟨h1,h2⟩
 ·exact .inr (.inl ⟨by omega,by rw [h2]⟩)
 ·exact .inr (.inr ⟨by omega,by rw [h2]⟩)
 ·omega
theorem MixAt.fin {n i y:Nat}(h:MixAt n i y)(hi:¬ i<2):mixN n=xs16 y:=by
 rcases h.2 with ⟨h1,h2⟩ | ⟨h1,h2⟩ | ⟨h1,h2⟩
 ·omega
 ·omega
 ·rw [h2];rfl
def btw (x lo hi:Int):Bool:=decide (lo≤x)&&decide (x≤hi)
theorem btw_mk {x lo hi:Int}(h1:lo≤x)(h2:x≤hi):btw x lo hi=true:=by simp [btw,h1,h2]
theorem btw_no {x lo hi:Int}(h:x<lo∨hi<x):btw x lo hi=false:=by
 unfold btw
 rcases h with h | h
 ·simp [show ¬ lo≤x by omega]
 ·simp [show ¬ x≤hi by omega]
@[simp] theorem size_setCell (w:World) (a:Addr) (v:Value):(w.setCell a v).heap.size=w.heap.size:=by simp [World.setCell]
end Go.Proofs.YtmnccapnjphmfaaGreat
namespace Go.Proofs.YtmnccapnjphmfaaGreat
set_option linter.unusedVariables false
set_option linter.unusedSimpArgs false
open Go.RowKit
theorem between_any (x lo hi:Int)(w:World)(b:Bool)(hb:btw x lo hi=b) :
  Calls Tryz.prog 61 #[.int .i64 x,.int .i64 lo,.int .i64 hi] w fun e w'=>e=.returned (.bool b)∧w=w':=by
 subst hb
 by_cases h1:lo≤x
 ·by_cases h2:x≤hi
  ·have hr:=Lib.hid (btw_mk h1 h2)
   go_enter Tryz.func61,Tryz.ntmps61
   go_wp2
   go_ret
   exact ⟨by rw [hr.out];rfl,rfl⟩
  ·have hr:=Lib.hid (btw_no (lo:=lo) (.inr (show hi<x by omega)))
   go_enter Tryz.func61,Tryz.ntmps61
   go_wp2
   go_ret
   exact ⟨by rw [hr.out];rfl,rfl⟩
 ·have hr:=Lib.hid (btw_no (hi:=hi) (.inl (show x<lo by omega)))
  go_enter Tryz.func61,Tryz.ntmps61
  go_wp2
  go_ret
  exact ⟨by rw [hr.out];rfl,rfl⟩
theorem l01In_any (x lo hi:Int)(w:World)(b:Bool)(hb:btw x lo hi=b) :
  Calls Tryz.prog 28 #[.int .i64 x,.int .i64 lo,.int .i64 hi] w fun e w'=>e=.returned (.bool b)∧w=w':=by
 subst hb
 by_cases h1:lo≤x
 ·by_cases h2:x≤hi
  ·have hr:=Lib.hid (btw_mk h1 h2)
   go_enter Tryz.func28,Tryz.ntmps28
   go_wp2
   go_ret
   exact ⟨by rw [hr.out];rfl,rfl⟩
  ·have hr:=Lib.hid (btw_no (lo:=lo) (.inr (show hi<x by omega)))
   go_enter Tryz.func28,Tryz.ntmps28
   go_wp2
   go_ret
   exact ⟨by rw [hr.out];rfl,rfl⟩
 ·have hr:=Lib.hid (btw_no (hi:=hi) (.inl (show x<lo by omega)))
  go_enter Tryz.func28,Tryz.ntmps28
  go_wp2
  go_ret
  exact ⟨by rw [hr.out];rfl,rfl⟩
end Go.Proofs.YtmnccapnjphmfaaGreat
namespace Go.Proofs.YtmnccapnjphmfaaGreat
set_option linter.unusedVariables false
set_option linter.unusedSimpArgs false
open Go.RowKit
def sBtw:Sm:=fun args ch k =>
 match args with
 | [.a (.c x),.a (.c y),.a (.c z)] =>
  match asI x,asI y,asI z with
  | some x,some y,some z=>k (.a (.c (.bool (btw x y z)))) ch []
  | _,_,_=>False
 | _=>False
theorem sBtw_ok {f:FuncId}(hc:∀ args w,(callFunc f args).run Tryz.prog w=.ok (.enter f args) w)(h:∀ (x lo hi:Int) (w:World),Calls Tryz.prog f #[.int .i64 x,.int .i64 lo,.int .i64 hi] w fun e w'=>e=.returned (.bool (btw x lo hi))∧w=w'):SmOK Tryz.prog f sBtw:=by
 refine smB hc fun args ch k w X h0 hs=>?_
 unfold sBtw at h0
 split at h0
 ·split at h0
  ·rename_i a b c ha hb hc
   refine ⟨_,h0,?_⟩
   simp only [List.map_cons,List.map_nil,den_a,den_c,asI_den ha,asI_den hb,asI_den hc]
   exact Calls.mono (h a b c w) fun e w' ⟨he,hw⟩=>⟨he,by rw [← hw];exact Below.refl _ _⟩
  ·exact h0.elim
 ·exact h0.elim
theorem sBtwI_ok:SmOK Tryz.prog 61 sBtw:=sBtw_ok Tryz.call61 fun x lo hi w=>between_any x lo hi w _ rfl
theorem sBtwS_ok:SmOK Tryz.prog 28 sBtw:=sBtw_ok Tryz.call28 fun x lo hi w=>l01In_any x lo hi w _ rfl
end Go.Proofs.YtmnccapnjphmfaaGreat
namespace Go.Proofs.YtmnccapnjphmfaaGreat
set_option linter.unusedVariables false
set_option linter.unusedSimpArgs false
open Go.RowKit
set_option maxRecDepth 100000
set_option maxHeartbeats 8000000
theorem dT {p q:Prop}[Decidable p](h:p→q):decide p=true→q:=fun e=>h (of_decide_eq_true e)
theorem dF {p q:Prop}[Decidable p](h:¬ p→q):decide p=false→q:=fun e=>h (of_decide_eq_false e)
def allB (n:Nat)(p:Nat→Bool):Bool:=(List.range n).all p
theorem allB_zero (p:Nat→Bool):allB 0 p=true:=rfl
theorem allB_succ {n:Nat}{p:Nat→Bool}(h:allB n p=true)(hp:p n=true):allB (n+1) p=true:=by
 simp only [allB,List.all_eq_true,List.mem_range] at h ⊢
 intro i hi
 by_cases e:i=n
 ·rw [e];exact hp
 ·exact h i (by omega)
theorem allB_no {n j:Nat}{p:Nat→Bool}(hj:j<n)(hp:p j=false):allB n p=false:=by
 cases h:allB n p
 ·rfl
 ·simp only [allB,List.all_eq_true,List.mem_range] at h
  rw [h j hj] at hp
  cases hp
theorem allB_get {n:Nat}{p:Nat→Bool}(h:allB n p=true){j:Nat}(hj:j<n):p j=true:=by
 simp only [allB,List.all_eq_true,List.mem_range] at h
 exact h j hj
end Go.Proofs.YtmnccapnjphmfaaGreat
namespace Go.Proofs.YtmnccapnjphmfaaGreat
set_option linter.unusedVariables false
set_option linter.unusedSimpArgs false
open Go.RowKit
set_option maxRecDepth 100000
set_option maxHeartbeats 8000000
def flK (u:Nat→Nat→Int)(v:Nat→Nat→Bool):Nat→List Bool→List (Nat→SC)
 | _,[]=>[]
 | c,true::r=>(fun i=>.int (u c i))::flK u v (c+1) r
 | c,false::r=>(fun i=>.bool (v c i))::flK u v (c+1) r
def zeK:List Bool→List (Nat→SC)
 | []=>[]
 | true::r=>(fun _=>.il 0)::zeK r
 | false::r=>(fun _=>.lit false)::zeK r
def hdL (l:List (Nat × SV))(d:Nat)(w:SV):SV :=
 match l with
 | []=>w
 | (e,x)::r =>
  match Nat.beq e d with
  | true=>x
  | false=>hdL r d w
def hdN (l:List (Nat × SV))(g:Nat→Value):Nat→Nat→List SV
 | _,0=>[]
 | d,m+1=>hdL l d (.a (.c (.val (g d))))::hdN l g (d+1) m
def lowU (u:Nat→Nat→Int)(j c i:Nat):Int:=lowI i j (u c i) 0
def lowW (v:Nat→Nat→Bool)(j c i:Nat):Bool:=lowB i j (v c i) false
theorem FEq_fl {n:Nat}{u u':Nat→Nat→Int}{v v':Nat→Nat→Bool}(hu:∀ c i,i<n→u c i=u' c i)(hv:∀ c i,i<n→v c i=v' c i):∀ (K:List Bool) (c:Nat),FEq n (flK u v c K) (flK u' v' c K)
 | [],_=>trivial
 | true::r,c=>⟨fun i hi=>congrArg (Value.int .i64) (hu c i hi),FEq_fl hu hv r (c+1)⟩
 | false::r,c=>⟨fun i hi=>congrArg Value.bool (hv c i hi),FEq_fl hu hv r (c+1)⟩
theorem FEq_ze {n:Nat}{u:Nat→Nat→Int}{v:Nat→Nat→Bool}(hu:∀ c i,i<n→u c i=0)(hv:∀ c i,i<n→v c i=false):∀ (K:List Bool) (c:Nat),FEq n (zeK K) (flK u v c K)
 | [],_=>trivial
 | true::r,c=>⟨fun i hi=>congrArg (Value.int .i64) (hu c i hi).symm,FEq_ze hu hv r (c+1)⟩
 | false::r,c=>⟨fun i hi=>congrArg Value.bool (hv c i hi).symm,FEq_ze hu hv r (c+1)⟩
theorem fl_len {u:Nat→Nat→Int}{v:Nat→Nat→Bool}:∀ (K:List Bool) (c:Nat),(flK u v c K).length=K.length
 | [],_=>rfl
 | true::r,c=>congrArg Nat.succ (fl_len r (c+1))
 | false::r,c=>congrArg Nat.succ (fl_len r (c+1))
def setU (u:Nat→Nat→Int)(j c i:Nat):Int:=selI i j (u c j) (lowI i j (u c i) 0)
def setW (v:Nat→Nat→Bool)(j c i:Nat):Bool:=selB i j (v c j) (lowB i j (v c i) false)
theorem setU_low {u:Nat→Nat→Int}{j c i:Nat}:setU u j c i=lowU u (j+1) c i:=by
 simp only [setU,lowU,selI,lowI]
 by_cases e:i=j
 ·rw [if_pos e,if_pos (by omega),e]
 ·rw [if_neg e]
  by_cases l:i<j
  ·rw [if_pos l,if_pos (by omega)]
  ·rw [if_neg l,if_neg (by omega)]
theorem setW_low {u:Nat→Nat→Bool}{j c i:Nat}:setW u j c i=lowW u (j+1) c i:=by
 simp only [setW,lowW,selB,lowB]
 by_cases e:i=j
 ·rw [if_pos e,if_pos (by omega),e]
 ·rw [if_neg e]
  by_cases l:i<j
  ·rw [if_pos l,if_pos (by omega)]
  ·rw [if_neg l,if_neg (by omega)]
theorem Next.pre {X:Cx}{J:List SV→List Ch→Prop}{ts:List SV}{ch ch':List Ch}(f:(Nat→Value)→List SV)(h:Next X J (f fun d=>(ts.getD d .undef).den) ch')
  (ht:ts.map SV.den=(f fun d=>(ts.getD d .undef).den).map SV.den) (hc:∀ w,HS X ch w→HS X ch' w):Next X J ts ch:=by
 obtain ⟨ts2,ch2,h1,h2,h3⟩:=h
 exact ⟨ts2,ch2,h1,ht.trans h2,fun w hw=>h3 w (hc w hw)⟩
def tgH (ao:Option Addr)(n cap b:Nat)(i:SC)(g:Nat→Value):List SV:=hdN [(0,.a (.c (.sl 0 ao n cap))),(3,.a (.c (.sl 1 (some ⟨b,0,none⟩) n n))),(4,.a (.c i))] g 0 23
def tgT (ety:Nat)(K:List Bool)(ao:Option Addr)(n b:Nat)(u:Nat→Nat→Int)(v:Nat→Nat→Bool)(fs:List (Nat→SC)):List Ch:=[.row ⟨false,ao,0,K.length,n,0,flK u v 0 K⟩,.row ⟨true,some ⟨b,0,none⟩,ety,K.length,n,n,fs⟩]
def tgL (ety:Nat)(K:List Bool)(ao:Option Addr)(n cap:Nat)(u:Nat→Nat→Int)(v:Nat→Nat→Bool):LSm:=fun ts ch k =>
 ∃ b,(ts.map SV.den=(tgH ao n cap b (.il 0) (fun d=>(ts.getD d .undef).den)).map SV.den∧ch=tgT ety K ao n b u v (zeK K))∧∀ g,k (.exit 0) (tgH ao n cap b (.int (n:Int)) g) (tgT ety K ao n b u v (flK u v 0 K))
def tgB (f:Func)(E:Env)(ety:Nat)(K:List Bool):Prop:=∀ (ao:Option Addr) (n cap b j:Nat) (u:Nat→Nat→Int) (v:Nat→Nat→Bool) (g:Nat→Value) (X:Cx) (k:CK),n≤2097152→j≤n →
 (j=n→∀ g,Next X (k (.exit 0)) (tgH ao n cap b (.int (n:Int)) g) (tgT ety K ao n b u v (flK (lowU u n) (lowW v n) 0 K))) →
 exCode Tryz.prog E 400 (theLoop f 0) (tgH ao n cap b (.int (j:Int)) g) (tgT ety K ao n b u v (flK (lowU u j) (lowW v j) 0 K))
  (loopK (fun ts ch=>j<n∧Next X (fun ts ch=>∃ g,ts=tgH ao n cap b (.int ((j+1:Nat):Int)) g∧ch=tgT ety K ao n b u v (flK (lowU u (j+1)) (lowW v (j+1)) 0 K)) ts ch) (fun e ts ch=>Next X (k e) ts ch))
theorem tg_ok {f:Func}{E:Env}(hb:TbOK Tryz.prog E.tb)(hE:E.L=[]){ety:Nat}{K:List Bool}(B:tgB f E ety K)(ao:Option Addr)(n cap:Nat)(u:Nat→Nat→Int)(v:Nat→Nat→Bool)(hn:n≤2097152)(X:Cx):LoopOK Tryz.prog X (theLoop f 0) (tgL ety K ao n cap u v):=by
 intro ts ch k a w hS hT hd hs
 obtain ⟨b,⟨h1,rfl⟩,hk⟩:=hS
 refine loop_ok mixed (E:=E) hb (by rw [hE];exact loopsOK_nil _ _ _) 400 n (fun j ts ch=>∃ g,ts=tgH ao n cap b (.int (j:Int)) g∧ch=tgT ety K ao n b u v (flK (lowU u j) (lowW v j) 0 K)) ?_ ?_ hT hd hs
 ·rintro j _ _ ⟨g,rfl,rfl⟩ hj
  refine B ao n cap b j u v g X k hn hj fun _ g=>?_
  exact ⟨_,_,hk g,rfl,fun w hw=>hw.re 1 _ rfl (flK u v 0 K) (FEq_fl (fun c i hi=>by simp only [lowU,lowI];rw [if_pos hi]) (fun c i hi=>by simp only [lowW,lowB];rw [if_pos hi]) K 0)⟩
 ·exact Next.mk (fun g=>tgH ao n cap b (.int ((0:Nat):Int)) g) _ ⟨_,rfl,rfl⟩ h1 fun w hw=>hw.re 1 _ rfl (flK (lowU u 0) (lowW v 0) 0 K) (FEq_ze (fun c i hi=>by simp [lowU,lowI]) (fun c i hi=>by simp [lowW,lowB]) K 0)
def sTgS (ety:Nat)(K:List Bool):Sm:=fun args ch k =>
 match args with
 | [.a (.c (.sl id ao n _))] =>
  match ch[id]? with
  | some (.row r)=>∃ (u:Nat→Nat→Int) (v:Nat→Nat→Bool),(ao=r.ao∧n=r.n∧r.fld=flK u v 0 K∧capC n) ∧
    ∀ b,k (.a (.c (.sl ch.length (some ⟨b,0,none⟩) n n))) (ch ++ [.row ⟨true,some ⟨b,0,none⟩,ety,K.length,n,n,flK u v 0 K⟩]) []
  | _=>False
 | _=>False
theorem sTgS_ok {fn:FuncId}{f:Func}{E:Env}{L ety:Nat}{K:List Bool}(hc:∀ args w,(callFunc fn args).run Tryz.prog w=.ok (.enter fn args) w)(hf:Tryz.prog.funcs[fn]?=some f)(hl:(loopsF f).length=1)(hk:firstReg (theLoop f 0)=L)
  (hb:TbOK Tryz.prog E.tb) (hE:E.L=[]) (B:tgB f E ety K)
  (hT:∀ (ao:Option Addr) (n cap:Nat) (u:Nat→Nat→Int) (v:Nat→Nat→Bool),n≤2097152→exFn Tryz.prog {L:=[(L,tgL ety K ao n cap u v)]} 400 f [.a (.c (.sl 0 ao n cap))] [.row ⟨false,ao,0,K.length,n,0,flK u v 0 K⟩] (fun w ch=>∃ b,w.den=.slice (some ⟨b,0,none⟩) n n∧ch=tgT ety K ao n b u v (flK u v 0 K))):SmOK Tryz.prog fn (sTgS ety K):=by
 refine smN hc fun args ch k w X h0 hs=>?_
 unfold sTgS at h0
 split at h0
 ·rename_i id ao n cap
  split at h0
  ·rename_i r hid
   obtain ⟨u,v,⟨rfl,rfl,hfl,hn⟩,h0⟩:=h0
   have hr:=Row.seenAs (hs.sat id _ hid) hfl (fl_len K 0)
   refine Calls.mono (fn_ok mixed (E:={L:=[(L,tgL ety K r.ao r.n cap u v)]}) trivial hf (one_loop hl hk (tg_ok hb hE B r.ao r.n cap u v hn _)) (hT r.ao r.n cap u v hn) (HS.rows (fun _=>False) [⟨false,r.ao,0,K.length,r.n,0,flK u v 0 K⟩] (by simpa using hr)) (R:=fun e w'=>∃ b,e=.returned (.slice (some ⟨b,0,none⟩) r.n r.n)∧HS ⟨w,fun _=>False⟩ [.row ⟨true,some ⟨b,0,none⟩,ety,K.length,r.n,r.n,flK u v 0 K⟩] w') (fun y ch' w' ⟨b,hv,hc⟩ hs=>⟨b,by rw [hv],?_⟩)) fun e w' ⟨b,he,hs'⟩=>⟨.a (.c (.sl ch.length (some ⟨b,0,none⟩) r.n r.n)),_,he,hs',rfl,h0 b⟩
   rw [hc] at hs
   exact hs.sel [1] (by simp)
  ·exact h0.elim
 ·exact h0.elim
def egH (ao bo:Option Addr)(n c d:Nat)(i:SC)(g:Nat→Value):List SV:=hdN [(0,.a (.c (.sl 0 ao n c))),(1,.a (.c (.sl 1 bo n d))),(4,.a (.c (.lit false))),(5,.a (.c i))] g 0 27
def egT (K:List Bool)(ao bo:Option Addr)(n:Nat)(u:Nat→Nat→Int)(v:Nat→Nat→Bool):List Ch:=[.row ⟨false,ao,0,K.length,n,0,flK u v 0 K⟩,.row ⟨false,bo,0,K.length,n,0,flK u v 0 K⟩]
def egL (K:List Bool)(ao bo:Option Addr)(n c d:Nat)(u:Nat→Nat→Int)(v:Nat→Nat→Bool):LSm:=fun ts ch k =>
 (ts.map SV.den=(egH ao bo n c d (.il 0) (fun d=>(ts.getD d .undef).den)).map SV.den∧ch=egT K ao bo n u v)∧∀ g,k (.exit 0) (egH ao bo n c d (.int (n:Int)) g) (egT K ao bo n u v)
def egB (f:Func)(E:Env)(K:List Bool):Prop:=∀ (ao bo:Option Addr) (n c d j:Nat) (u:Nat→Nat→Int) (v:Nat→Nat→Bool) (g:Nat→Value) (X:Cx) (k:CK),n≤2097152→j≤n →
 (j=n→∀ g,Next X (k (.exit 0)) (egH ao bo n c d (.int (n:Int)) g) (egT K ao bo n u v)) →
 exCode Tryz.prog E 400 (theLoop f 0) (egH ao bo n c d (.int (j:Int)) g) (egT K ao bo n u v)
  (loopK (fun ts ch=>j<n∧Next X (fun ts ch=>∃ g,ts=egH ao bo n c d (.int ((j+1:Nat):Int)) g∧ch=egT K ao bo n u v) ts ch) (fun e ts ch=>Next X (k e) ts ch))
theorem eg_ok {f:Func}{E:Env}(hb:TbOK Tryz.prog E.tb)(hE:E.L=[]){K:List Bool}(B:egB f E K)(ao bo:Option Addr)(n c d:Nat)(u:Nat→Nat→Int)(v:Nat→Nat→Bool)(hn:n≤2097152)(X:Cx):LoopOK Tryz.prog X (theLoop f 0) (egL K ao bo n c d u v):=by
 intro ts ch k a w hS hT hd hs
 obtain ⟨⟨h1,rfl⟩,hk⟩:=hS
 refine loop_ok mixed (E:=E) hb (by rw [hE];exact loopsOK_nil _ _ _) 400 n (fun j ts ch=>∃ g,ts=egH ao bo n c d (.int (j:Int)) g∧ch=egT K ao bo n u v) ?_ ?_ hT hd hs
 ·rintro j _ _ ⟨g,rfl,rfl⟩ hj
  exact B ao bo n c d j u v g X k hn hj fun _ g=>⟨_,_,hk g,rfl,fun w hw=>hw⟩
 ·exact Next.mk (fun g=>egH ao bo n c d (.int ((0:Nat):Int)) g) _ ⟨_,rfl,rfl⟩ h1 fun w hw=>hw
def sEgS (K:List Bool):Sm:=fun args ch k =>
 match args with
 | [.a (.c (.sl id ao n _)),.a (.c (.sl id' bo m _))] =>
  match ch[id]?,ch[id']? with
  | some (.row r),some (.row r')=>∃ (u:Nat→Nat→Int) (v:Nat→Nat→Bool),(ao=r.ao∧n=r.n∧r.fld=flK u v 0 K∧bo=r'.ao∧m=r'.n∧r'.fld=flK u v 0 K∧n=m∧capC n)∧k (.a (.c (.lit true))) ch []
  | _,_=>False
 | _=>False
theorem sEgS_ok {fn:FuncId}{f:Func}{E:Env}{L:Nat}{K:List Bool}(hc:∀ args w,(callFunc fn args).run Tryz.prog w=.ok (.enter fn args) w)(hf:Tryz.prog.funcs[fn]?=some f)(hl:(loopsF f).length=1)(hk:firstReg (theLoop f 0)=L)
  (hb:TbOK Tryz.prog E.tb) (hE:E.L=[]) (B:egB f E K)
  (hT:∀ (ao bo:Option Addr) (n c d:Nat) (u:Nat→Nat→Int) (v:Nat→Nat→Bool),n≤2097152→exFn Tryz.prog {L:=[(L,egL K ao bo n c d u v)]} 400 f [.a (.c (.sl 0 ao n c)),.a (.c (.sl 1 bo n d))] (egT K ao bo n u v) (fun w _=>w.den=.bool true)):SmOK Tryz.prog fn (sEgS K):=by
 refine smB hc fun args ch k w X h0 hs=>?_
 unfold sEgS at h0
 split at h0
 ·rename_i id ao n c id' bo m d
  split at h0
  ·rename_i r r' hid hid'
   obtain ⟨u,v,⟨rfl,rfl,hfl,rfl,rfl,hfl',hnm,hn⟩,h0⟩:=h0
   have hr:=Row.seenAs (hs.sat id _ hid) hfl (fl_len K 0)
   have hr':=Row.seenAs (hs.sat id' _ hid') hfl' (fl_len K 0)
   rw [← hnm] at hr'
   refine ⟨_,h0,?_⟩
   simp only [List.map_cons,List.map_nil,den_a,den_c,SC.den,← hnm]
   exact fn_ok mixed (E:={L:=[(L,egL K r.ao r'.ao r.n c d u v)]}) trivial hf (one_loop hl hk (eg_ok hb hE B r.ao r'.ao r.n c d u v hn _)) (hT r.ao r'.ao r.n c d u v hn) (HS.rows (fun _=>False) [⟨false,r.ao,0,K.length,r.n,0,flK u v 0 K⟩,⟨false,r'.ao,0,K.length,r.n,0,flK u v 0 K⟩] (by simpa using ⟨hr,hr'⟩)) (fun y ch' w' hv hs=>⟨by rw [hv],hs.below⟩)
  ·exact h0.elim
 ·exact h0.elim
end Go.Proofs.YtmnccapnjphmfaaGreat
namespace Go.Proofs.YtmnccapnjphmfaaGreat
set_option linter.unusedVariables false
set_option linter.unusedSimpArgs false
open Go.RowKit
set_option maxRecDepth 100000
set_option maxHeartbeats 8000000
theorem ieq_ne {a b:Int}{c:Bool}(h:ieq a b=c):(a != b)=!c:=by subst h;rfl
theorem allB_at {n:Nat}{p:Nat→Bool}(h:allB n p=false):∃ j,j<n∧p j=false:=by
 cases hq:(List.range n).all p with
 | true=>rw [allB,hq] at h;cases h
 | false =>
  obtain ⟨j,hj,hp⟩:=List.all_eq_false.1 hq
  exact ⟨j,List.mem_range.1 hj,by cases h:p j <;> simp_all⟩
theorem allB_congr {n:Nat}{p q:Nat→Bool}(h:∀ j,j<n→p j=q j):allB n p=allB n q:=by
 cases hp:allB n p with
 | true =>
  cases hq:allB n q with
  | true=>rfl
  | false =>
   obtain ⟨j,hj,hb⟩:=allB_at hq
   rw [← h j hj,allB_get hp hj] at hb
   cases hb
 | false =>
  obtain ⟨j,hj,hb⟩:=allB_at hp
  rw [h j hj] at hb
  exact (allB_no hj hb).symm
def fidx (n:Nat)(p:Nat→Bool):Int :=
 match (List.range n).find? p with
 | some i=>(i:Int)
 | none=>-1
theorem fidx_hit {n j:Nat}{p:Nat→Bool}(hj:j<n)(hall:allB j (fun i=>!p i)=true)(hp:(!p j)=false):fidx n p=(j:Int):=by
 have hp':p j=true:=by cases h:p j <;> simp_all
 have:(List.range n).find? p=some j:=by
  rw [List.find?_range_eq_some]
  exact ⟨hp',List.mem_range.2 hj,fun i hi=>allB_get hall hi⟩
 rw [fidx,this]
theorem fidx_no {n:Nat}{p:Nat→Bool}(hall:allB n (fun i=>!p i)=true):fidx n p=-1:=by
 have:(List.range n).find? p=none:=by
  rw [List.find?_range_eq_none]
  exact fun i hi=>allB_get hall hi
 rw [fidx,this]
theorem fidx_at {n j:Nat}{p:Nat→Bool}(hj:j<n)(hp:p j=true):ieq (fidx n p) (j:Int)=allB j (fun i=>!p i):=by
 cases h:allB j (fun i=>!p i) with
 | true =>
  rw [fidx_hit hj h (by simp [hp])]
  exact beq_self_eq_true _
 | false =>
  obtain ⟨k,hk,hpk⟩:=allB_at h
  have:∃ m,m≤k∧fidx n p=(m:Int):=by
   cases hf:(List.range n).find? p with
   | none =>
    rw [List.find?_range_eq_none] at hf
    have:=hf k (by omega)
    simp_all
   | some m =>
    have hm:=hf
    rw [List.find?_range_eq_some] at hm
    refine ⟨m,?_,by rw [fidx,hf]⟩
    rcases Nat.lt_or_ge k m with h1 | h1
    ·have:=hm.2.2 k h1
     simp_all
    ·exact h1
  obtain ⟨m,hm,e⟩:=this
  rw [e]
  have:¬ (m:Int)=(j:Int):=by omega
  simp [ieq,this]
def cntB (n:Nat)(p:Nat→Bool):Nat :=
 match n with
 | 0=>0
 | m+1=>cntB m p+(if p m=true then 1 else 0)
theorem cntB_le {p:Nat→Bool}:∀ {n:Nat},cntB n p≤n
 | 0=>Nat.le_refl 0
 | m+1=>by
  have:=cntB_le (p:=p) (n:=m)
  simp only [cntB]
  split <;> omega
theorem cntB_none {p:Nat→Bool}:∀ {n:Nat},(∀ i,i<n→p i=false)→cntB n p=0
 | 0,_=>rfl
 | m+1,h=>by
  simp only [cntB,cntB_none (n:=m) fun i hi=>h i (by omega)]
  simp [h m (by omega)]
theorem cntB_pos {p:Nat→Bool}:∀ {n i:Nat},i<n→p i=true→1≤cntB n p
 | 0,i,hi,_=>absurd hi (Nat.not_lt_zero i)
 | m+1,i,hi,hp=>by
  simp only [cntB]
  by_cases e:i=m
  ·subst e
   simp [hp]
  ·have:=cntB_pos (n:=m) (i:=i) (by omega) hp
   omega
theorem cntB_two {p:Nat→Bool}:∀ {n i k:Nat},k<i→i<n→p k=true→p i=true→1<cntB n p
 | 0,i,k,_,hi,_,_=>absurd hi (Nat.not_lt_zero i)
 | m+1,i,k,hk,hi,hpk,hpi=>by
  simp only [cntB]
  by_cases e:i=m
  ·subst e
   have:=cntB_pos (n:=i) (i:=k) hk hpk
   simp [hpi]
   omega
  ·have:=cntB_two (n:=m) hk (by omega) hpk hpi
   omega
theorem cntB_one {p:Nat→Bool}:∀ {n:Nat},1<cntB n p→∃ k i,k<i∧i<n∧p k=true∧p i=true
 | 0,h=>by simp [cntB] at h
 | m+1,h=>by
  simp only [cntB] at h
  by_cases hp:p m=true
  ·by_cases h1:1<cntB m p
   ·obtain ⟨k,i,h2,h3,h4,h5⟩:=cntB_one h1
    exact ⟨k,i,h2,by omega,h4,h5⟩
   ·simp only [hp,if_true] at h
    have h2:cntB m p=1:=by omega
    have:∃ k,k<m∧p k=true:=by
     refine Classical.byContradiction fun hn=>?_
     have:cntB m p=0:=cntB_none fun i hi=>by
      cases hq:p i
      ·rfl
      ·exact absurd ⟨i,hi,hq⟩ hn
     omega
    obtain ⟨k,hk,hpk⟩:=this
    exact ⟨k,m,hk,by omega,hpk,hp⟩
  ·simp only [if_neg hp] at h
   obtain ⟨k,i,h2,h3,h4,h5⟩:=cntB_one (n:=m) (by omega)
   exact ⟨k,i,h2,by omega,h4,h5⟩
def rdf (K:List Bool)(ch:List Ch)(x:SC)(k:Nat→Nat→(Nat→Nat→Int)→(Nat→Nat→Bool)→Prop):Prop :=
 match x with
 | .sl id ao n c =>
  match ch[id]? with
  | some (.row r)=>∃ (u:Nat→Nat→Int) (v:Nat→Nat→Bool),(ao=r.ao∧n=r.n∧r.fld=flK u v 0 K)∧k n c u v
  | _=>False
 | _=>False
theorem rdf_ok {K:List Bool}{ch:List Ch}{x:SC}{k:Nat→Nat→(Nat→Nat→Int)→(Nat→Nat→Bool)→Prop}(h:rdf K ch x k){X:Cx}{w:World}(hs:HS X ch w) :
  ∃ (ao:Option Addr) (n c:Nat) (u:Nat→Nat→Int) (v:Nat→Nat→Bool),x.den=.slice ao n c∧Row.sat w ⟨false,ao,0,K.length,n,0,flK u v 0 K⟩∧k n c u v:=by
 unfold rdf at h
 split at h
 ·rename_i id ao n cap
  split at h
  ·rename_i r hid
   obtain ⟨u,v,⟨rfl,rfl,hf⟩,hk⟩:=h
   exact ⟨r.ao,r.n,cap,u,v,rfl,seenAs' (hs.sat id _ hid) hf (fl_len K 0),hk⟩
  ·exact h.elim
 ·exact h.elim
end Go.Proofs.YtmnccapnjphmfaaGreat

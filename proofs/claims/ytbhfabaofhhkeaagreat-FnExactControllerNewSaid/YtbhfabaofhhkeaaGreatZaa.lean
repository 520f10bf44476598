/-
  FnExactControllerNew: a part of the walk (merged and squeezed by program: Sx1 Sx2 Sx3 Sx4 Sx5 Sx6 Sx7 Sx8 Sx9).
-/
import Derived.Calls
import Derived.Control
import Derived.Tactics
import Derived.OrdersHeld
import Derived.KernelRfl
import Derived.Below
import Derived.Laws.Rows
import Derived.Laws.AppendOwn
import Derived.Laws.MakeOwn
import Derived.Deep.OwnRows
import Derived.Laws.Entries
import Derived.Laws.BitsLemmas
import Derived.Laws.Closers25
import Derived.Laws.Cover3
import Derived.Laws.StructEq
import Derived.Laws.Small
import Derived.Laws.CopyRow
import Derived.Laws.Slices
import Derived.Laws.IdiomCopy
namespace Go.Proofs.YtbhfabaofhhkeaaGreat
set_option linter.unusedVariables false
set_option linter.unusedSimpArgs false
open Go.RowKit
inductive SC where
 | il (n:Int)
 | int (n:Int)
 | u8 (n:Int)
 | lit (b:Bool)
 | bool (b:Bool)
 | ptr (id b off:Nat)
 | rptr (id:Nat) (ao:Option Addr) (s i c:Nat)
 | sl (id:Nat) (ao:Option Addr) (n cap:Nat)
 | slc (id b n cap:Nat)
 | nil
 | val (v:Value)
 | obj (id:Nat) (v:Value)
 | ul (n:Nat)
 | u64 (n:Int)
 | wi (n:Int)
 | vw (id:Nat) (ao:Option Addr) (lo n cap:Nat)
def SC.den:SC→Value
 | .il n=>.int .i64 n
 | .int n=>.int .i64 n
 | .u8 n=>.int .u8 n
 | .lit b=>.bool b
 | .bool b=>.bool b
 | .ptr _ b off=>.pointer (some ⟨b,off,none⟩)
 | .rptr _ ao s i c=>.pointer (ao.map (·.add (i*s+c)))
 | .sl _ ao n cap=>.slice ao n cap
 | .slc _ b n cap=>.slice (some ⟨b,0,none⟩) n cap
 | .nil=>.slice none 0 0
 | .val v=>v
 | .obj _ v=>v
 | .ul n=>.int .u64 (n:Int)
 | .u64 n=>.int .u64 n
 | .wi n=>.int .i64 n
 | .vw _ ao _ n cap=>.slice ao n cap
def SC.one:SC→Bool
 | .val _=>false
 | .obj _ _=>false
 | _=>true
theorem SC.one_ok {x:SC}(h:x.one=true):x.den.oneCell'=true:=by
 cases x <;> first | rfl | (simp [SC.one] at h)
theorem SC.one_cells {x:SC}(h:x.one=true):x.den.cells=#[x.den]:=by
 cases x <;> first | rfl | (simp [SC.one] at h)
inductive SA where
 | c (x:SC)
 | agg (xs:List SC)
def SA.den:SA→Value
 | .c x=>x.den
 | .agg xs=>.agg (xs.map SC.den).toArray
def SA.cells:SA→List SC
 | .c x=>[x]
 | .agg xs=>xs
def SA.one:SA→Bool
 | .c x=>x.one
 | .agg xs=>xs.all SC.one
inductive SV where
 | a (x:SA)
 | tup (vs:List SA)
 | undef
def SV.den:SV→Value
 | .a x=>x.den
 | .tup vs=>.tuple (vs.map SA.den).toArray
 | .undef=>Go.undef
theorem SA.cells_den {x:SA}(h:x.one=true):x.den.cells.toList=x.cells.map SC.den:=by
 cases x with
 | c x=>simp [SA.den,SA.cells,SC.one_cells h]
 | agg xs=>simp [SA.den,SA.cells,Value.cells]
theorem SA.one_all {x:SA}(h:x.one=true):∀ v∈x.cells.map SC.den,v.oneCell'=true:=by
 intro v hv
 obtain ⟨y,hy,rfl⟩:=List.mem_map.1 hv
 cases x with
 | c x=>simp [SA.cells] at hy;subst hy;exact SC.one_ok h
 | agg xs=>exact SC.one_ok (List.all_eq_true.1 h y hy)
def ofC:Value→SC
 | .int .i64 n=>.il n
 | .int .u8 n=>.u8 n
 | .int .u64 (.ofNat n)=>.ul n
 | .bool b=>.lit b
 | .slice none 0 0=>.nil
 | v=>.val v
theorem ofC_den (v:Value):(ofC v).den=v:=by
 unfold ofC
 split <;> rfl
def ofA:Value→SA
 | .agg cs=>.agg (cs.toList.map ofC)
 | v=>.c (ofC v)
theorem ofA_den (v:Value):(ofA v).den=v:=by
 unfold ofA
 split
 ·simp [SA.den,Function.comp_def,ofC_den]
 ·simp [SA.den,ofC_den]
abbrev iV (n:Int):SV:=.a (.c (.int n))
abbrev lV (n:Int):SV:=.a (.c (.il n))
abbrev bV (b:Bool):SV:=.a (.c (.bool b))
abbrev tV:SV:=.a (.c (.lit true))
abbrev fV:SV:=.a (.c (.lit false))
abbrev pV (id b off:Nat):SV:=.a (.c (.ptr id b off))
abbrev rV (id:Nat)(ao:Option Addr)(s i c:Nat):SV:=.a (.c (.rptr id ao s i c))
abbrev oV (id:Nat)(v:Value):SV:=.a (.c (.obj id v))
abbrev sV (id:Nat)(ao:Option Addr)(n cap:Nat):SV:=.a (.c (.sl id ao n cap))
abbrev cV (id b n cap:Nat):SV:=.a (.c (.slc id b n cap))
abbrev vV (v:Value):SV:=.a (.c (.val v))
abbrev aV (xs:List SC):SV:=.a (.agg xs)
abbrev uV (xs:List SA):SV:=.tup xs
abbrev xV:SV:=.undef
abbrev Ab (b:Bool):SA:=.c (.bool b)
abbrev At:SA:=.c (.lit true)
abbrev Ao (id:Nat)(v:Value):SA:=.c (.obj id v)
abbrev Ag (xs:List SC):SA:=.agg xs
abbrev Ci (n:Int):SC:=.int n
abbrev Cl (n:Int):SC:=.il n
abbrev Cb (b:Bool):SC:=.bool b
abbrev Ct:SC:=.lit true
abbrev Cf:SC:=.lit false
abbrev Co (id:Nat)(v:Value):SC:=.obj id v
abbrev Cs (id:Nat)(ao:Option Addr)(n cap:Nat):SC:=.sl id ao n cap
abbrev Cc (id b n cap:Nat):SC:=.slc id b n cap
abbrev Cz:SC:=.nil
abbrev Cv (v:Value):SC:=.val v
abbrev Wi (n:Int):Value:=.int .i64 n
abbrev Wb (b:Bool):Value:=.bool b
abbrev Wp (b o:Nat):Value:=.pointer (some ⟨b,o,none⟩)
abbrev Ws (a:Option Addr)(n c:Nat):Value:=.slice a n c
abbrev Wn:Value:=.slice none 0 0
abbrev Wa (l:List Value):Value:=.agg l.toArray
abbrev Wu (l:List Value):Value:=.tuple l.toArray
abbrev Ad (b o:Nat):Option Addr:=some ⟨b,o,none⟩
abbrev selI (j i:Nat)(a b:Int):Int:=if j=i then a else b
abbrev selB (j i:Nat)(a b:Bool):Bool:=if j=i then a else b
abbrev selV (j i:Nat)(a b:Value):Value:=if j=i then a else b
abbrev lowI (j i:Nat)(a b:Int):Int:=if j<i then a else b
abbrev lowB (j i:Nat)(a b:Bool):Bool:=if j<i then a else b
abbrev lowV (j i:Nat)(a b:Value):Value:=if j<i then a else b
abbrev tn (z:Int):Nat:=z.toNat
abbrev ltN (i n:Nat):Prop:=i<n
abbrev addN (n m:Nat):Nat:=n+m
abbrev subN (n m:Nat):Nat:=n-m
abbrev inIdx (z:Int)(n:Nat):Prop:=0≤z∧z<(n:Int)
def pk (j i:Nat)(x y:SC):SC :=
 match x,y with
 | .il a,.il b=>.int (selI j i a b)
 | .il a,.int b=>.int (selI j i a b)
 | .int a,.il b=>.int (selI j i a b)
 | .int a,.int b=>.int (selI j i a b)
 | .u8 a,.u8 b=>.u8 (selI j i a b)
 | .lit a,.lit b=>.bool (selB j i a b)
 | .lit a,.bool b=>.bool (selB j i a b)
 | .bool a,.lit b=>.bool (selB j i a b)
 | .bool a,.bool b=>.bool (selB j i a b)
 | x,y=>.val (selV j i x.den y.den)
theorem pk_den (j i:Nat)(x y:SC):(pk j i x y).den=if j=i then x.den else y.den:=by
 unfold pk
 split <;> simp only [SC.den,selI,selB,selV] <;> split <;> rfl
def pkL (j i:Nat)(x y:SC):SC :=
 match x,y with
 | .il a,.il b=>.int (lowI j i a b)
 | .il a,.int b=>.int (lowI j i a b)
 | .int a,.il b=>.int (lowI j i a b)
 | .int a,.int b=>.int (lowI j i a b)
 | .u8 a,.u8 b=>.u8 (lowI j i a b)
 | .lit a,.lit b=>.bool (lowB j i a b)
 | .lit a,.bool b=>.bool (lowB j i a b)
 | .bool a,.lit b=>.bool (lowB j i a b)
 | .bool a,.bool b=>.bool (lowB j i a b)
 | x,y=>.val (lowV j i x.den y.den)
theorem pkL_den (j i:Nat)(x y:SC):(pkL j i x y).den=if j<i then x.den else y.den:=by
 unfold pkL
 split <;> simp only [SC.den,lowI,lowB,lowV] <;> split <;> rfl
structure Row where
 own:Bool
 ao:Option Addr
 t:TypeId
 s:Nat
 n:Nat
 cap:Nat
 fld:List (Nat→SC)
structure CD where
 n:Nat
 sn:Nat→Nat
 sy:Nat→Nat→Int
 po:Nat→Bool
def symRow (o:Bool)(t:Nat)(x:CD)(so:Nat→Option Addr)(sc:Nat→Nat)(i:Nat):Row:=⟨o,so i,t,1,x.sn i,sc i,[fun k=>.int (x.sy i k)]⟩
def symRows (o:Bool)(t:Nat)(x:CD)(so:Nat→Option Addr)(sc:Nat→Nat):List Row:=(List.range x.n).map (symRow o t x so sc)
def setSy (y:CD)(q i:Nat)(a:Int):CD:=⟨y.n,y.sn,fun j p=>if j=q then (if p=i then a else y.sy j p) else y.sy j p,y.po⟩
theorem symRows_mem {o:Bool}{t:Nat}{x:CD}{so:Nat→Option Addr}{sc:Nat→Nat}{i:Nat}(hi:i<x.n):symRow o t x so sc i∈symRows o t x so sc :=
 List.mem_map.2 ⟨i,List.mem_range.2 hi,rfl⟩
theorem symRows_get {o:Bool}{t:Nat}{x:CD}{so:Nat→Option Addr}{sc:Nat→Nat}{i:Nat}(hi:i<x.n):(symRows o t x so sc)[i]?=some (symRow o t x so sc i):=by
 simp [symRows,hi]
inductive Ch where
 | cells (b:Nat) (t:TypeId) (cs:List SC)
 | row (r:Row)
 | dead
 | obj (own:Bool) (rs:List Row)
 | whole (b:Nat) (t:TypeId) (g:Bool) (z:Nat) (x:SC)
abbrev Hc (b:Nat)(t:TypeId)(cs:List SC):Ch:=.cells b t cs
abbrev Hr (own:Bool)(ao:Option Addr)(t:TypeId)(s n cap:Nat)(fld:List (Nat→SC)):Ch:=.row ⟨own,ao,t,s,n,cap,fld⟩
abbrev Hd:Ch:=.dead
abbrev Ho (own:Bool)(rs:List Row):Ch:=.obj own rs
abbrev Hw (b:Nat)(t:TypeId)(g:Bool)(z:Nat)(x:SC):Ch:=.whole b t g z x
def wholeC (g:Bool)(v:Value)(z:Nat):Prop :=
 match g with
 | true=>∃ cs:Array Value,v=.agg cs∧cs.size=z∧∀ u∈cs.toList,u.oneCell'=true
 | false=>z=1∧v.oneCell'=true∧v.cells=#[v]
def Ch.own:Ch→Bool
 | .cells ..=>true
 | .row r=>r.own
 | .dead=>false
 | .obj o _=>o
 | .whole ..=>true
def Row.at (r:Row)(b:Nat):Prop:=(r.own=true∨0<r.n)∧∃ off,r.ao=some ⟨b,off,none⟩
def Ch.at (c:Ch)(b:Nat):Prop :=
 match c with
 | .cells b' _ _=>b=b'
 | .row r=>r.at b
 | .dead=>False
 | .obj _ rs=>∃ r∈rs,r.at b
 | .whole b' _ _ _ _=>b=b'
def Row.sat (w:World)(r:Row):Prop :=
 r.fld.length=r.s ∧
 (r.own=false→0<r.n→∃ b off,r.ao=some ⟨b,off,none⟩∧b<w.heap.size ∧
  ∀ i,i<r.n→∀ (c:Nat) (f:Nat→SC),r.fld[c]?=some f→w.cell? ⟨b,off+(i*r.s+c),none⟩=some (f i).den) ∧
 (r.own=true→(r.ao=none∧r.n=0∧r.cap=0)∨∃ b cs,r.ao=some ⟨b,0,none⟩∧w.heap[b]?=some (.cells cs r.t (0,0))∧r.n≤r.cap∧r.cap≤maxLen∧cs.size=r.cap*r.s ∧
  ∀ i,i<r.n→∀ (c:Nat) (f:Nat→SC),r.fld[c]?=some f→cs[i*r.s+c]?=some (f i).den)
def Ch.sat (w:World):Ch→Prop
 | .cells b t cs=>w.heap[b]?=some (.cells (cs.map SC.den).toArray t (0,0))
 | .row r=>r.sat w
 | .dead=>True
 | .obj o rs=>(∀ r∈rs,r.own=o∧r.sat w)∧(o=true→∀ (i j:Nat) (p q:Row) (b:Nat),i ≠ j→rs[i]?=some p→rs[j]?=some q→p.at b→q.at b→False)
 | .whole b t g z x=>w.heap[b]?=some (.cells x.den.cells t (0,0))∧wholeC g x.den z
theorem Row.read {w:World}{r:Row}(h:r.sat w){i:Nat}(hi:i<r.n):∃ b off,r.ao=some ⟨b,off,none⟩∧b<w.heap.size ∧
  ∀ (c:Nat) (f:Nat→SC),r.fld[c]?=some f→w.cell? ⟨b,off+(i*r.s+c),none⟩=some (f i).den:=by
 cases ho:r.own with
 | false =>
  obtain ⟨b,off,h1,h2,h3⟩:=h.2.1 ho (by omega)
  exact ⟨b,off,h1,h2,h3 i hi⟩
 | true =>
  rcases h.2.2 ho with ⟨_,h1,_⟩ | ⟨b,cs,h1,h2,_,_,_,h3⟩
  ·omega
  ·refine ⟨b,0,h1,(Array.getElem?_eq_some_iff.1 h2).1,fun c f hf=>?_⟩
   rw [Nat.zero_add]
   simp [World.cell?,h2,h3 i hi c f hf]
theorem Row.sat_lt {w:World}{r:Row}{b:Nat}(hr:r.sat w)(ha:r.at b):b<w.heap.size:=by
 obtain ⟨hn,off,hao⟩:=ha
 cases ho:r.own with
 | false =>
  have hn':0<r.n:=hn.resolve_left (by simp [ho])
  obtain ⟨b',off',hao',hlt,_⟩:=hr.2.1 ho hn'
  rw [hao'] at hao
  injection hao with hao
  injection hao with hb
  rw [← hb]
  exact hlt
 | true =>
  rcases hr.2.2 ho with ⟨h1,_⟩ | ⟨b',cs,hao',h2,_⟩
  ·rw [h1] at hao;cases hao
  ·rw [hao'] at hao
   injection hao with hao
   injection hao with hb
   rw [← hb]
   exact (Array.getElem?_eq_some_iff.1 h2).1
theorem Ch.sat_lt {w:World}{c:Ch}{b:Nat}(h:Ch.sat w c)(ha:c.at b):b<w.heap.size:=by
 cases c with
 | cells b' t cs =>
  simp only [Ch.at] at ha
  subst ha
  exact (Array.getElem?_eq_some_iff.1 h).1
 | row r=>exact Row.sat_lt h ha
 | dead=>exact ha.elim
 | obj o rs =>
  obtain ⟨r,hr,ha⟩:=ha
  exact Row.sat_lt (h.1 r hr).2 ha
 | whole b' t g z x =>
  simp only [Ch.at] at ha
  subst ha
  exact (Array.getElem?_eq_some_iff.1 h.1).1
theorem Row.sat_keep {w w':World}{r:Row}(hr:r.sat w)(hs:w.heap.size≤w'.heap.size)(hb:∀ b,r.at b→w'.heap[b]?=w.heap[b]?):r.sat w':=by
 refine ⟨hr.1,fun ho hn=>?_,fun ho=>?_⟩
 ·obtain ⟨b,off,hao,hlt,hc⟩:=hr.2.1 ho hn
  have e:=hb b ⟨.inr hn,off,hao⟩
  refine ⟨b,off,hao,Nat.lt_of_lt_of_le hlt hs,fun i hi c f hf=>?_⟩
  rw [← hc i hi c f hf]
  exact World.cell?_of_block (w:=w) e
 ·rcases hr.2.2 ho with h1 | ⟨b,cs,hao,h2,h3⟩
  ·exact .inl h1
  ·exact .inr ⟨b,cs,hao,(hb b ⟨.inl ho,0,hao⟩).trans h2,h3⟩
theorem Ch.sat_keep {w w':World}{c:Ch}(h:Ch.sat w c)(hs:w.heap.size≤w'.heap.size)(hb:∀ b,c.at b→w'.heap[b]?=w.heap[b]?):Ch.sat w' c:=by
 cases c with
 | cells b t cs=>exact (hb b rfl).trans h
 | row r=>exact Row.sat_keep h hs hb
 | dead=>trivial
 | obj o rs=>exact ⟨fun r hr=>⟨(h.1 r hr).1,Row.sat_keep (h.1 r hr).2 hs fun b ha=>hb b ⟨r,hr,ha⟩⟩,h.2⟩
 | whole b' t g z x=>exact ⟨(hb b' rfl).trans h.1,h.2⟩
structure Cx where
 w0:World
 M:Nat→Prop
structure Fr (X:Cx) (w:World):Prop where
 os:w.os=X.w0.os
 tape:w.tape=X.w0.tape
 output:w.output=X.w0.output
 size:X.w0.heap.size≤w.heap.size
 block:∀ k,k<X.w0.heap.size→¬ X.M k→w.heap[k]?=X.w0.heap[k]?
structure HS (X:Cx) (ch:List Ch) (w:World):Prop where
 fr:Fr X w
 sat:∀ (i:Nat) (c:Ch),ch[i]?=some c→c.sat w
 dis:∀ (i j:Nat) (ci cj:Ch) (b:Nat),i ≠ j→ch[i]?=some ci→ch[j]?=some cj→ci.own=true→ci.at b→cj.at b→False
 new:∀ (i:Nat) (c:Ch) (b:Nat),ch[i]?=some c→c.own=true→c.at b→X.w0.heap.size≤b∨X.M b
def Sat (ch:List Ch)(w:World):Prop:=∀ (i:Nat) (c:Ch),ch[i]?=some c→c.sat w
def Agree (ch ch':List Ch)(mods:List Nat):Prop:=∀ (i:Nat) (c:Ch),ch[i]?=some c→i ∉ mods→ch'[i]?=some c
theorem Agree.refl (ch:List Ch):Agree ch ch []:=fun _ _ h _=>h
theorem Agree.app (ch:List Ch)(more:List Ch):Agree ch (ch ++ more) []:=fun i c h _=>by
 rw [List.getElem?_append_left (List.getElem?_eq_some_iff.1 h).1];exact h
theorem Agree.set (ch:List Ch)(id:Nat)(c:Ch):Agree ch (ch.set id c) [id]:=fun i d h hi=>by
 rw [List.getElem?_set_ne (fun e=>hi (by simp [e]))];exact h
theorem HS.keep {X:Cx}{ch:List Ch}{w w':World}(h:HS X ch w)(hb:Below w.heap.size w w'):HS X ch w' where
 fr:=⟨hb.os.trans h.fr.os,hb.tape.trans h.fr.tape,hb.output.trans h.fr.output,Nat.le_trans h.fr.size hb.size,fun k hk hM=>(hb.block k (Nat.lt_of_lt_of_le hk h.fr.size)).trans (h.fr.block k hk hM)⟩
 sat:=fun i c hc=>Ch.sat_keep (h.sat i c hc) hb.size (fun b ha=>hb.block b (Ch.sat_lt (h.sat i c hc) ha))
 dis:=h.dis
 new:=h.new
theorem get_app_one {α:Type}{l:List α}{x y:α}{i:Nat}(h:(l ++ [x])[i]?=some y):l[i]?=some y∨(i=l.length∧y=x):=by
 rw [List.getElem?_append] at h
 split at h
 ·exact .inl h
 ·rename_i hi
  right
  have:i-l.length=0:=by
   cases e:i-l.length with
   | zero=>rfl
   | succ m=>rw [e] at h;simp at h
  rw [this] at h
  simp at h
  exact ⟨by omega,h.symm⟩
theorem HS.add {X:Cx}{ch:List Ch}{w w':World}(h:HS X ch w)(hb:Below w.heap.size w w')(c:Ch)(hs:c.sat w')(hn:∀ b,c.at b→w.heap.size≤b):HS X (ch ++ [c]) w' where
 fr:=(h.keep hb).fr
 sat:=fun i d hd=>by
  rcases get_app_one hd with hd | ⟨_,rfl⟩
  ·exact (h.keep hb).sat i d hd
  ·exact hs
 dis:=fun i j ci cj b hij hi hj ho hai haj=>by
  rcases get_app_one hi with hi' | ⟨hi1,rfl⟩
  ·rcases get_app_one hj with hj' | ⟨_,rfl⟩
   ·exact h.dis i j ci cj b hij hi' hj' ho hai haj
   ·have:=Ch.sat_lt (h.sat i ci hi') hai
    have:=hn b haj
    omega
  ·rcases get_app_one hj with hj' | ⟨hj1,_⟩
   ·have:=Ch.sat_lt (h.sat j cj hj') haj
    have:=hn b hai
    omega
   ·exact hij (hi1.trans hj1.symm)
 new:=fun i d b hd ho ha=>by
  rcases get_app_one hd with hd | ⟨_,rfl⟩
  ·exact h.new i d b hd ho ha
  ·exact .inl (Nat.le_trans h.fr.size (hn b ha))
theorem get_set {α:Type}{l:List α}{x y:α}{id i:Nat}(h:(l.set id x)[i]?=some y):(i=id∧y=x∧id<l.length)∨(i ≠ id∧l[i]?=some y):=by
 rw [List.getElem?_set] at h
 split at h
 ·rename_i e
  split at h
  ·injection h with h
   exact .inl ⟨e.symm,h.symm,by assumption⟩
  ·cases h
 ·rename_i e
  exact .inr ⟨fun q=>e q.symm,h⟩
theorem HS.turn {X:Cx}{ch:List Ch}{w w':World}{id g:Nat}{c d:Ch}(h:HS X ch w)(hid:ch[id]?=some c)(ho:c.own=true)(hg:c.at g)
  (hos:w'.os=w.os) (ht:w'.tape=w.tape) (hout:w'.output=w.output) (hsz:w'.heap.size=w.heap.size) (hk:∀ k,k ≠ g→w'.heap[k]?=w.heap[k]?)
  (hd:d.sat w') (hda:∀ b,d.at b→c.at b) (hc1:∀ b,c.at b→b=g):HS X (ch.set id d) w' where
 fr:=⟨hos.trans h.fr.os,ht.trans h.fr.tape,hout.trans h.fr.output,by rw [hsz];exact h.fr.size,fun k hk0 hM=>by
  refine (hk k ?_).trans (h.fr.block k hk0 hM)
  rintro rfl
  rcases h.new id c _ hid ho hg with h1 | h1
  ·omega
  ·exact hM h1⟩
 sat:=fun i e he=>by
  rcases get_set he with ⟨rfl,rfl,_⟩ | ⟨hne,he⟩
  ·exact hd
  ·refine Ch.sat_keep (h.sat i e he) (by rw [hsz];exact Nat.le_refl _) (fun b ha=>hk b ?_)
   rintro rfl
   exact h.dis id i c e _ (fun q=>hne q.symm) hid he ho hg ha
 dis:=fun i j ci cj b hij hi hj hoi hai haj=>by
  rcases get_set hi with ⟨rfl,rfl,_⟩ | ⟨hne,hi'⟩
  ·rcases get_set hj with ⟨rfl,_,_⟩ | ⟨hne',hj'⟩
   ·exact hij rfl
   ·exact h.dis i j c cj b hij hid hj' ho (hda b hai) haj
  ·rcases get_set hj with ⟨rfl,rfl,_⟩ | ⟨hne',hj'⟩
   ·exact h.dis i j ci c b hij hi' hid hoi hai (hda b haj)
   ·exact h.dis i j ci cj b hij hi' hj' hoi hai haj
 new:=fun i e b he hoe ha=>by
  rcases get_set he with ⟨rfl,rfl,_⟩ | ⟨_,he⟩
  ·exact h.new _ c b hid ho (hda b ha)
  ·exact h.new i e b he hoe ha
theorem HS.all {X:Cx}{ch:List Ch}{w:World}(h:HS X ch w):Sat ch w:=h.sat
theorem HS.below {w0:World}{ch:List Ch}{w:World}(h:HS ⟨w0,fun _=>False⟩ ch w):Below w0.heap.size w0 w :=
 ⟨h.fr.os,h.fr.tape,h.fr.output,h.fr.size,fun k hk=>h.fr.block k hk (fun f=>f)⟩
theorem HS.start (w0:World)(M:Nat→Prop):HS ⟨w0,M⟩ [] w0 :=
 ⟨⟨rfl,rfl,rfl,Nat.le_refl _,fun _ _ _=>rfl⟩,fun i c h=>by simp at h,fun i j ci cj b _ h=>by simp at h,fun i c b h=>by simp at h⟩
theorem HS.see {X:Cx}{ch:List Ch}{w:World}(h:HS X ch w)(r:Row)(hr:r.own=false)(hs:r.sat w)(hn:∀ (i:Nat) (c:Ch) (b:Nat),ch[i]?=some c→c.own=true→c.at b→¬ (Ch.row r).at b):HS X (ch ++ [.row r]) w where
 fr:=h.fr
 sat:=fun i d hd=>by
  rcases get_app_one hd with hd | ⟨_,rfl⟩
  ·exact h.sat i d hd
  ·exact hs
 dis:=fun i j ci cj b hij hi hj ho hai haj=>by
  rcases get_app_one hi with hi' | ⟨hi1,rfl⟩
  ·rcases get_app_one hj with hj' | ⟨_,rfl⟩
   ·exact h.dis i j ci cj b hij hi' hj' ho hai haj
   ·exact hn i ci b hi' ho hai haj
  ·simp [Ch.own,hr] at ho
 new:=fun i d b hd ho ha=>by
  rcases get_app_one hd with hd | ⟨_,rfl⟩
  ·exact h.new i d b hd ho ha
  ·simp [Ch.own,hr] at ho
theorem HS.congr {X:Cx}{ch:List Ch}{w:World}(h:HS X ch w)(id:Nat)(r:Row)(hid:ch[id]?=some (.row r))(fld:List (Nat→SC))(hl:fld.length=r.fld.length)
  (hf:∀ (c:Nat) (f g:Nat→SC),r.fld[c]?=some f→fld[c]?=some g→∀ i,i<r.n→(f i).den=(g i).den):HS X (ch.set id (.row { r with fld:=fld })) w where
 fr:=h.fr
 sat:=fun i e he=>by
  rcases get_set he with ⟨_,rfl,_⟩ | ⟨_,he⟩
  ·have hr:r.sat w:=h.sat id _ hid
   have hg:∀ (c:Nat) (g:Nat→SC),fld[c]?=some g→∃ f:Nat→SC,r.fld[c]?=some f∧∀ i,i<r.n→(f i).den=(g i).den:=fun c g hg=>by
    have hc:c<r.fld.length:=by rw [← hl];exact (List.getElem?_eq_some_iff.1 hg).1
    exact ⟨_,List.getElem?_eq_getElem hc,hf c _ g (List.getElem?_eq_getElem hc) hg⟩
   refine ⟨hl.trans hr.1,fun ho hn=>?_,fun ho=>?_⟩
   ·obtain ⟨b,off,h1,h2,h3⟩:=hr.2.1 ho hn
    refine ⟨b,off,h1,h2,fun i hi c g hg'=>?_⟩
    obtain ⟨f,hf1,hf2⟩:=hg c g hg'
    rw [h3 i hi c f hf1,hf2 i hi]
   ·rcases hr.2.2 ho with h1 | ⟨b,cs,h1,h2,h3,h4,h5,h6⟩
    ·exact .inl h1
    ·refine .inr ⟨b,cs,h1,h2,h3,h4,h5,fun i hi c g hg'=>?_⟩
     obtain ⟨f,hf1,hf2⟩:=hg c g hg'
     rw [h6 i hi c f hf1,hf2 i hi]
  ·exact h.sat i e he
 dis:=fun i j ci cj b hij hi hj ho hai haj=>by
  rcases get_set hi with ⟨rfl,rfl,_⟩ | ⟨_,hi'⟩
  ·rcases get_set hj with ⟨rfl,rfl,_⟩ | ⟨_,hj'⟩
   ·exact hij rfl
   ·exact h.dis i j _ cj b hij hid hj' ho hai haj
  ·rcases get_set hj with ⟨rfl,rfl,_⟩ | ⟨_,hj'⟩
   ·exact h.dis i j ci _ b hij hi' hid ho hai haj
   ·exact h.dis i j ci cj b hij hi' hj' ho hai haj
 new:=fun i e b he ho ha=>by
  rcases get_set he with ⟨rfl,rfl,_⟩ | ⟨_,he⟩
  ·exact h.new i _ b hid ho ha
  ·exact h.new i e b he ho ha
def szOf (P:Program)(t:TypeId):Option Nat:=(P.info? t).map (·.size)
def aggOf (P:Program)(t:TypeId):Option Bool:=(P.underlying t).map fun
 | .struct _=>true
 | .array _ _=>true
 | _=>false
theorem run_sizeOf' {P:Program}{t:TypeId}{z:Nat}(h:szOf P t=some z)(w:World):(sizeOf t).run P w=.ok z w:=by
 unfold szOf at h
 cases hi:P.info? t with
 | none=>simp [hi] at h
 | some i =>
  simp only [hi,Option.map_some] at h
  injection h with h
  subst h
  simp [sizeOf,typeInfo,hi]
theorem run_isAgg' {P:Program}{t:TypeId}{g:Bool}(h:aggOf P t=some g)(w:World):(isAgg t).run P w=.ok g w:=by
 unfold aggOf at h
 cases hu:P.underlying t with
 | none=>simp [hu] at h
 | some d =>
  simp only [hu,Option.map_some] at h
  injection h with h
  subst h
  unfold isAgg
  rw [Sem.run_bind,run_underlying hu w]
  cases d <;> rfl
theorem add_add (b off j:Nat):(⟨b,off,none⟩:Addr).add j=⟨b,off+j,none⟩:=by
 unfold Addr.add
 split
 ·rename_i h;subst h;rfl
 ·rfl
theorem run_load_agg {P:Program}{t:TypeId}{z:Nat}(hz:szOf P t=some z)(ha:aggOf P t=some true){w:World}{b off:Nat}{l:List Value}(hl:l.length=z)
  (h:∀ (j:Nat) v,l[j]?=some v→w.cell? ⟨b,off+j,none⟩=some v):(loadVar t ⟨b,off,none⟩).run P w=.ok (.agg l.toArray) w:=by
 have:=run_loadCells_list (P:=P) w ⟨b,off,none⟩ l (fun j v hv=>by rw [add_add];exact h j v hv)
 simp only [loadVar,Sem.run_bind,run_isAgg' ha,Result.andThen_ok,if_true,run_sizeOf' hz,← hl,this,Sem.run_pure]
theorem run_load_one {P:Program}{t:TypeId}(ha:aggOf P t=some false){w:World}{a:Addr}{v:Value}(h:w.cell? a=some v):(loadVar t a).run P w=.ok v w:=by
 simp only [loadVar,Sem.run_bind,run_isAgg' ha,Result.andThen_ok,Bool.false_eq_true,if_false,run_load,h]
def ev (ts:List SV):Operand→SV
 | .tmp t=>ts.getD t .undef
 | .const v=>.a (ofA v)
 | .global g=>.a (.c (.val (.pointer (some ⟨g,0,none⟩))))
 | .func f=>.a (.c (.val (.func (.func f) #[] #[])))
def Ts (ts:List SV)(a:Act):Prop:=a.tmps=(ts.map SV.den).toArray
theorem ev_den {ts:List SV}{a:Act}(h:Ts ts a)(x:Operand):a.eval x=(ev ts x).den:=by
 cases x with
 | tmp t =>
  simp only [Act.eval,ev]
  rw [show a.tmps=(ts.map SV.den).toArray from h]
  simp only [Array.getD_eq_getD_getElem?,List.getElem?_toArray,List.getElem?_map,List.getD_eq_getElem?_getD]
  cases ts[t]? <;> rfl
 | const v=>simp only [Act.eval,ev,SV.den,ofA_den]
 | global g=>rfl
 | func f=>rfl
def exLoad (P:Program)(t:TypeId)(x:SV)(ch:List Ch)(k:SA→Prop):Prop :=
 match x with
 | .a (.c (.ptr id b off)) =>
  match ch[id]? with
  | some (.cells b' _ cs)=>b=b' ∧
   match aggOf P t with
   | some true =>
    match szOf P t with
    | some z =>
     match Nat.ble (off+z) cs.length with
     | true=>k (.agg ((cs.drop off).take z))
     | false=>False
    | none=>False
   | some false =>
    match cs[off]? with
    | some y=>k (.c y)
    | none=>False
   | none=>False
  | some (.whole b' _ g z x) =>
   match off,aggOf P t,g,szOf P t with
   | 0,some true,true,some z' =>
    match Nat.beq z' z with
    | true=>b=b'∧k (.c x)
    | false=>False
   | 0,some false,false,_=>b=b'∧k (.c x)
   | _,_,_,_=>False
  | _=>False
 | .a (.c (.rptr id ao s i c)) =>
  match ch[id]? with
  | some (.row r)=>ao=r.ao∧ltN i r.n ∧
   match Nat.beq s r.s with
   | true =>
    match aggOf P t with
    | some true =>
     match szOf P t with
     | some z =>
      match Nat.ble (c+z) r.fld.length with
      | true=>k (.agg (((r.fld.drop c).take z).map (· i)))
      | false=>False
     | none=>False
    | some false =>
     match r.fld[c]? with
     | some f=>k (.c (f i))
     | none=>False
    | none=>False
   | false=>False
  | some (.obj o rs) =>
   match Nat.beq s 1,Nat.beq c 0,aggOf P t with
   | true,true,some false=>∃ (t':Nat) (y:CD) (so:Nat→Option Addr) (sc:Nat→Nat) (q:Nat),(rs=symRows o t' y so sc∧ao=so q∧ltN q y.n∧ltN i (y.sn q))∧k (.c (.int (y.sy q i)))
   | _,_,_=>False
  | _=>False
 | _=>False
theorem rptr_some {ao:Option Addr}{b off m:Nat}(h:ao=some ⟨b,off,none⟩):ao.map (·.add m)=some ⟨b,off+m,none⟩:=by
 rw [h]
 simp only [Option.map_some,add_add]
theorem exLoad_ok {P:Program}{t:TypeId}{x:SV}{ch:List Ch}{k:SA→Prop}(h:exLoad P t x ch k) :
  ∃ v,k v∧∀ w,Sat ch w→(Instr.loadAt t x.den).run P w=.ok v.den w:=by
 unfold exLoad at h
 split at h
 ·rename_i id b off
  split at h
  ·rename_i b' ty cs hid
   obtain ⟨rfl,h⟩:=h
   have hblk:∀ w,Sat ch w→w.heap[b]?=some (.cells (cs.map SC.den).toArray ty (0,0)):=fun w hw=>hw id _ hid
   split at h
   ·rename_i ha
    split at h
    ·rename_i z hz
     split at h
     ·rename_i hle
      refine ⟨_,h,fun w hw=>?_⟩
      have hle':=Nat.le_of_ble_eq_true hle
      have:=run_load_agg (P:=P) hz ha (w:=w) (b:=b) (off:=off) (l:=((cs.drop off).take z).map SC.den) (by simp;omega) (fun j v hv=>by
       have hj:j<z:=by
        rcases Nat.lt_or_ge j z with hj | hj
        ·exact hj
        ·rw [List.getElem?_eq_none (by simp;omega)] at hv;cases hv
       simp only [World.cell?,hblk w hw,Option.isSome_none,Bool.false_eq_true,if_false,List.getElem?_toArray]
       rw [← hv]
       simp [hj])
      simp only [Instr.loadAt,SV.den,SA.den,SC.den,Instr.sureAddr,Sem.run_bind,Sem.run_pure,Result.andThen_ok,this]
     ·exact h.elim
    ·exact h.elim
   ·rename_i ha
    split at h
    ·rename_i y hy
     refine ⟨_,h,fun w hw=>?_⟩
     have:=run_load_one (P:=P) ha (w:=w) (a:=⟨b,off,none⟩) (v:=y.den) (by
      simp [World.cell?,hblk w hw,hy])
     simp only [Instr.loadAt,SV.den,SA.den,SC.den,Instr.sureAddr,Sem.run_bind,Sem.run_pure,Result.andThen_ok,this]
    ·exact h.elim
   ·exact h.elim
  ·rename_i b' ty g z x hid
   split at h
   ·rename_i z' ha hz
    split at h
    ·rename_i hzz
     have hzz':=Nat.eq_of_beq_eq_true hzz
     subst hzz'
     obtain ⟨rfl,h⟩:=h
     refine ⟨_,h,fun w hw=>?_⟩
     obtain ⟨hg,cs,hv,hcs,_⟩:=hw id _ hid
     rw [hv] at hg
     have:=run_load_agg (P:=P) hz ha (w:=w) (b:=b) (off:=0) (l:=cs.toList) (by simpa using hcs) (fun j v hv=>by
      simp only [World.cell?,hg,Value.cells,Option.isSome_none,Bool.false_eq_true,if_false]
      simpa using hv)
     rw [show (SV.a (SA.c (SC.ptr id b 0))).den=.pointer (some ⟨b,0,none⟩) from rfl,SA.den,hv]
     simp only [Instr.loadAt,Instr.sureAddr,Sem.run_bind,Sem.run_pure,Result.andThen_ok,this]
    ·exact h.elim
   ·rename_i ha
    obtain ⟨rfl,h⟩:=h
    refine ⟨_,h,fun w hw=>?_⟩
    obtain ⟨hg,_,_,hc⟩:=hw id _ hid
    have:=run_load_one (P:=P) ha (w:=w) (a:=⟨b,0,none⟩) (v:=x.den) (by
     simp [World.cell?,hg,hc])
    rw [show (SV.a (SA.c (SC.ptr id b 0))).den=.pointer (some ⟨b,0,none⟩) from rfl,SA.den]
    simp only [Instr.loadAt,Instr.sureAddr,Sem.run_bind,Sem.run_pure,Result.andThen_ok,this]
   ·exact h.elim
  ·exact h.elim
 ·rename_i id ao s i c
  split at h
  ·rename_i r hid
   obtain ⟨rfl,hi,h⟩:=h
   split at h
   ·rename_i hs
    have hs':=Nat.eq_of_beq_eq_true hs
    subst hs'
    split at h
    ·rename_i ha
     split at h
     ·rename_i z hz
      split at h
      ·rename_i hle
       refine ⟨_,h,fun w hw=>?_⟩
       have hle':=Nat.le_of_ble_eq_true hle
       obtain ⟨b,off,hao,_,hc⟩:=Row.read (show r.sat w from hw id _ hid) hi
       have:=run_load_agg (P:=P) hz ha (w:=w) (b:=b) (off:=off+(i*r.s+c)) (l:=(((r.fld.drop c).take z).map (· i)).map SC.den) (by simp;omega) (fun j v hv=>by
        have hj:j<z:=by
         rcases Nat.lt_or_ge j z with hj | hj
         ·exact hj
         ·rw [List.getElem?_eq_none (by simp;omega)] at hv;cases hv
        simp [hj] at hv
        obtain ⟨g,hg,rfl⟩:=hv
        rw [← hc (c+j) g hg]
        congr 2
        omega)
       simp only [Instr.loadAt,SV.den,SA.den,SC.den,rptr_some hao,Instr.sureAddr,Sem.run_bind,Sem.run_pure,Result.andThen_ok,this]
      ·exact h.elim
     ·exact h.elim
    ·rename_i ha
     split at h
     ·rename_i f hf
      refine ⟨_,h,fun w hw=>?_⟩
      obtain ⟨b,off,hao,_,hc⟩:=Row.read (show r.sat w from hw id _ hid) hi
      have:=run_load_one (P:=P) ha (hc c f hf)
      simp only [Instr.loadAt,SV.den,SA.den,SC.den,rptr_some hao,Instr.sureAddr,Sem.run_bind,Sem.run_pure,Result.andThen_ok,this]
     ·exact h.elim
    ·exact h.elim
   ·exact h.elim
  ·rename_i o rs hid
   split at h
   ·rename_i h1 h0 ha
    have e1:=Nat.eq_of_beq_eq_true h1
    have e0:=Nat.eq_of_beq_eq_true h0
    subst e1
    subst e0
    obtain ⟨t',y,so,sc,q,⟨rfl,rfl,hq,hi⟩,h⟩:=h
    refine ⟨_,h,fun w hw=>?_⟩
    have hr:(symRow o t' y so sc q).sat w:=((hw id _ hid).1 _ (symRows_mem hq)).2
    obtain ⟨b,off,hao,_,hc⟩:=Row.read hr (i:=i) hi
    have hao':so q=some ⟨b,off,none⟩:=hao
    have:=run_load_one (P:=P) ha (hc 0 _ rfl)
    simp only [symRow,Nat.mul_one,Nat.add_zero] at this
    simp only [Instr.loadAt,SV.den,SA.den,SC.den,rptr_some hao',Instr.sureAddr,Sem.run_bind,Sem.run_pure,Result.andThen_ok,Nat.mul_one,Nat.add_zero,this]
   ·exact h.elim
  ·exact h.elim
 ·exact h.elim
def fieldOf (P:Program)(s:TypeId)(f:Nat):Option Field :=
 match P.underlying s with
 | some (.struct fs)=>fs[f]?
 | _=>none
def posB:Option Nat→Bool
 | some (_+1)=>true
 | _=>false
theorem posB_ok {o:Option Nat}(h:posB o=true):∃ z,o=some z∧z ≠ 0:=by
 unfold posB at h
 split at h
 ·rename_i n;exact ⟨n+1,rfl,by omega⟩
 ·cases h
def exFieldAddr (P:Program)(s:TypeId)(x:SV)(f:Nat)(ch:List Ch)(k:SC→Prop):Prop :=
 match fieldOf P s f with
 | some fd =>
  match posB (szOf P fd.type) with
  | true =>
   match x with
   | .a (.c (.ptr id b off))=>k (.ptr id b (off+fd.offset))
   | .a (.c (.rptr id ao z i c)) =>
    match ch[id]? with
    | some (.row r)=>ao=r.ao∧ltN i r.n∧k (.rptr id ao z i (c+fd.offset))
    | _=>False
   | _=>False
  | false=>False
 | none=>False
theorem run_fieldAt {P:Program}{s:TypeId}{f:Nat}{fd:Field}(h:fieldOf P s f=some fd)(hz:posB (szOf P fd.type)=true)(b off:Nat)(w:World) :
  (Instr.fieldAt s (.pointer (some ⟨b,off,none⟩)) f).run P w=.ok (.pointer (some ⟨b,off+fd.offset,none⟩)) w:=by
 unfold fieldOf at h
 split at h
 ·rename_i fs hu
  obtain ⟨z,hz1,hz2⟩:=posB_ok hz
  simp only [Instr.fieldAt,Sem.run_bind,run_underlying hu,Result.andThen_ok,h,Instr.sureAddr,Sem.run_pure,fieldPlace,run_sizeOf' hz1,if_neg hz2,add_add]
 ·cases h
theorem exFieldAddr_ok {P:Program}{s:TypeId}{x:SV}{f:Nat}{ch:List Ch}{k:SC→Prop}(h:exFieldAddr P s x f ch k) :
  ∃ v,k v∧∀ w0,Sat ch w0→∀ w,(Instr.fieldAt s x.den f).run P w=.ok v.den w:=by
 unfold exFieldAddr at h
 split at h
 ·rename_i fd hfd
  split at h
  ·rename_i hz
   split at h
   ·rename_i id b off
    exact ⟨_,h,fun _ _ w=>run_fieldAt hfd hz b off w⟩
   ·rename_i id ao z i c
    split at h
    ·rename_i r hid
     obtain ⟨rfl,hi,h⟩:=h
     refine ⟨_,h,fun w0 hw w=>?_⟩
     obtain ⟨b,off,hao,_⟩:=Row.read (show r.sat w0 from hw id _ hid) hi
     simp only [SV.den,SA.den,SC.den,rptr_some hao]
     rw [run_fieldAt hfd hz,Nat.add_assoc,Nat.add_assoc]
    ·exact h.elim
   ·exact h.elim
  ·exact h.elim
 ·exact h.elim
def exField (P:Program)(t:TypeId)(x:SV)(f:Nat)(k:SA→Prop):Prop :=
 match fieldOf P t f with
 | some fd =>
  match x with
  | .a (.agg xs) =>
   match aggOf P fd.type with
   | some true =>
    match szOf P fd.type with
    | some z=>k (.agg ((xs.drop fd.offset).take z))
    | none=>False
   | some false =>
    match xs[fd.offset]? with
    | some y=>k (.c y)
    | none=>False
   | none=>False
  | _=>False
 | none=>False
theorem exField_ok {P:Program}{t:TypeId}{x:SV}{f:Nat}{k:SA→Prop}(h:exField P t x f k) :
  ∃ v,k v∧∀ w:World,(Instr.field t x.den f).run P w=.ok v.den w:=by
 unfold exField at h
 split at h
 ·rename_i fd hfd
  have hfd':=hfd
  unfold fieldOf at hfd
  split at hfd
  ·rename_i fs hu
   split at h
   ·rename_i xs
    split at h
    ·rename_i ha
     split at h
     ·rename_i z hz
      refine ⟨_,h,fun w=>?_⟩
      simp only [Instr.field,SV.den,SA.den,Sem.run_bind,run_underlying hu,Result.andThen_ok,hfd,asAgg,Sem.run_pure,part,run_isAgg' ha,if_true,run_sizeOf' hz]
      congr 2
      apply Array.ext'
      simp [List.map_take,List.map_drop,List.take_drop]
     ·exact h.elim
    ·rename_i ha
     split at h
     ·rename_i y hy
      refine ⟨_,h,fun w=>?_⟩
      simp [Instr.field,SV.den,SA.den,Sem.run_bind,run_underlying hu,Result.andThen_ok,hfd,asAgg,Sem.run_pure,part,run_isAgg' ha,hy]
     ·exact h.elim
    ·exact h.elim
   ·exact h.elim
  ·cases hfd
 ·exact h.elim
def asI:SC→Option Int
 | .il n=>some n
 | .int n=>some n
 | .wi n=>some n
 | _=>none
theorem asI_den {x:SC}{n:Int}(h:asI x=some n):x.den=.int .i64 n:=by
 cases x <;> simp [asI] at h <;> subst h <;> rfl
def inB (z:Int)(n:Nat):Option Nat :=
 match z with
 | .ofNat m=>match Nat.blt m n with | true=>some m | false=>none
 | .negSucc _=>none
theorem inB_ok {z:Int}{n m:Nat}(h:inB z n=some m):z=(m:Int)∧m<n:=by
 unfold inB at h
 split at h
 ·split at h
  ·rename_i q hq
   injection h with h
   subst h
   refine ⟨rfl,?_⟩
   have:=Nat.le_of_ble_eq_true hq
   omega
  ·cases h
 ·cases h
def elemOf' (P:Program)(t:TypeId):Option TypeId :=
 match P.underlying t with
 | some (.slice e)=>some e
 | _=>none
theorem elemOf_ok {P:Program}{t e:TypeId}(h:elemOf' P t=some e):P.underlying t=some (.slice e):=by
 unfold elemOf' at h
 split at h
 ·rename_i e' hu;injection h with h;subst h;exact hu
 ·cases h
def pickAll (p:Nat→Prop):Nat→Prop
 | 0=>True
 | m+1=>p m∧pickAll p m
theorem pickAll_get {p:Nat→Prop}:∀ {n m:Nat},pickAll p n→m<n→p m:=by
 intro n
 induction n with
 | zero=>intro m _ h;omega
 | succ n ih =>
  intro m h hm
  by_cases e:m=n
  ·rw [e];exact h.1
  ·exact ih h.2 (by omega)
def isLit:SC→Bool
 | .il _=>true
 | _=>false
def exIndexAddr (P:Program)(t:TypeId)(x y:SV)(ch:List Ch)(k:SC→Prop):Prop :=
 match elemOf' P t with
 | some e =>
  match szOf P e with
  | some s =>
   match y with
   | .a (.c yc) =>
    match asI yc with
    | some z =>
     match x with
     | .a (.c (.sl id ao n _)) =>
      match ch[id]? with
      | some (.row r)=>ao=r.ao∧n=r.n∧inIdx z n∧k (.rptr id ao s (tn z) 0)
      | some (.obj o rs)=>∃ (t':Nat) (y:CD) (so:Nat→Option Addr) (sc:Nat→Nat) (q:Nat),(rs=symRows o t' y so sc∧ao=so q∧n=y.sn q∧ltN q y.n∧inIdx z n)∧k (.rptr id ao s (tn z) 0)
      | _=>False
     | .a (.c (.slc id b n _)) =>
      match isLit yc with
      | true =>
       match inB z n with
       | some m=>k (.ptr id b (m*s))
       | none=>False
      | false=>inIdx z n∧pickAll (fun m=>z=(m:Int)→k (.ptr id b (m*s))) n
     | _=>False
    | none=>False
   | _=>False
  | none=>False
 | none=>False
theorem run_indexAt {P:Program}{t e:TypeId}(he:P.underlying t=some (.slice e)){s:Nat}(hs:szOf P e=some s)(b off n cap:Nat)(z:Int)(h0:0≤z)(h1:z<(n:Int))(w:World) :
  (Instr.indexAt t (.slice (some ⟨b,off,none⟩) n cap) (.int .i64 z)).run P w=.ok (.pointer (some ⟨b,off+z.toNat*s,none⟩)) w:=by
 simp [Instr.indexAt,asIntOf,run_underlying he,h0,h1,run_sizeOf' hs,add_add]
theorem exIndexAddr_ok {P:Program}{t:TypeId}{x y:SV}{ch:List Ch}{k:SC→Prop}(h:exIndexAddr P t x y ch k) :
  ∃ v,k v∧∀ w0,Sat ch w0→∀ w,(Instr.indexAt t x.den y.den).run P w=.ok v.den w:=by
 unfold exIndexAddr at h
 split at h
 ·rename_i e he
  have hu:=elemOf_ok he
  split at h
  ·rename_i s hs
   split at h
   ·rename_i yc
    split at h
    ·rename_i z hz
     split at h
     ·rename_i id ao n cap
      split at h
      ·rename_i r hid
       obtain ⟨rfl,rfl,⟨h0,h1⟩,h⟩:=h
       refine ⟨_,h,fun w0 hw w=>?_⟩
       obtain ⟨b,off,hao,_⟩:=Row.read (show r.sat w0 from hw id _ hid) (i:=z.toNat) (by omega)
       rw [show (SV.a (.c yc)).den=.int .i64 z from asI_den hz]
       simp only [SV.den,SA.den,SC.den]
       rw [hao,run_indexAt hu hs b off _ _ _ h0 h1]
       simp [add_add]
      ·rename_i o rs hid
       obtain ⟨t',y,so,sc,q,⟨rfl,rfl,rfl,hq,h0,h1⟩,h⟩:=h
       refine ⟨_,h,fun w0 hw w=>?_⟩
       have hr:(symRow o t' y so sc q).sat w0:=((hw id _ hid).1 _ (symRows_mem hq)).2
       obtain ⟨b,off,hao,_⟩:=Row.read hr (i:=z.toNat) (by show z.toNat<y.sn q;omega)
       have hao':so q=some ⟨b,off,none⟩:=hao
       rw [show (SV.a (.c yc)).den=.int .i64 z from asI_den hz]
       simp only [SV.den,SA.den,SC.den]
       rw [hao',run_indexAt hu hs b off _ _ _ h0 h1]
       simp [add_add]
      ·exact h.elim
     ·rename_i id b n cap
      split at h
      ·split at h
       ·rename_i m hm
        refine ⟨_,h,fun w0 hw w=>?_⟩
        obtain ⟨rfl,hlt⟩:=inB_ok hm
        rw [show (SV.a (.c yc)).den=.int .i64 (m:Int) from asI_den hz]
        simp only [SV.den,SA.den,SC.den]
        rw [run_indexAt hu hs b 0 _ _ _ (by omega) (by omega)]
        simp
       ·exact h.elim
      ·obtain ⟨⟨h0,h1⟩,h⟩:=h
       refine ⟨_,pickAll_get (m:=z.toNat) h (by omega) (by omega),fun w0 hw w=>?_⟩
       rw [show (SV.a (.c yc)).den=.int .i64 z from asI_den hz]
       simp only [SV.den,SA.den,SC.den]
       rw [run_indexAt hu hs b 0 _ _ _ h0 h1]
       simp
     ·exact h.elim
    ·exact h.elim
   ·exact h.elim
  ·exact h.elim
 ·exact h.elim
def rng (z:Int):Prop:=-9223372036854775808≤z∧z≤9223372036854775807
theorem wrap_rng {z:Int}(h:rng z):IntKind.i64.wrap z=z:=by
 rw [IntKind.wrap_i64]
 obtain ⟨h1,h2⟩:=h
 omega
def rngB (z:Int):Bool :=
 match z with
 | .ofNat m=>Nat.ble m 9223372036854775807
 | .negSucc m=>Nat.ble m 9223372036854775807
theorem rngB_ok {z:Int}(h:rngB z=true):rng z:=by
 unfold rngB at h
 split at h
 ·have:=Nat.le_of_ble_eq_true h
  refine ⟨?_,?_⟩ <;> simp only [Int.ofNat_eq_natCast] <;> omega
 ·have:=Nat.le_of_ble_eq_true h
  exact ⟨by omega,by omega⟩
def lits:SC→SC→Option (Int × Int)
 | .il a,.il b=>some (a,b)
 | _,_=>none
theorem lits_ok {x y:SC}{a b:Int}(h:lits x y=some (a,b)):x=.il a∧y=.il b:=by
 unfold lits at h
 split at h
 ·injection h with h;injection h with h1 h2;subst h1;subst h2;exact ⟨rfl,rfl⟩
 ·cases h
abbrev iadd (a b:Int):Int:=a+b
abbrev isub (a b:Int):Int:=a-b
abbrev imul (a b:Int):Int:=a*b
abbrev idiv (a b:Int):Int:=a / b
abbrev imod (a b:Int):Int:=a % b
abbrev ieq (a b:Int):Bool:=a == b
abbrev ine (a b:Int):Bool:=a != b
abbrev ilt (a b:Int):Bool:=decide (a<b)
abbrev ile (a b:Int):Bool:=decide (a≤b)
abbrev igt (a b:Int):Bool:=decide (a > b)
abbrev ige (a b:Int):Bool:=decide (a ≥ b)
abbrev beqb (a b:Bool):Bool:=a == b
abbrev bneb (a b:Bool):Bool:=a != b
abbrev bnot (a:Bool):Bool:=!a
abbrev bitsI (op:BinOp)(a b:Int):Int:=bits op .i64 a b
abbrev divC (a b:Int):Prop:=0≤a∧a≤9223372036854775807∧0<b
abbrev byteC (n:Int):Prop:=0≤n∧n≤255
inductive Ar where
 | add | sub | mul
def Ar.f:Ar→Int→Int→Int
 | .add=>iadd
 | .sub=>isub
 | .mul=>imul
def Ar.l:Ar→Int→Int→Int
 | .add=>fun a b=>a+b
 | .sub=>fun a b=>a-b
 | .mul=>fun a b=>a*b
theorem Ar.l_ok (r:Ar)(a b:Int):r.l a b=r.f a b:=by cases r <;> rfl
abbrev wrapI (n:Int):Int:=IntKind.i64.wrap n
def bigL:SC→Bool
 | .il (.ofNat m)=>match Nat.blt 1000000000000000000 m with | true=>Nat.blt m 9000000000000000000 | false=>false
 | .wi _=>true
 | _=>false
def exArith (r:Ar)(x y:SC)(k:SC→Prop):Prop :=
 match lits x y with
 | some (a,b)=>match rngB (r.l a b) with | true=>k (.il (r.l a b)) | false=>k (.int (wrapI (r.l a b)))
 | none =>
  match asI x,asI y with
  | some a,some b =>
   match bigL y with
   | true=>∀ z:Int,z=wrapI (r.f a b)→k (.int z)
   | false=>rng (r.f a b)∧k (.int (r.f a b))
  | _,_=>False
theorem exArith_ok {r:Ar}{x y:SC}{k:SC→Prop}(h:exArith r x y k):∃ a b v,x.den=.int .i64 a∧y.den=.int .i64 b∧v.den=.int .i64 (IntKind.i64.wrap (r.f a b))∧k v:=by
 unfold exArith at h
 split at h
 ·rename_i a b hl
  obtain ⟨rfl,rfl⟩:=lits_ok hl
  split at h
  ·rename_i hr
   exact ⟨a,b,_,rfl,rfl,by rw [← Ar.l_ok,wrap_rng (rngB_ok hr)];rfl,h⟩
  ·exact ⟨a,b,_,rfl,rfl,by rw [← Ar.l_ok];rfl,h⟩
 ·split at h
  ·rename_i a b ha hb
   split at h
   ·exact ⟨a,b,_,asI_den ha,asI_den hb,rfl,h _ rfl⟩
   ·obtain ⟨hr,h⟩:=h
    exact ⟨a,b,_,asI_den ha,asI_den hb,by rw [wrap_rng hr];rfl,h⟩
  ·exact h.elim
def posB' (a b:Int):Bool :=
 match a,b with
 | .ofNat _,.ofNat (_+1)=>true
 | _,_=>false
theorem posB'_ok {a b:Int}(h:posB' a b=true):0≤a∧0<b:=by
 unfold posB' at h
 split at h
 ·refine ⟨?_,?_⟩ <;> simp only [Int.ofNat_eq_natCast] <;> omega
 ·cases h
def exDiv (q:Bool)(x y:SC)(k:SC→Prop):Prop :=
 match lits x y with
 | some (a,b) =>
  match posB' a b,rngB a with
  | true,true=>k (.il (match q with | true=>a / b | false=>a % b))
  | _,_=>False
 | none =>
  match asI x,asI y with
  | some a,some b=>divC a b∧k (.int (match q with | true=>idiv a b | false=>imod a b))
  | _,_=>False
def divOf (q:Bool)(a b:Int):Int:=match q with | true=>a / b | false=>a % b
theorem div_fine {a b:Int}(h0:0≤a)(h1:a≤9223372036854775807)(hb:0<b):IntKind.i64.wrap (a.tdiv b)=a / b∧a.tmod b=a % b:=by
 have e:a.tdiv b=a / b:=Int.tdiv_eq_ediv_of_nonneg h0
 have e2:a.tmod b=a % b:=Int.tmod_eq_emod_of_nonneg h0
 refine ⟨?_,e2⟩
 rw [e,wrap_rng]
 have h2:0≤a / b:=Int.ediv_nonneg h0 (by omega)
 have h3:a / b≤a:=Int.ediv_le_self b h0
 exact ⟨by omega,by omega⟩
theorem exDiv_ok {q:Bool}{x y:SC}{k:SC→Prop}(h:exDiv q x y k):∃ a b v,x.den=.int .i64 a∧y.den=.int .i64 b∧b ≠ 0∧IntKind.i64.wrap (a.tdiv b)=a / b∧a.tmod b=a % b∧v.den=.int .i64 (divOf q a b)∧k v:=by
 unfold exDiv at h
 split at h
 ·rename_i a b hl
  obtain ⟨rfl,rfl⟩:=lits_ok hl
  split at h
  ·rename_i hp hr
   obtain ⟨h0,h1⟩:=posB'_ok hp
   obtain ⟨h2,h3⟩:=div_fine h0 (rngB_ok hr).2 h1
   exact ⟨a,b,_,rfl,rfl,by omega,h2,h3,rfl,h⟩
  ·exact h.elim
 ·split at h
  ·rename_i a b ha hb
   obtain ⟨⟨h0,h1,h2⟩,h⟩:=h
   obtain ⟨h3,h4⟩:=div_fine h0 h1 h2
   exact ⟨a,b,_,asI_den ha,asI_den hb,by omega,h3,h4,rfl,h⟩
  ·exact h.elim
def ieqB (a b:Int):Bool :=
 match a,b with
 | .ofNat m,.ofNat n=>Nat.beq m n
 | .negSucc m,.negSucc n=>Nat.beq m n
 | _,_=>false
theorem ieqB_ok (a b:Int):ieqB a b=(a == b):=by
 cases a <;> cases b <;> simp only [ieqB]
 ·rw [Bool.eq_iff_iff,Nat.beq_eq];simp;omega
 ·rw [Bool.eq_iff_iff];simp
 ·rw [Bool.eq_iff_iff];simp
 ·rw [Bool.eq_iff_iff,Nat.beq_eq];simp
def iltB (a b:Int):Bool :=
 match a,b with
 | .ofNat m,.ofNat n=>Nat.blt m n
 | .negSucc m,.negSucc n=>Nat.blt n m
 | .negSucc _,.ofNat _=>true
 | .ofNat _,.negSucc _=>false
theorem iltB_ok (a b:Int):iltB a b=decide (a<b):=by
 cases a <;> cases b <;> simp only [iltB] <;> rw [Bool.eq_iff_iff] <;> simp [Nat.blt] <;> omega
def asB:SC→Option Bool
 | .lit b=>some b
 | .bool b=>some b
 | _=>none
theorem asB_den {x:SC}{b:Bool}(h:asB x=some b):x.den=.bool b:=by
 cases x <;> simp [asB] at h <;> subst h <;> rfl
inductive Cmp where
 | eq | ne | lt | le | gt | ge
def Cmp.f:Cmp→Int→Int→Bool
 | .eq=>ieq
 | .ne=>ine
 | .lt=>ilt
 | .le=>ile
 | .gt=>igt
 | .ge=>ige
def Cmp.l:Cmp→Int→Int→Bool
 | .eq=>fun a b=>ieqB a b
 | .ne=>fun a b=>!ieqB a b
 | .lt=>fun a b=>iltB a b
 | .le=>fun a b=>!iltB b a
 | .gt=>fun a b=>iltB b a
 | .ge=>fun a b=>!iltB a b
theorem Cmp.l_ok (c:Cmp)(a b:Int):c.l a b=c.f a b:=by
 cases c <;> simp only [Cmp.l,Cmp.f,ieqB_ok,iltB_ok]
 ·rfl
 ·rw [Bool.eq_iff_iff];simp
 ·rw [Bool.eq_iff_iff];simp
def Cmp.op:Cmp→BinOp
 | .eq=>.eql | .ne=>.neq | .lt=>.lss | .le=>.leq | .gt=>.gtr | .ge=>.geq
def exCmp (P:Program)(t:TypeId)(c:Cmp)(x y:SC)(k:SC→Prop):Prop :=
 match lits x y with
 | some (a,b)=>k (.lit (c.l a b))
 | none =>
  match asI x,asI y with
  | some a,some b=>k (.bool (c.f a b))
  | _,_ =>
   match asB x,asB y,P.underlying t with
   | some a,some b,some .bool =>
    match c with
    | .eq=>k (.bool (beqb a b))
    | .ne=>k (.bool (bneb a b))
    | _=>False
   | _,_,_=>False
theorem run_bool_eql {P:Program}{t:TypeId}(h:P.underlying t=some .bool)(a b:Bool)(w:World):(Op.equal t (.bool a) (.bool b)).run P w=.ok (a == b) w:=by
 unfold Op.equal
 rw [show Op.maxDepth=9999+1 from rfl,Op.equalIn]
 simp [run_underlying h]
theorem exCmp_ok {P:Program}{t:TypeId}{c:Cmp}{x y:SC}{k:SC→Prop}(h:exCmp P t c x y k) :
  ∃ v,k v∧∀ (w:World) (p q:Operand),(do eqGuard c.op t p q x.den y.den;binOp c.op t x.den y.den:Sem Value).run P w=.ok v.den w:=by
 unfold exCmp at h
 split at h
 ·rename_i a b hl
  obtain ⟨rfl,rfl⟩:=lits_ok hl
  refine ⟨_,h,fun w p q=>?_⟩
  simp only [SC.den,Cmp.l_ok]
  cases c <;> simp [Cmp.op,Cmp.f,eqGuard,binOp,Op.intCmp]
 ·split at h
  ·rename_i a b ha hb
   refine ⟨_,h,fun w p q=>?_⟩
   rw [asI_den ha,asI_den hb]
   cases c <;> simp [Cmp.op,Cmp.f,eqGuard,binOp,Op.intCmp,SC.den]
  ·split at h
   ·rename_i a b ha hb hu
    split at h
    ·refine ⟨_,h,fun w p q=>?_⟩
     rw [asB_den ha,asB_den hb]
     simp [Cmp.op,eqGuard,binOp,run_bool_eql hu,SC.den]
    ·refine ⟨_,h,fun w p q=>?_⟩
     rw [asB_den ha,asB_den hb]
     simp [Cmp.op,eqGuard,binOp,run_bool_eql hu,SC.den]
     cases a <;> cases b <;> rfl
    ·exact h.elim
   ·exact h.elim
def litN:SC→Option Nat
 | .il (.ofNat m)=>some m
 | _=>none
theorem litN_den {x:SC}{m:Nat}(h:litN x=some m):x.den=.int .i64 (m:Int):=by
 unfold litN at h
 split at h
 ·injection h with h;subst h;rfl
 ·cases h
def natOp (op:BinOp)(m n:Nat):Option Nat :=
 match op with
 | .and=>some (Nat.land m n)
 | .or=>some (Nat.lor m n)
 | .xor=>some (Nat.xor m n)
 | _=>none
theorem wraps_62 (n:Int)(h0:0≤n)(h1:n<2 ^ 62):IntKind.i64.wrap n=n:=by rw [IntKind.wrap_i64];omega
theorem natOp_ok {op:BinOp}{m n q:Nat}(h:natOp op m n=some q)(hm:m<2 ^ 62)(hn:n<2 ^ 62):bits op .i64 (m:Int) (n:Int)=(q:Int):=by
 unfold natOp at h
 split at h
 ·injection h with h;subst h;exact (bits_nat .i64 62 (by decide) wraps_62 m n hm hn).1
 ·injection h with h;subst h;exact (bits_nat .i64 62 (by decide) wraps_62 m n hm hn).2
 ·injection h with h
  subst h
  have ha':m % 2 ^ IntKind.i64.bits=m:=Nat.mod_eq_of_lt (by show m<2 ^ 64;omega)
  have hb':n % 2 ^ IntKind.i64.bits=n:=Nat.mod_eq_of_lt (by show n<2 ^ 64;omega)
  simp only [bits,BitVec.ofInt_natCast,BitVec.toNat_xor,BitVec.toNat_ofNat,ha',hb']
  have hx:Nat.xor m n<2 ^ 62:=Nat.xor_lt_two_pow hm hn
  exact wraps_62 _ (Int.natCast_nonneg _) (by exact_mod_cast hx)
 ·cases h
def exBits (op:BinOp)(x y:SC)(k:SC→Prop):Prop :=
 match litN x,litN y with
 | some m,some n =>
  match Nat.blt m 4611686018427387904,Nat.blt n 4611686018427387904,natOp op m n with
  | true,true,some q=>k (.il (.ofNat q))
  | _,_,_=>k (.int (bitsI op (.ofNat m) (.ofNat n)))
 | _,_ =>
  match asI x,asI y with
  | some a,some b=>k (.int (bitsI op a b))
  | _,_=>False
def natOf:SC→Option Nat
 | .il (.ofNat m)=>some m
 | .ul m=>some m
 | _=>none
theorem natOf_den {y:SC}{m:Nat}(h:natOf y=some m):∃ q:IntKind,y.den=.int q (m:Int):=by
 unfold natOf at h
 split at h
 ·injection h with h;subst h;exact ⟨.i64,rfl⟩
 ·injection h with h;subst h;exact ⟨.u64,rfl⟩
 ·cases h
abbrev shC (n:Int):Prop:=0≤n∧n≤63
abbrev shrI (a n:Int):Int:=a / 2 ^ n.toNat
abbrev shlI (a n:Int):Int:=a*2 ^ n.toNat
def anyI:SC→Option Int
 | .int n=>some n
 | .u64 n=>some n
 | _=>none
theorem anyI_den {y:SC}{n:Int}(h:anyI y=some n):∃ q:IntKind,y.den=.int q n:=by
 cases y <;> simp [anyI] at h <;> subst h
 ·exact ⟨.i64,rfl⟩
 ·exact ⟨.u64,rfl⟩
def exShift (r:Bool)(x y:SC)(k:SC→Prop):Prop :=
 match litN x,natOf y with
 | some a,some m =>
  match Nat.blt m 64,r with
  | true,true=>k (.il (.ofNat (a / 2 ^ m)))
  | true,false =>
   match Nat.blt (a*2 ^ m) 4611686018427387904 with
   | true=>k (.il (.ofNat (a*2 ^ m)))
   | false=>False
  | false,_=>False
 | _,_ =>
  match asI x,natOf y with
  | some a,some m =>
   match Nat.blt m 64,r with
   | true,true=>k (.int (idiv a (2 ^ m)))
   | true,false=>rng (imul a (2 ^ m))∧k (.int (imul a (2 ^ m)))
   | false,_=>False
  | some a,none =>
   match anyI y,r with
   | some n,true=>shC n∧k (.int (shrI a n))
   | some n,false=>shC n∧rng (shlI a n)∧k (.int (shlI a n))
   | none,_=>False
  | none,_=>False
def asU:SC→Option Int
 | .ul m=>some (m:Int)
 | .u64 n=>some n
 | _=>none
theorem asU_den {x:SC}{n:Int}(h:asU x=some n):x.den=.int .u64 n:=by
 cases x <;> simp [asU] at h <;> subst h <;> rfl
abbrev wrapU (n:Int):Int:=IntKind.u64.wrap n
abbrev bitsU (op:BinOp)(a b:Int):Int:=bits op .u64 a b
def exBinU (op:BinOp)(a:Int)(y:SC)(k:SC→Prop):Prop :=
 match op with
 | .shr =>
  match natOf y with
  | some m=>match Nat.blt m 64 with
   | true=>∀ z:Int,z=idiv a (2 ^ m)→k (.u64 z)
   | false=>False
  | none=>False
 | .add=>match asU y with | some b=>∀ z:Int,z=wrapU (iadd a b)→k (.u64 z) | none=>False
 | .and=>match asU y with | some b=>∀ z:Int,z=bitsU .and a b→k (.u64 z) | none=>False
 | .or=>match asU y with | some b=>∀ z:Int,z=bitsU .or a b→k (.u64 z) | none=>False
 | .xor=>match asU y with | some b=>∀ z:Int,z=bitsU .xor a b→k (.u64 z) | none=>False
 | .mul=>match asU y with | some b=>∀ z:Int,z=wrapU (imul a b)→k (.u64 z) | none=>False
 | .gtr=>match asU y with | some b=>k (.bool (igt a b)) | none=>False
 | _=>False
theorem exBinU_ok {P:Program}{op:BinOp}{t:TypeId}{a:Int}{y:SC}{k:SC→Prop}(h:exBinU op a y k) :
  ∃ v,k v∧∀ (w:World) (p q:Operand),(do eqGuard op t p q (.int .u64 a) y.den;binOp op t (.int .u64 a) y.den:Sem Value).run P w=.ok v.den w:=by
 unfold exBinU at h
 split at h
 ·split at h
  ·rename_i m hm
   split at h
   ·rename_i hb
    obtain ⟨q0,hy⟩:=natOf_den hm
    refine ⟨_,h _ rfl,fun w p q=>?_⟩
    rw [hy]
    have hm':m<64:=by have:=Nat.le_of_ble_eq_true hb;omega
    have e:min m 64=m:=by omega
    have e2:a.fdiv (2 ^ m)=a / 2 ^ m:=Int.fdiv_eq_ediv_of_nonneg _ (Int.le_of_lt (Int.pow_pos (by decide)))
    simp [eqGuard,binOp,Op.shift,IntKind.bits,e,e2,SC.den,show ¬ ((m:Int)<0) by omega]
   ·exact h.elim
  ·exact h.elim
 ·split at h
  ·rename_i b hb
   exact ⟨_,h _ rfl,fun w p q=>by rw [asU_den hb];simp [eqGuard,binOp,Op.intArith,SC.den]⟩
  ·exact h.elim
 ·split at h
  ·rename_i b hb
   exact ⟨_,h _ rfl,fun w p q=>by rw [asU_den hb];simp [eqGuard,binOp,Op.intBits,SC.den,bits]⟩
  ·exact h.elim
 ·split at h
  ·rename_i b hb
   exact ⟨_,h _ rfl,fun w p q=>by rw [asU_den hb];simp [eqGuard,binOp,Op.intBits,SC.den,bits]⟩
  ·exact h.elim
 ·split at h
  ·rename_i b hb
   exact ⟨_,h _ rfl,fun w p q=>by rw [asU_den hb];simp [eqGuard,binOp,Op.intBits,SC.den,bits]⟩
  ·exact h.elim
 ·split at h
  ·rename_i b hb
   exact ⟨_,h _ rfl,fun w p q=>by rw [asU_den hb];simp [eqGuard,binOp,Op.intArith,SC.den]⟩
  ·exact h.elim
 ·split at h
  ·rename_i b hb
   exact ⟨_,h,fun w p q=>by rw [asU_den hb];simp [eqGuard,binOp,Op.intCmp,SC.den]⟩
  ·exact h.elim
 ·exact h.elim
def exBinI (P:Program)(op:BinOp)(t:TypeId)(x y:SC)(k:SC→Prop):Prop :=
 match op with
 | .add=>exArith .add x y k
 | .sub=>exArith .sub x y k
 | .mul=>exArith .mul x y k
 | .quo=>exDiv true x y k
 | .rem=>exDiv false x y k
 | .eql=>exCmp P t .eq x y k
 | .neq=>exCmp P t .ne x y k
 | .lss=>exCmp P t .lt x y k
 | .leq=>exCmp P t .le x y k
 | .gtr=>exCmp P t .gt x y k
 | .geq=>exCmp P t .ge x y k
 | .and=>exBits .and x y k
 | .or=>exBits .or x y k
 | .xor=>exBits .xor x y k
 | .shl=>exShift false x y k
 | .shr=>exShift true x y k
 | _=>False
theorem exBits_ok {op:BinOp}{x y:SC}{k:SC→Prop}(h:exBits op x y k):∃ a b v,x.den=.int .i64 a∧y.den=.int .i64 b∧v.den=.int .i64 (bits op .i64 a b)∧k v:=by
 unfold exBits at h
 split at h
 ·rename_i m n hm hn
  split at h
  ·rename_i q h1 h2 h3
   have h1':=Nat.le_of_ble_eq_true h1
   have h2':=Nat.le_of_ble_eq_true h2
   refine ⟨m,n,_,litN_den hm,litN_den hn,?_,h⟩
   rw [natOp_ok h3 (by omega) (by omega)]
   rfl
  ·exact ⟨m,n,_,litN_den hm,litN_den hn,rfl,h⟩
 ·split at h
  ·rename_i a b ha hb;exact ⟨a,b,_,asI_den ha,asI_den hb,rfl,h⟩
  ·exact h.elim
theorem exShift_ok {r:Bool}{x y:SC}{k:SC→Prop}(h:exShift r x y k):∃ (a:Int) (m:Nat) (v:SC),x.den=.int .i64 a∧(∃ q:IntKind,y.den=.int q (m:Int))∧m<64∧(match r with | true=>v.den=.int .i64 (a / 2 ^ m) | false=>v.den=.int .i64 (IntKind.i64.wrap (a*2 ^ m)))∧k v:=by
 unfold exShift at h
 split at h
 ·rename_i a m ha hy
  split at h
  ·rename_i hm _
   exact ⟨a,m,_,litN_den ha,natOf_den hy,by have:=Nat.le_of_ble_eq_true hm;omega,by simp [SC.den],h⟩
  ·rename_i hm _
   split at h
   ·rename_i hl
    have hl':=Nat.le_of_ble_eq_true hl
    refine ⟨a,m,_,litN_den ha,natOf_den hy,by have:=Nat.le_of_ble_eq_true hm;omega,?_,h⟩
    have e:((a:Int)*2 ^ m)=((a*2 ^ m:Nat):Int):=by simp
    show Value.int .i64 ((a*2 ^ m:Nat):Int)=.int .i64 (IntKind.i64.wrap ((a:Int)*2 ^ m))
    rw [e,wrap_rng (z:=((a*2 ^ m:Nat):Int)) ⟨by omega,by omega⟩]
   ·exact h.elim
  ·exact h.elim
 split at h
 ·rename_i a m ha hy
  split at h
  ·rename_i hm _
   exact ⟨a,m,_,asI_den ha,natOf_den hy,by have:=Nat.le_of_ble_eq_true hm;omega,rfl,h⟩
  ·rename_i hm _
   obtain ⟨hr,h⟩:=h
   exact ⟨a,m,_,asI_den ha,natOf_den hy,by have:=Nat.le_of_ble_eq_true hm;omega,by simp only [wrap_rng hr];rfl,h⟩
  ·exact h.elim
 ·rename_i a ha _
  split at h
  ·rename_i n hn _
   obtain ⟨⟨h0,h1⟩,h⟩:=h
   obtain ⟨q,hq⟩:=anyI_den hn
   exact ⟨a,n.toNat,_,asI_den ha,⟨q,by rw [hq,Int.toNat_of_nonneg h0]⟩,by omega,rfl,h⟩
  ·rename_i n hn _
   obtain ⟨⟨h0,h1⟩,hr,h⟩:=h
   obtain ⟨q,hq⟩:=anyI_den hn
   exact ⟨a,n.toNat,_,asI_den ha,⟨q,by rw [hq,Int.toNat_of_nonneg h0]⟩,by omega,by simp only [wrap_rng hr];rfl,h⟩
  ·exact h.elim
 ·exact h.elim
theorem exBinI_ok {P:Program}{op:BinOp}{t:TypeId}{x y:SC}{k:SC→Prop}(h:exBinI P op t x y k) :
  ∃ v,k v∧∀ (w:World) (p q:Operand),(do eqGuard op t p q x.den y.den;binOp op t x.den y.den:Sem Value).run P w=.ok v.den w:=by
 unfold exBinI at h
 split at h
 ·obtain ⟨a,b,v,h1,h2,h3,h⟩:=exArith_ok h
  exact ⟨v,h,fun w p q=>by rw [h1,h2,h3];simp [eqGuard,binOp,Op.intArith,Ar.f]⟩
 ·obtain ⟨a,b,v,h1,h2,h3,h⟩:=exArith_ok h
  exact ⟨v,h,fun w p q=>by rw [h1,h2,h3];simp [eqGuard,binOp,Op.intArith,Ar.f]⟩
 ·obtain ⟨a,b,v,h1,h2,h3,h⟩:=exArith_ok h
  exact ⟨v,h,fun w p q=>by rw [h1,h2,h3];simp [eqGuard,binOp,Op.intArith,Ar.f]⟩
 ·obtain ⟨a,b,v,h1,h2,hb,h3,h4,h5,h⟩:=exDiv_ok h
  exact ⟨v,h,fun w p q=>by rw [h1,h2,h5];simp [eqGuard,binOp,Op.intDiv,hb,h3,divOf]⟩
 ·obtain ⟨a,b,v,h1,h2,hb,h3,h4,h5,h⟩:=exDiv_ok h
  exact ⟨v,h,fun w p q=>by rw [h1,h2,h5];simp [eqGuard,binOp,Op.intDiv,hb,h4,divOf]⟩
 ·exact exCmp_ok h
 ·exact exCmp_ok h
 ·exact exCmp_ok h
 ·exact exCmp_ok h
 ·exact exCmp_ok h
 ·exact exCmp_ok h
 ·obtain ⟨a,b,v,h1,h2,h3,h⟩:=exBits_ok h
  exact ⟨v,h,fun w p q=>by rw [h1,h2,h3];simp [eqGuard,binOp,Op.intBits,SC.den,bits]⟩
 ·obtain ⟨a,b,v,h1,h2,h3,h⟩:=exBits_ok h
  exact ⟨v,h,fun w p q=>by rw [h1,h2,h3];simp [eqGuard,binOp,Op.intBits,SC.den,bits]⟩
 ·obtain ⟨a,b,v,h1,h2,h3,h⟩:=exBits_ok h
  exact ⟨v,h,fun w p q=>by rw [h1,h2,h3];simp [eqGuard,binOp,Op.intBits,SC.den,bits]⟩
 ·obtain ⟨a,m,v,h1,⟨q0,h2⟩,hm,h3,h⟩:=exShift_ok h
  refine ⟨v,h,fun w p q=>?_⟩
  rw [h1,h2,h3]
  have e:min m 64=m:=by omega
  simp [eqGuard,binOp,Op.shift,IntKind.bits,e,show ¬ ((m:Int)<0) by omega]
 ·obtain ⟨a,m,v,h1,⟨q0,h2⟩,hm,h3,h⟩:=exShift_ok h
  refine ⟨v,h,fun w p q=>?_⟩
  rw [h1,h2,h3]
  have e:min m 64=m:=by omega
  have e2:a.fdiv (2 ^ m)=a / 2 ^ m:=Int.fdiv_eq_ediv_of_nonneg _ (Int.le_of_lt (Int.pow_pos (by decide)))
  simp [eqGuard,binOp,Op.shift,IntKind.bits,e,e2,show ¬ ((m:Int)<0) by omega]
 ·exact h.elim
def nilCmp (op:BinOp)(x y:SC):Option Bool :=
 match op,x,y with
 | .eql,.slc _ _ _ _,.nil=>some false
 | .neq,.slc _ _ _ _,.nil=>some true
 | .eql,.nil,.nil=>some true
 | .neq,.nil,.nil=>some false
 | _,_,_=>none
theorem run_eql_slice_nil' {P:Program}{t e:TypeId}(h:P.underlying t=some (.slice e))(w:World)(a:Option Addr)(n c:Nat):(binOp .eql t (.slice a n c) (.slice none 0 0)).run P w=.ok (.bool a.isNone) w:=by
 simp only [binOp]
 simp [run_equal_slice_nil w t e a n c h]
theorem nilCmp_ok {P:Program}{op:BinOp}{t e:TypeId}{x y:SC}{b:Bool}(h:nilCmp op x y=some b)(he:P.underlying t=some (.slice e))(w:World)(p q:Operand):(do eqGuard op t p q x.den y.den;binOp op t x.den y.den:Sem Value).run P w=.ok (.bool b) w:=by
 unfold nilCmp at h
 split at h
 ·injection h with h;subst h;simp [eqGuard,SC.den,run_eql_slice_nil' he]
 ·injection h with h;subst h;simp [eqGuard,SC.den,run_neq_slice_nil w t e _ _ _ he]
 ·injection h with h;subst h;simp [eqGuard,SC.den,run_eql_slice_nil' he]
 ·injection h with h;subst h;simp [eqGuard,SC.den,run_neq_slice_nil w t e _ _ _ he]
 ·cases h
def exBin (P:Program)(op:BinOp)(t:TypeId)(x y:SC)(k:SC→Prop):Prop :=
 match nilCmp op x y,elemOf' P t with
 | some b,some _=>k (.lit b)
 | _,_ =>
  match asU x with
  | some a=>exBinU op a y k
  | none=>exBinI P op t x y k
theorem exBin_ok {P:Program}{op:BinOp}{t:TypeId}{x y:SC}{k:SC→Prop}(h:exBin P op t x y k) :
  ∃ v,k v∧∀ (w:World) (p q:Operand),(do eqGuard op t p q x.den y.den;binOp op t x.den y.den:Sem Value).run P w=.ok v.den w:=by
 unfold exBin at h
 split at h
 ·rename_i b e hn he
  exact ⟨_,h,fun w p q=>nilCmp_ok hn (elemOf_ok he) w p q⟩
 ·split at h
  ·rename_i a ha
   rw [asU_den ha]
   exact exBinU_ok h
  ·exact exBinI_ok h
def exUn (op:UnOp)(x:SC)(k:SC→Prop):Prop :=
 match op with
 | .not =>
  match x with
  | .lit b=>k (.lit (!b))
  | .bool b=>k (.bool (bnot b))
  | _=>False
 | .neg=>exArith .sub (.il 0) x k
 | _=>False
theorem exUn_ok {op:UnOp}{x:SC}{k:SC→Prop}(h:exUn op x k):∃ v,k v∧∀ (P:Program) (w:World),(Op.unary op x.den).run P w=.ok v.den w:=by
 unfold exUn at h
 split at h
 ·split at h
  ·exact ⟨_,h,fun P w=>rfl⟩
  ·exact ⟨_,h,fun P w=>rfl⟩
  ·exact h.elim
 ·obtain ⟨a,b,v,h1,h2,h3,h⟩:=exArith_ok h
  have ha:a=0:=by injection h1 with _ h1;exact h1.symm
  subst ha
  exact ⟨v,h,fun P w=>by rw [h2,h3];simp [Op.unary,Op.intArith,Ar.f]⟩
 ·exact h.elim
def exConv (P:Program)(src dst:TypeId)(x:SC)(k:SC→Prop):Prop :=
 match P.underlying src,P.underlying dst with
 | some _,some (.int .i64) =>
  match x with
  | .il n=>match rngB n with | true=>k (.il n) | false=>False
  | .int n=>rng n∧k (.int n)
  | .u8 n=>rng n∧k (.int n)
  | .u64 n=>k (.int (wrapI n))
  | _=>False
 | some _,some (.int .u64) =>
  match x with
  | .il (.ofNat m)=>match Nat.ble m 9223372036854775807 with | true=>k (.ul m) | false=>False
  | .ul m=>match Nat.ble m 9223372036854775807 with | true=>k (.ul m) | false=>False
  | .int n=>k (.u64 (wrapU n))
  | .u64 n=>k (.u64 (wrapU n))
  | _=>False
 | some _,some (.int .u8) =>
  match asI x with
  | some n=>byteC n∧k (.u8 n)
  | none=>False
 | _,_=>False
theorem exConv_ok {P:Program}{src dst:TypeId}{x:SC}{k:SC→Prop}(h:exConv P src dst x k):∃ v,k v∧∀ (w:World),(convert src dst x.den).run P w=.ok v.den w:=by
 unfold exConv at h
 split at h
 ·rename_i d hs hd
  split at h
  ·split at h
   ·rename_i n hn
    exact ⟨_,h,fun w=>by simp [convert,run_underlying hs,run_underlying hd,SC.den,Conv.intToInt,wrap_rng (rngB_ok hn)]⟩
   ·exact h.elim
  ·obtain ⟨hr,h⟩:=h
   exact ⟨_,h,fun w=>by simp [convert,run_underlying hs,run_underlying hd,SC.den,Conv.intToInt,wrap_rng hr]⟩
  ·obtain ⟨hr,h⟩:=h
   exact ⟨_,h,fun w=>by simp [convert,run_underlying hs,run_underlying hd,SC.den,Conv.intToInt,wrap_rng hr]⟩
  ·exact ⟨_,h,fun w=>by simp [convert,run_underlying hs,run_underlying hd,SC.den,Conv.intToInt]⟩
  ·exact h.elim
 ·rename_i d hs hd
  have wu:∀ m:Nat,m≤9223372036854775807→IntKind.u64.wrap (m:Int)=m:=fun m hm=>by
   simp [IntKind.wrap,IntKind.bits,IntKind.signed];omega
  split at h
  ·rename_i m
   split at h
   ·rename_i hm
    have hw:=wu m (Nat.le_of_ble_eq_true hm)
    exact ⟨_,h,fun w=>by simp [convert,run_underlying hs,run_underlying hd,SC.den,Conv.intToInt,hw]⟩
   ·exact h.elim
  ·rename_i m
   split at h
   ·rename_i hm
    have hw:=wu m (Nat.le_of_ble_eq_true hm)
    exact ⟨_,h,fun w=>by simp [convert,run_underlying hs,run_underlying hd,SC.den,Conv.intToInt,hw]⟩
   ·exact h.elim
  ·exact ⟨_,h,fun w=>by simp [convert,run_underlying hs,run_underlying hd,SC.den,Conv.intToInt]⟩
  ·exact ⟨_,h,fun w=>by simp [convert,run_underlying hs,run_underlying hd,SC.den,Conv.intToInt]⟩
  ·exact h.elim
 ·rename_i d hs hd
  split at h
  ·rename_i n hn
   obtain ⟨hr,h⟩:=h
   refine ⟨_,h,fun w=>?_⟩
   rw [asI_den hn]
   have:IntKind.u8.wrap n=n:=by simp [IntKind.wrap,IntKind.bits,IntKind.signed];omega
   simp [convert,run_underlying hs,run_underlying hd,SC.den,Conv.intToInt,this]
  ·exact h.elim
 ·exact h.elim
def setL {α:Type}(l:List α)(o:Nat):List α→List α
 | []=>l
 | v::vs=>setL (l.set o v) (o+1) vs
theorem setL_len {α:Type}(vs:List α):∀ (l:List α) (o:Nat),(setL l o vs).length=l.length:=by
 induction vs with
 | nil=>intro l o;rfl
 | cons v vs ih=>intro l o;simp [setL,ih]
theorem setL_map {α β:Type}(f:α→β)(vs:List α):∀ (l:List α) (o:Nat),(setL l o vs).map f=setL (l.map f) o (vs.map f):=by
 induction vs with
 | nil=>intro l o;rfl
 | cons v vs ih=>intro l o;simp [setL,ih,List.map_set]
theorem setL_take {α:Type}(vs:List α):∀ (l:List α) (o:Nat),o+vs.length≤l.length→setL l o vs=l.take o ++ vs ++ l.drop (o+vs.length):=by
 induction vs with
 | nil=>intro l o _;simp [setL]
 | cons v vs ih =>
  intro l o h
  simp only [List.length_cons] at h
  rw [setL,ih _ _ (by simp;omega)]
  have h1:(l.set o v).take (o+1)=l.take o ++ [v]:=by
   rw [List.take_succ_eq_append_getElem (by simp;omega),List.take_set_of_le (Nat.le_refl _)]
   simp
  have h2:(l.set o v).drop (o+1+vs.length)=l.drop (o+(vs.length+1)):=by
   rw [List.drop_set_of_lt (by omega)]
   congr 1
   omega
  rw [h1,h2]
  simp
theorem fold_setL (vs:List Value):∀ (n:Nat) (cs:Array Value) (off:Nat),((vs.zipIdx n).foldl (fun cs (p:Value × Nat)=>cs.setIfInBounds (off+p.2) p.1) cs).toList=setL cs.toList (off+n) vs:=by
 induction vs with
 | nil=>intro n cs off;simp [setL]
 | cons v vs ih =>
  intro n cs off
  have h:=ih (n+1) (cs.setIfInBounds (off+n) v) off
  simp only [List.zipIdx_cons,List.foldl_cons,setL]
  rw [h]
  simp [Nat.add_assoc]
theorem fold_set (vs:Array Value)(cs:Array Value)(off:Nat):(vs.zipIdx.foldl (fun cs (p:Value × Nat)=>cs.setIfInBounds (off+p.2) p.1) cs).toList=setL cs.toList off vs.toList:=by
 rw [← Array.foldl_toList,Array.toList_zipIdx,fold_setL]
 rfl
def layParts:List (Nat × Nat × List SC)→List SC→Option (List SC)
 | [],cs=>some cs
 | (off,size,vs)::rest,cs =>
  match Nat.beq vs.length size,Nat.ble (off+size) cs.length with
  | true,true=>layParts rest (setL cs off vs)
  | _,_=>none
theorem fill_ok (place:Nat→Option (Nat × Nat)):∀ (ps:List (Nat × SA)) (qs:List (Nat × Nat × List SC)) (cs out:List SC),
  (∀ p∈ps,p.2.one=true)→ps.map (fun p=>(place p.1).map (fun q=>(q.1,q.2,p.2.cells)))=qs.map some→layParts qs cs=some out →
  Instr.fill place (cs.map SC.den).toArray (ps.map fun p=>(p.1,p.2.den))=some (out.map SC.den).toArray:=by
 intro ps
 induction ps with
 | nil =>
  intro qs cs out _ hm h
  cases qs with
  | nil=>simp [layParts] at h;subst h;rfl
  | cons q qs=>simp at hm
 | cons p ps ih =>
  intro qs cs out h1 hm h
  cases qs with
  | nil=>simp at hm
  | cons q qs =>
   simp only [List.map_cons,List.cons.injEq] at hm
   obtain ⟨hp,hm⟩:=hm
   cases hpl:place p.1 with
   | none=>simp [hpl] at hp
   | some pl =>
    simp only [hpl,Option.map_some,Option.some.injEq] at hp
    subst hp
    simp only [layParts] at h
    split at h
    ·rename_i hs hl
     have hs':=Nat.eq_of_beq_eq_true hs
     have hl':=Nat.le_of_ble_eq_true hl
     have hc:=SA.cells_den (h1 p (by simp))
     have hcs:p.2.den.cells.size=pl.2:=by rw [← Array.length_toList,hc,List.length_map,hs']
     simp only [List.map_cons,Instr.fill,hpl,hcs]
     rw [if_neg (by simp;omega)]
     have hf:=fold_set p.2.den.cells (cs.map SC.den).toArray pl.1
     have:=ih qs (setL cs pl.1 p.2.cells) out (fun q hq=>h1 q (by simp [hq])) hm h
     rw [← this]
     congr 1
     apply Array.ext'
     rw [hf,hc,setL_map]
    ·cases h
def zeroOf (P:Program)(t:TypeId):Option (List SC):=((P.info? t).bind (·.zero)).map fun z=>z.cells.toList.map ofC
theorem run_zero' {P:Program}{t:TypeId}{zs:List SC}(h:zeroOf P t=some zs):∃ z:Value,(∀ w,(zeroValue t).run P w=.ok z w)∧z.cells.toList=zs.map SC.den∧∃ i,P.info? t=some i∧i.zero=some z:=by
 unfold zeroOf at h
 cases hi:P.info? t with
 | none=>simp [hi] at h
 | some i =>
  cases hz:i.zero with
  | none=>simp [hi,hz] at h
  | some z =>
   simp only [hi,Option.bind_some,hz,Option.map_some,Option.some.injEq] at h
   subst h
   refine ⟨z,fun w=>by simp [zeroValue,typeInfo,hi,hz],by simp [Function.comp_def,ofC_den],i,rfl,hz⟩
def fieldsOf (P:Program)(t:TypeId):Option (List Field) :=
 match P.underlying t with
 | some (.struct fs)=>some fs.toList
 | _=>none
theorem fieldsOf_ok {P:Program}{t:TypeId}{fs:List Field}(h:fieldsOf P t=some fs):P.underlying t=some (.struct fs.toArray):=by
 unfold fieldsOf at h
 split at h
 ·rename_i gs hu;injection h with h;subst h;rw [hu]
 ·cases h
def partsOf (P:Program)(fs:List Field)(ts:List SV):List (Nat × Operand)→Option (List (Nat × Nat × List SC))
 | []=>some []
 | (i,x)::rest =>
  match fs[i]?,ev ts x,partsOf P fs ts rest with
  | some f,.a v,some qs =>
   match v.one,szOf P f.type with
   | true,some z=>some ((f.offset,z,v.cells)::qs)
   | _,_=>none
  | _,_,_=>none
def partsAt (s:Nat)(ts:List SV):List (Nat × Operand)→Option (List (Nat × Nat × List SC))
 | []=>some []
 | (i,x)::rest =>
  match ev ts x,partsAt s ts rest with
  | .a v,some qs =>
   match v.one with
   | true=>some ((i*s,s,v.cells)::qs)
   | _=>none
  | _,_=>none
def svs (ts:List SV)(ps:List (Nat × Operand)):List (Nat × SA):=ps.map fun p=>(p.1,match ev ts p.2 with | .a v=>v | _=>.agg [])
theorem partsOf_ok {P:Program}{fs:List Field}{ts:List SV}{pl:Nat→Option (Nat × Nat)}(hpl:∀ (i:Nat) f z,fs[i]?=some f→szOf P f.type=some z→pl i=some (f.offset,z)) :
  ∀ (ps:List (Nat × Operand)) (qs:List (Nat × Nat × List SC)),partsOf P fs ts ps=some qs →
   (∀ p∈svs ts ps,p.2.one=true)∧(svs ts ps).map (fun p=>(pl p.1).map (fun q=>(q.1,q.2,p.2.cells)))=qs.map some∧(∀ p∈ps,(ev ts p.2).den=(match ev ts p.2 with | .a v=>v | _=>SA.agg []).den):=by
 intro ps
 induction ps with
 | nil=>intro qs h;simp only [partsOf,Option.some.injEq] at h;subst h;simp [svs]
 | cons p ps ih =>
  obtain ⟨i,x⟩:=p
  intro qs h
  simp only [partsOf] at h
  split at h
  ·rename_i f v qs' hf hx hqs
   split at h
   ·rename_i z ho hz
    injection h with h
    subst h
    obtain ⟨h1,h2,h3⟩:=ih qs' hqs
    refine ⟨fun q hq=>?_,?_,fun q hq=>?_⟩
    ·simp only [svs,List.map_cons,List.mem_cons] at hq
     rcases hq with rfl | hq
     ·simp only [hx];exact ho
     ·exact h1 q hq
    ·simp only [svs,List.map_cons] at h2 ⊢
     rw [h2]
     simp [hx,hpl i f z hf hz]
    ·simp only [List.mem_cons] at hq
     rcases hq with rfl | hq
     ·simp only [hx,SV.den]
     ·exact h3 q hq
   ·cases h
  ·cases h
theorem partsAt_ok {s:Nat}{ts:List SV} :
  ∀ (ps:List (Nat × Operand)) (qs:List (Nat × Nat × List SC)),partsAt s ts ps=some qs →
   (∀ p∈svs ts ps,p.2.one=true)∧(svs ts ps).map (fun p=>((fun i=>some (i*s,s):Nat→Option (Nat × Nat)) p.1).map (fun q=>(q.1,q.2,p.2.cells)))=qs.map some∧(∀ p∈ps,(ev ts p.2).den=(match ev ts p.2 with | .a v=>v | _=>SA.agg []).den):=by
 intro ps
 induction ps with
 | nil=>intro qs h;simp only [partsAt,Option.some.injEq] at h;subst h;simp [svs]
 | cons p ps ih =>
  obtain ⟨i,x⟩:=p
  intro qs h
  simp only [partsAt] at h
  split at h
  ·rename_i v qs' hx hqs
   split at h
   ·rename_i ho
    injection h with h
    subst h
    obtain ⟨h1,h2,h3⟩:=ih qs' hqs
    refine ⟨fun q hq=>?_,?_,fun q hq=>?_⟩
    ·simp only [svs,List.map_cons,List.mem_cons] at hq
     rcases hq with rfl | hq
     ·simp only [hx];exact ho
     ·exact h1 q hq
    ·simp only [svs,List.map_cons] at h2 ⊢
     rw [h2]
     simp [hx]
    ·simp only [List.mem_cons] at hq
     rcases hq with rfl | hq
     ·simp only [hx,SV.den]
     ·exact h3 q hq
   ·cases h
  ·cases h
theorem svs_map {ts:List SV}{a:Act}(hT:Ts ts a)(ps:List (Nat × Operand))(h:∀ p∈ps,(ev ts p.2).den=(match ev ts p.2 with | .a v=>v | _=>SA.agg []).den) :
  ps.map (fun p=>(p.1,a.eval p.2))=(svs ts ps).map fun p=>(p.1,p.2.den):=by
 simp only [svs,List.map_map]
 refine List.map_congr_left fun p hp=>?_
 simp only [Function.comp_apply,ev_den hT,h p hp]
def exBuild (P:Program)(t:TypeId)(ts:List SV)(ps:List (Nat × Operand))(k:SA→Prop):Prop :=
 match fieldsOf P t,zeroOf P t with
 | some fs,some zs =>
  match partsOf P fs ts ps with
  | some qs =>
   match layParts qs zs with
   | some out=>k (.agg out)
   | none=>False
  | none=>False
 | _,_=>False
theorem mapM_sizes {P:Program}(w:World):∀ (fs:List Field),(∀ f∈fs,∃ z,szOf P f.type=some z) →
  (fs.mapM fun f=>do pure (f.offset,← sizeOf f.type):Sem (List (Nat × Nat))).run P w=.ok (fs.map fun f=>(f.offset,(szOf P f.type).getD 0)) w:=by
 intro fs
 induction fs with
 | nil=>intro _;rfl
 | cons f fs ih =>
  intro h
  obtain ⟨z,hz⟩:=h f (by simp)
  have hz':=run_sizeOf' hz w
  have h':=ih fun g hg=>h g (by simp [hg])
  simp only [List.mapM_cons,Sem.run_bind,hz',Result.andThen_ok,Sem.run_pure,h',List.map_cons,hz,Option.getD_some]
def allSz (P:Program)(fs:List Field):Bool:=fs.all fun f=>(szOf P f.type).isSome
def exBuild' (P:Program)(t:TypeId)(ts:List SV)(ps:List (Nat × Operand))(k:SA→Prop):Prop :=
 match fieldsOf P t with
 | some fs =>
  match allSz P fs with
  | true=>exBuild P t ts ps k
  | false=>False
 | none=>False
theorem exBuild_ok {P:Program}{t:TypeId}{ts:List SV}{ps:Array (Nat × Operand)}{k:SA→Prop}(h:exBuild' P t ts ps.toList k) :
  ∃ v,k v∧∀ (a:Act),Ts ts a→∀ w:World,(Instr.build t (ps.map fun p=>(p.1,a.eval p.2))).run P w=.ok v.den w:=by
 unfold exBuild' at h
 split at h
 ·rename_i fs hfs
  split at h
  ·rename_i hall
   unfold exBuild at h
   split at h
   ·rename_i fs' zs hfs' hzs
    rw [hfs] at hfs'
    injection hfs' with hfs'
    subst hfs'
    split at h
    ·rename_i qs hqs
     split at h
     ·rename_i out hout
      refine ⟨_,h,fun a hT w=>?_⟩
      obtain ⟨z,hz,hzc,_⟩:=run_zero' hzs
      have hsz:∀ f∈fs,∃ z,szOf P f.type=some z:=fun f hf=>Option.isSome_iff_exists.1 (List.all_eq_true.1 hall f hf)
      have hplace:∀ (i:Nat) f z,fs[i]?=some f→szOf P f.type=some z→(fs.map fun f=>(f.offset,(szOf P f.type).getD 0)).toArray[i]?=some (f.offset,z):=fun i f z hf hz=>by
       simp [hf,hz]
      obtain ⟨h1,h2,h3⟩:=partsOf_ok hplace ps.toList qs hqs
      have hfill:=fill_ok _ (svs ts ps.toList) qs zs out h1 h2 hout
      have hzc':z.cells=(zs.map SC.den).toArray:=by rw [← hzc]
      have hm:=mapM_sizes (P:=P) w fs hsz
      have hps:(Array.map (fun p=>(p.1,a.eval p.2)) ps).toList=(svs ts ps.toList).map fun p=>(p.1,p.2.den):=by
       rw [Array.toList_map];exact svs_map hT _ h3
      simp only [Instr.build,Sem.run_bind,hz w,Result.andThen_ok,run_underlying (fieldsOf_ok hfs)]
      rw [List.mapM_toArray,Sem.run_map]
      simp only [hm,Result.andThen_ok,hps,hzc']
      rw [show (fun x=>(List.map (fun f=>(f.offset,(szOf P f.type).getD 0)) fs).toArray[x]?)=(fun x=>(List.map (fun f=>(f.offset,(szOf P f.type).getD 0)) fs).toArray[x]?) from rfl,hfill]
      rfl
     ·exact h.elim
    ·exact h.elim
   ·exact h.elim
  ·exact h.elim
 ·exact h.elim
abbrev andB (a b:Bool):Bool:=a&&b
def eqFs (P:Program)(xs ys:List SC):List Field→Option Bool
 | []=>some true
 | f::fs =>
  match f.name == "_",xs[f.offset]?,ys[f.offset]?,eqFs P xs ys fs with
  | false,some x,some y,some r =>
   match P.underlying f.type,asI x,asI y,asB x,asB y with
   | some (.int .i64),some a,some b,_,_=>some (andB (ieq a b) r)
   | some .bool,_,_,some a,some b=>some (andB (beqb a b) r)
   | _,_,_,_,_=>none
  | _,_,_,_=>none
theorem run_part_one {P:Program}{t:TypeId}(ha:aggOf P t=some false){cs:Array Value}{off:Nat}{v:Value}(h:cs[off]?=some v)(w:World):(part t cs off).run P w=.ok v w:=by
 simp [part,run_isAgg' ha,h]
theorem eqFs_ok {P:Program}{xs ys:List SC}(w:World):∀ (fs:List Field) (r:Bool),eqFs P xs ys fs=some r →
  (Op.eqFields 9999 (xs.map SC.den).toArray (ys.map SC.den).toArray fs).run P w=.ok r w:=by
 intro fs
 induction fs with
 | nil=>intro r h;simp only [eqFs,Option.some.injEq] at h;subst h;rfl
 | cons f fs ih =>
  intro r h
  simp only [eqFs] at h
  split at h
  ·rename_i x y r' hn hx hy hr
   have hne:f.name ≠ "_":=by
    intro e
    rw [e] at hn
    simp at hn
   have gx:((xs.map SC.den).toArray)[f.offset]?=some x.den:=by simp [hx]
   have gy:((ys.map SC.den).toArray)[f.offset]?=some y.den:=by simp [hy]
   split at h
   ·rename_i a b hu ha hb
    injection h with h
    have hag:aggOf P f.type=some false:=by simp [aggOf,hu]
    have he:=run_equalIn_int (P:=P) w 9998 f.type .i64 .i64 a b hu
    simp only [Op.eqFields,if_pos hne,Sem.run_bind,run_part_one hag gx,run_part_one hag gy,Result.andThen_ok,asI_den ha,asI_den hb,he,Sem.run_ite,ih r' hr,Sem.run_pure]
    subst h
    cases hab:(a == b) <;> simp [andB,ieq,hab]
   ·rename_i a b hu ha hb
    injection h with h
    have hag:aggOf P f.type=some false:=by simp [aggOf,hu]
    have he:=run_equalIn_bool' (P:=P) w 9998 f.type a b hu
    simp only [Op.eqFields,if_pos hne,Sem.run_bind,run_part_one hag gx,run_part_one hag gy,Result.andThen_ok,asB_den ha,asB_den hb,he,Sem.run_ite,ih r' hr,Sem.run_pure]
    subst h
    cases hab:(a == b) <;> simp [andB,beqb,hab]
   ·cases h
  ·cases h
def exEqS (P:Program)(op:BinOp)(t:TypeId)(xs ys:List SC)(k:SC→Prop):Prop :=
 match fieldsOf P t,P.eqGuardType P.depth t,P.stoodInHeld t with
 | some fs,false,false =>
  match eqFs P xs ys fs with
  | some r =>
   match op with
   | .eql=>k (.bool r)
   | .neq=>k (.bool (bnot r))
   | _=>False
  | none=>False
 | _,_,_=>False
theorem exEqS_ok {P:Program}{op:BinOp}{t:TypeId}{xs ys:List SC}{k:SC→Prop}(h:exEqS P op t xs ys k) :
  ∃ v,k v∧∀ (w:World) (p q:Operand),(do eqGuard op t p q (SA.agg xs).den (SA.agg ys).den;binOp op t (SA.agg xs).den (SA.agg ys).den:Sem Value).run P w=.ok v.den w:=by
 unfold exEqS at h
 split at h
 ·rename_i fs hfs hg hh
  have hu:=fieldsOf_ok hfs
  have hpf:P.fieldsOf t=fs.toArray:=by simp [Program.fieldsOf,hu]
  have ht:P.underlying t=some (.struct (P.fieldsOf t)):=by rw [hpf];exact hu
  split at h
  ·rename_i r hr
   have he:∀ w:World,(Op.equalIn 10000 t (.agg (xs.map SC.den).toArray) (.agg (ys.map SC.den).toArray)).run P w=.ok r w:=fun w=>by
    have h1:=run_equalIn_agg (P:=P) w 9999 t (xs.map SC.den).toArray (ys.map SC.den).toArray ht hh
    rw [hpf] at h1
    exact h1.trans (eqFs_ok w fs r hr)
   split at h
   ·refine ⟨_,h,fun w p q=>?_⟩
    simp only [SA.den,Sem.run_bind,run_eqGuard_agg w _ t p q _ _ hg,Result.andThen_ok,run_eql_struct,he w]
    rfl
   ·refine ⟨_,h,fun w p q=>?_⟩
    simp only [SA.den,Sem.run_bind,run_eqGuard_agg w _ t p q _ _ hg,Result.andThen_ok,run_neq_struct,he w]
    rfl
   ·exact h.elim
  ·exact h.elim
 ·exact h.elim
def exLen (P:Program)(t:TypeId)(x:SV)(k:SC→Prop):Prop :=
 match elemOf' P t with
 | some _ =>
  match x with
  | .a (.c (.sl _ _ n _))=>k (.int (n:Int))
  | .a (.c (.slc _ _ n _))=>k (.il (n:Int))
  | .a (.c .nil)=>k (.il 0)
  | _=>False
 | none=>False
theorem exLen_ok {P:Program}{t:TypeId}{x:SV}{k:SC→Prop}(h:exLen P t x k):∃ v,k v∧∀ (ty:TypeId) (w:World),(Builtin.len_ #[t] ty #[x.den]).run P w=.ok v.den w:=by
 unfold exLen at h
 split at h
 ·rename_i e he
  have hu:=elemOf_ok he
  split at h
  ·exact ⟨_,h,fun ty w=>by simp [Builtin.len_,run_underlying hu,SV.den,SA.den,SC.den,goInt]⟩
  ·exact ⟨_,h,fun ty w=>by simp [Builtin.len_,run_underlying hu,SV.den,SA.den,SC.den,goInt]⟩
  ·exact ⟨_,h,fun ty w=>by simp [Builtin.len_,run_underlying hu,SV.den,SA.den,SC.den,goInt]⟩
  ·exact h.elim
 ·exact h.elim
def exPick (c a b:SV)(k:SV→Prop):Prop :=
 match c with
 | .a (.c (.lit true))=>k a
 | .a (.c (.lit false))=>k b
 | .a (.c (.bool t))=>(t=true→k a)∧(t=false→k b)
 | _=>False
theorem exPick_ok {c a b:SV}{k:SV→Prop}(h:exPick c a b k):∃ t v,k v∧c.den=.bool t∧v.den=if t then a.den else b.den:=by
 unfold exPick at h
 split at h
 ·exact ⟨true,_,h,rfl,rfl⟩
 ·exact ⟨false,_,h,rfl,rfl⟩
 ·rename_i t
  cases ht:t with
  | true=>exact ⟨true,_,h.1 ht,rfl,rfl⟩
  | false=>exact ⟨false,_,h.2 ht,rfl,rfl⟩
 ·exact h.elim
abbrev minI (a b:Int):Int:=if b<a then b else a
theorem toList_two {α:Type}{a:Array α}{x y:α}(h:a.toList=[x,y]):a=#[x,y]:=by
 rw [← h]
def exCalm (P:Program)(o:Op)(ts:List SV)(ch:List Ch)(k:SV→Prop):Prop :=
 match o with
 | .move x=>k (ev ts x)
 | .assign x=>k (ev ts x)
 | .pick c a b=>exPick (ev ts c) (ev ts a) (ev ts b) k
 | .load t a=>exLoad P t (ev ts a) ch fun v=>k (.a v)
 | .fieldAddr s x f=>exFieldAddr P s (ev ts x) f ch fun v=>k (.a (.c v))
 | .field t x f=>exField P t (ev ts x) f fun v=>k (.a v)
 | .indexAddr t x i=>exIndexAddr P t (ev ts x) (ev ts i) ch fun v=>k (.a (.c v))
 | .binOp op t x y _ =>
  match ev ts x,ev ts y with
  | .a (.c a),.a (.c b)=>exBin P op t a b fun v=>k (.a (.c v))
  | .a (.agg xs),.a (.agg ys)=>exEqS P op t xs ys fun v=>k (.a (.c v))
  | _,_=>False
 | .unOp op _ x =>
  match ev ts x with
  | .a (.c a)=>exUn op a fun v=>k (.a (.c v))
  | _=>False
 | .convert s d x =>
  match ev ts x with
  | .a (.c a)=>exConv P s d a fun v=>k (.a (.c v))
  | _=>False
 | .nilCheck x =>
  match ev ts x with
  | .a (.c (.ptr id b off))=>k (.a (.c (.ptr id b off)))
  | .a (.c (.rptr id ao s i c)) =>
   match ch[id]? with
   | some (.row r)=>(ao=r.ao∧ltN i r.n)∧k (.a (.c (.rptr id ao s i c)))
   | _=>False
  | _=>False
 | .build t ps=>exBuild' P t ts ps.toList fun v=>k (.a v)
 | .extract x i =>
  match ev ts x with
  | .tup vs =>
   match vs[i]? with
   | some v=>k (.a v)
   | none=>False
  | _=>False
 | .call c =>
  match c.callee,c.args.toList,c.argTypes.toList with
  | .builtin .len,[x],[t]=>exLen P t (ev ts x) fun v=>k (.a (.c v))
  | .builtin .min,[x,y],[_,_] =>
   match ev ts x,ev ts y with
   | .a (.c a),.a (.c b) =>
    match asI a,asI b with
    | some m,some n=>k (.a (.c (.int (minI m n))))
    | _,_=>False
   | _,_=>False
  | _,_,_=>False
 | _=>False
theorem den_a (v:SA):(SV.a v).den=v.den:=rfl
theorem den_c (x:SC):(SA.c x).den=x.den:=rfl
theorem toList_one {α:Type}{a:Array α}{x:α}(h:a.toList=[x]):a=#[x]:=by
 rw [← h]
def isLoad:Op→Bool
 | .load _ _=>true
 | _=>false
theorem calm_all {P:Program}{o:Oper}{ts:List SV}{ch:List Ch}{k:SV→Prop}(h:exCalm P o.op ts ch k) :
  ∃ v,k v∧∀ a:Act,Ts ts a→∀ w0,Sat ch w0→∀ w,(isLoad o.op=true→w=w0)→(execOp a.eval o).run P w=.ok (.value v.den) w:=by
 unfold exCalm at h
 split at h
 ·rename_i x hop
  exact ⟨_,h,fun a hT _ _ w _=>by simp only [execOp,hop,Sem.run_pure,ev_den hT]⟩
 ·rename_i x hop
  exact ⟨_,h,fun a hT _ _ w _=>by simp only [execOp,hop,Sem.run_pure,ev_den hT]⟩
 ·rename_i c a b hop
  obtain ⟨t,v,h,h1,h2⟩:=exPick_ok h
  refine ⟨v,h,fun a hT _ _ w _=>?_⟩
  simp only [execOp,hop,ev_den hT,h1,asBool,Sem.run_bind,Sem.run_pure,Result.andThen_ok,h2]
 ·rename_i t x hop
  obtain ⟨v,h,hv⟩:=exLoad_ok h
  exact ⟨_,h,fun a hT w0 hw w hl=>by
   obtain rfl:=hl (by rw [hop];rfl)
   simp only [execOp,hop,ev_den hT,Sem.run_bind,hv w hw,Result.andThen_ok,Sem.run_pure,den_a]⟩
 ·rename_i s x f hop
  obtain ⟨v,h,hv⟩:=exFieldAddr_ok h
  exact ⟨_,h,fun a hT w0 hw w hl=>by simp only [execOp,hop,ev_den hT,Sem.run_bind,hv w0 hw w,Result.andThen_ok,Sem.run_pure,den_a,den_c]⟩
 ·rename_i t x f hop
  obtain ⟨v,h,hv⟩:=exField_ok h
  exact ⟨_,h,fun a hT w0 hw w hl=>by simp only [execOp,hop,ev_den hT,Sem.run_bind,hv w,Result.andThen_ok,Sem.run_pure,den_a]⟩
 ·rename_i t x i hop
  obtain ⟨v,h,hv⟩:=exIndexAddr_ok h
  exact ⟨_,h,fun a hT w0 hw w hl=>by simp only [execOp,hop,ev_den hT,Sem.run_bind,hv w0 hw w,Result.andThen_ok,Sem.run_pure,den_a,den_c]⟩
 ·rename_i op t x y ty hop
  split at h
  ·rename_i p q hp hq
   obtain ⟨v,h,hv⟩:=exBin_ok h
   refine ⟨_,h,fun a hT w0 hw w hl=>?_⟩
   have h1:=hv w x y
   have e1:a.eval x=p.den:=by rw [ev_den hT,hp];rfl
   have e2:a.eval y=q.den:=by rw [ev_den hT,hq];rfl
   simp only [execOp,hop,e1,e2]
   rw [Sem.run_bind,h1]
   rfl
  ·rename_i xs ys hp hq
   obtain ⟨v,h,hv⟩:=exEqS_ok h
   refine ⟨_,h,fun a hT w0 hw w hl=>?_⟩
   have h1:=hv w x y
   have e1:a.eval x=(SA.agg xs).den:=by rw [ev_den hT,hp];rfl
   have e2:a.eval y=(SA.agg ys).den:=by rw [ev_den hT,hq];rfl
   simp only [execOp,hop,e1,e2]
   rw [Sem.run_bind,h1]
   rfl
  ·exact h.elim
 ·rename_i op t x hop
  split at h
  ·rename_i p hp
   obtain ⟨v,h,hv⟩:=exUn_ok h
   refine ⟨_,h,fun a hT w0 hw w hl=>?_⟩
   have e1:a.eval x=p.den:=by rw [ev_den hT,hp];rfl
   simp only [execOp,hop,e1,Sem.run_bind,hv P w,Result.andThen_ok,Sem.run_pure,den_a,den_c]
  ·exact h.elim
 ·rename_i s d x hop
  split at h
  ·rename_i p hp
   obtain ⟨v,h,hv⟩:=exConv_ok h
   refine ⟨_,h,fun a hT w0 hw w hl=>?_⟩
   have e1:a.eval x=p.den:=by rw [ev_den hT,hp];rfl
   simp only [execOp,hop,e1,Sem.run_bind,hv w,Result.andThen_ok,Sem.run_pure,den_a,den_c]
  ·exact h.elim
 ·rename_i x hop
  split at h
  ·rename_i id b off hp
   refine ⟨_,h,fun a hT w0 hw w hl=>?_⟩
   have e1:a.eval x=.pointer (some ⟨b,off,none⟩):=by rw [ev_den hT,hp];rfl
   simp only [execOp,hop,e1,Sem.run_pure]
   rfl
  ·rename_i id ao s i c hp
   split at h
   ·rename_i r hid
    obtain ⟨⟨rfl,hi⟩,h⟩:=h
    refine ⟨_,h,fun a hT w0 hw w hl=>?_⟩
    obtain ⟨b,off,hao,_⟩:=Row.read (show r.sat w0 from hw id _ hid) hi
    have e1:a.eval x=.pointer (some ⟨b,off+(i*s+c),none⟩):=by rw [ev_den hT,hp];simp only [SV.den,SA.den,SC.den,rptr_some hao]
    have e2:(SV.a (.c (.rptr id r.ao s i c))).den=.pointer (some ⟨b,off+(i*s+c),none⟩):=by simp only [SV.den,SA.den,SC.den,rptr_some hao]
    simp only [execOp,hop,e1,Sem.run_pure,e2]
   ·exact h.elim
  ·exact h.elim
 ·rename_i t ps hop
  obtain ⟨v,h,hv⟩:=exBuild_ok h
  refine ⟨_,h,fun a hT w0 hw w hl=>?_⟩
  simp only [execOp,hop,Sem.run_bind,hv a hT w,Result.andThen_ok,Sem.run_pure,den_a]
 ·rename_i x i hop
  split at h
  ·rename_i vs hp
   split at h
   ·rename_i v hv
    refine ⟨_,h,fun a hT w0 hw w hl=>?_⟩
    have e1:a.eval x=.tuple (vs.map SA.den).toArray:=by rw [ev_den hT,hp];rfl
    simp [execOp,hop,e1,Instr.extract,hv,den_a]
   ·exact h.elim
  ·exact h.elim
 ·rename_i c hop
  split at h
  ·rename_i x t hc hargs htys
   obtain ⟨v,h,hv⟩:=exLen_ok h
   refine ⟨_,h,fun a hT w0 hw w hl=>?_⟩
   obtain ⟨cal,args,tys⟩:=c
   simp only at hc hargs htys
   subst hc
   rw [toList_one hargs,toList_one htys] at hop
   simp [execOp,hop,resolve,invoke,builtin,ev_den hT,hv,den_a,den_c]
  ·rename_i x y t1 t2 hc hargs htys
   split at h
   ·rename_i p q hp hq
    split at h
    ·rename_i m n hm hn
     refine ⟨_,h,fun a hT w0 hw w hl=>?_⟩
     obtain ⟨cal,args,tys⟩:=c
     simp only at hc hargs htys
     subst hc
     have e1:a.eval x=.int .i64 m:=by rw [ev_den hT,hp];exact asI_den hm
     have e2:a.eval y=.int .i64 n:=by rw [ev_den hT,hq];exact asI_den hn
     rw [toList_two hargs,toList_two htys] at hop
     simp [execOp,hop,resolve,invoke,builtin,e1,e2,run_min_int2,den_a,den_c,SA.den,SC.den]
    ·exact h.elim
   ·exact h.elim
  ·exact h.elim
 ·exact h.elim
theorem calm_ok {P:Program}{o:Oper}{ts:List SV}{ch:List Ch}{k:SV→Prop}(h:exCalm P o.op ts ch k) :
  ∃ v,k v∧∀ a:Act,Ts ts a→∀ w,Sat ch w→(execOp a.eval o).run P w=.ok (.value v.den) w:=by
 obtain ⟨v,h,hv⟩:=calm_all h
 exact ⟨v,h,fun a hT w hw=>hv a hT w hw w fun _=>rfl⟩
theorem calm_pure {P:Program}{o:Oper}{ts:List SV}{ch:List Ch}{k:SV→Prop}(h:exCalm P o.op ts ch k)(hl:isLoad o.op=false) :
  ∃ v,k v∧∀ a:Act,Ts ts a→∀ w0,Sat ch w0→∀ w,(execOp a.eval o).run P w=.ok (.value v.den) w:=by
 obtain ⟨v,h,hv⟩:=calm_all h
 exact ⟨v,h,fun a hT w0 hw w=>hv a hT w0 hw w fun q=>by rw [hl] at q;cases q⟩
abbrev EK:=SV→List Ch→List Nat→Prop
def EffOk (P:Program)(X:Cx)(o:Oper)(a:Act)(ch:List Ch)(w:World)(k:EK):Prop :=
 (∃ v ch' mods w',(execOp a.eval o).run P w=.ok (.value v.den) w'∧HS X ch' w'∧Agree ch ch' mods∧k v ch' mods) ∨
 (∃ ch' mods w',(execOp a.eval o).run P w=.ok .skip w'∧HS X ch' w'∧Agree ch ch' mods∧k .undef ch' mods) ∨
 (∃ f args,(execOp a.eval o).run P w=.ok (.enter f args) w∧Calls P f args w fun e w'=>∃ v ch' mods,e=.returned v.den∧HS X ch' w'∧Agree ch ch' mods∧k v ch' mods)
theorem EffOk.wp {P:Program}{X:Cx}{o:Oper}{a:Act}{ch:List Ch}{w:World}{k:EK}(h:EffOk P X o a ch w k){next:Act→World→Prop}{Q:Exit→Act→World→Prop}
  (hn:∀ v ch' mods w',HS X ch' w'→Agree ch ch' mods→k v ch' mods→next (a.put o.dst v.den) w'):o.wp P a w next Q:=by
 unfold Oper.wp
 rcases h with ⟨v,ch',mods,w',hr,h1,h2,h3⟩ | ⟨ch',mods,w',hr,h1,h2,h3⟩ | ⟨f,args,hr,hc⟩
 ·rw [hr];exact hn v ch' mods w' h1 h2 h3
 ·rw [hr];exact hn .undef ch' mods w' h1 h2 h3
 ·rw [hr]
  refine Calls.mono hc fun e w' ⟨v,ch',mods,he,h1,h2,h3⟩=>?_
  subst he
  exact hn v ch' mods w' h1 h2 h3
theorem belowAllocW (w:World)(o:Obj):Below w.heap.size w (w.alloc o):=(Below.refl _ _).alloc (Nat.le_refl _) _
theorem HS.alloc {X:Cx}{ch:List Ch}{w:World}(h:HS X ch w)(t:TypeId)(cs:List SC)(vs:Array Value)(hv:vs.toList=cs.map SC.den):HS X (ch ++ [.cells w.heap.size t cs]) (w.alloc (.cells vs t)) :=
 h.add (belowAllocW w _) _ (by show (w.alloc _).heap[w.heap.size]?=_;rw [heap_alloc_new,← hv]) (fun b hb=>by simp only [Ch.at] at hb;omega)
def exAlloc (P:Program)(t:TypeId)(ch:List Ch)(k:EK):Prop :=
 match zeroOf P t with
 | some zs=>∀ b,k (.a (.c (.ptr ch.length b 0))) (ch ++ [.cells b t zs]) []
 | none=>False
def exBox (P:Program)(t:TypeId)(x:SV)(ch:List Ch)(k:EK):Prop :=
 match x with
 | .a (.c (.obj id v)) =>
  match aggOf P t,szOf P t with
  | some g,some z=>wholeC g v z∧∀ b,k (.a (.c (.ptr ch.length b 0))) (ch ++ [.whole b t g z (.obj id v)]) []
  | _,_=>False
 | .a v=>match v.one with
  | true=>∀ b,k (.a (.c (.ptr ch.length b 0))) (ch ++ [.cells b t v.cells]) []
  | false=>False
 | _=>False
theorem exAlloc_ok {P:Program}{X:Cx}{o:Oper}{t:TypeId}{ch:List Ch}{k:EK}(ho:o.op=.alloc t)(h:exAlloc P t ch k){a:Act}{w:World}(hs:HS X ch w):EffOk P X o a ch w k:=by
 unfold exAlloc at h
 split at h
 ·rename_i zs hz
  obtain ⟨z,hz1,hz2,_⟩:=run_zero' hz
  refine .inl ⟨_,_,_,w.alloc (.cells z.cells t),?_,hs.alloc t zs z.cells hz2,Agree.app _ _,h w.heap.size⟩
  simp only [execOp,ho,Instr.alloc,Sem.run_bind,hz1,Result.andThen_ok,newVar,newRow,run_newObj,Sem.run_pure]
  rfl
 ·exact h.elim
theorem exBox_ok {P:Program}{X:Cx}{o:Oper}{t:TypeId}{x:Operand}{ts:List SV}{ch:List Ch}{k:EK}(ho:o.op=.box t x)(h:exBox P t (ev ts x) ch k){a:Act}(hT:Ts ts a){w:World}(hs:HS X ch w):EffOk P X o a ch w k:=by
 unfold exBox at h
 split at h
 ·rename_i id v hx
  split at h
  ·rename_i g z hg hz
   obtain ⟨hw,h⟩:=h
   refine .inl ⟨_,_,_,w.alloc (.cells v.cells t),?_,hs.add (belowAllocW w _) (.whole w.heap.size t g z (.obj id v)) ⟨heap_alloc_new w _,hw⟩ (fun b hb=>by simp only [Ch.at] at hb;omega),Agree.app _ _,h w.heap.size⟩
   have e:a.eval x=v:=by rw [ev_den hT,hx];rfl
   simp only [execOp,ho,e,Instr.box,newVar,newRow,Sem.run_bind,run_newObj,Result.andThen_ok,Sem.run_pure]
   rfl
  ·exact h.elim
 ·rename_i v _ hx
  split at h
  ·rename_i hv
   refine .inl ⟨_,_,_,w.alloc (.cells v.den.cells t),?_,hs.alloc t v.cells v.den.cells (SA.cells_den hv),Agree.app _ _,h w.heap.size⟩
   have e:a.eval x=v.den:=by rw [ev_den hT,hx];rfl
   simp only [execOp,ho,e,Instr.box,newVar,newRow,Sem.run_bind,run_newObj,Result.andThen_ok,Sem.run_pure]
   rfl
  ·exact h.elim
 ·exact h.elim
def modF:List (Nat→SC)→Nat→Nat→SC→List (Nat→SC)
 | [],_,_,_=>[]
 | f::fs,0,i,v=>(fun j=>pk j i v (f j))::fs
 | f::fs,c+1,i,v=>f::modF fs c i v
def setF (fs:List (Nat→SC))(c i:Nat):List SC→List (Nat→SC)
 | []=>fs
 | v::vs=>setF (modF fs c i v) (c+1) i vs
theorem modF_len (i:Nat)(v:SC):∀ (fs:List (Nat→SC)) (c:Nat),(modF fs c i v).length=fs.length:=by
 intro fs
 induction fs with
 | nil=>intro c;rfl
 | cons f fs ih=>intro c;cases c <;> simp [modF,ih]
theorem modF_get (i:Nat)(v:SC):∀ (fs:List (Nat→SC)) (c d:Nat) (g:Nat→SC),(modF fs c i v)[d]?=some g→(d=c∧∃ f,fs[d]?=some f∧g=fun j=>pk j i v (f j))∨(d ≠ c∧fs[d]?=some g):=by
 intro fs
 induction fs with
 | nil=>intro c d g h;simp [modF] at h
 | cons f fs ih =>
  intro c d g h
  cases c with
  | zero =>
   cases d with
   | zero=>simp only [modF,List.getElem?_cons_zero,Option.some.injEq] at h;exact .inl ⟨rfl,f,rfl,h.symm⟩
   | succ d=>exact .inr ⟨by omega,by simpa [modF] using h⟩
  | succ c =>
   cases d with
   | zero=>exact .inr ⟨by omega,by simpa [modF] using h⟩
   | succ d =>
    simp only [modF,List.getElem?_cons_succ] at h
    rcases ih c d g h with ⟨rfl,f',h1,h2⟩ | ⟨h1,h2⟩
    ·exact .inl ⟨rfl,f',by simpa using h1,h2⟩
    ·exact .inr ⟨by omega,by simpa using h2⟩
theorem setF_len (vs:List SC)(i:Nat):∀ (fs:List (Nat→SC)) (c:Nat),(setF fs c i vs).length=fs.length:=by
 induction vs with
 | nil=>intro fs c;rfl
 | cons v vs ih=>intro fs c;simp [setF,ih,modF_len]
def RowCells (cs:Array Value)(s n:Nat)(fs:List (Nat→SC)):Prop:=∀ i,i<n→∀ (c:Nat) (f:Nat→SC),fs[c]?=some f→cs[i*s+c]?=some (f i).den
theorem cell_ne {i j c d s:Nat}(hc:c<s)(hd:d<s)(h:i*s+c=j*s+d):i=j∧c=d:=by
 have h1:(i*s+c) % s=(j*s+d) % s:=by rw [h]
 rw [Nat.mul_add_mod_self_right,Nat.mul_add_mod_self_right,Nat.mod_eq_of_lt hc,Nat.mod_eq_of_lt hd] at h1
 subst h1
 have h2:i*s=j*s:=by omega
 exact ⟨Nat.eq_of_mul_eq_mul_right (by omega) h2,rfl⟩
theorem rowCells_set1 {cs:Array Value}{s n:Nat}{fs:List (Nat→SC)}(h:RowCells cs s n fs)(hl:fs.length=s){i c:Nat}(hi:i*s+c<cs.size)(hc:c<s)(v:SC) :
  RowCells (cs.setIfInBounds (i*s+c) v.den) s n (modF fs c i v):=by
 intro j hj d g hg
 have hd:d<s:=by rw [← hl,← modF_len i v fs c];exact (List.getElem?_eq_some_iff.1 hg).1
 rw [Array.getElem?_setIfInBounds]
 rcases modF_get i v fs c d g hg with ⟨rfl,f,hf,rfl⟩ | ⟨hne,hf⟩
 ·rw [pk_den]
  by_cases e:j=i
  ·subst e
   simp [hi]
  ·rw [if_neg (fun q=>e (cell_ne hc hd q).1.symm),if_neg e]
   exact h j hj d f hf
 ·rw [if_neg (fun q=>hne (cell_ne hc hd q).2.symm)]
  exact h j hj d g hf
theorem rowCells_setL {s n:Nat}{i:Nat}(vs:List SC):∀ (cs:Array Value) (fs:List (Nat→SC)) (c:Nat),RowCells cs s n fs→fs.length=s→i*s+c+vs.length≤cs.size→c+vs.length≤s →
  RowCells (setL cs.toList (i*s+c) (vs.map SC.den)).toArray s n (setF fs c i vs):=by
 induction vs with
 | nil=>intro cs fs c h _ _ _;simpa [setL,setF] using h
 | cons v vs ih =>
  intro cs fs c h hl h1 h2
  simp only [List.length_cons] at h1 h2
  have:=ih (cs.setIfInBounds (i*s+c) v.den) (modF fs c i v) (c+1) (rowCells_set1 h hl (by omega) (by omega) v) (by rw [modF_len,hl]) (by simp;omega) (by omega)
  simpa [setL,setF,Nat.add_assoc] using this
def exStoreO (P:Program)(t:TypeId)(x:SV)(oid:Nat)(v:Value)(ch:List Ch)(k:EK):Prop :=
 match aggOf P t,szOf P t,x with
 | some g,some z,.a (.c (.ptr id b 0)) =>
  match ch[id]? with
  | some (.cells b' ty cs) =>
   match Nat.beq cs.length z with
   | true=>(b=b'∧wholeC g v z)∧k .undef (ch.set id (.whole b' ty g z (.obj oid v))) [id]
   | false=>False
  | some (.whole b' ty g' z' _) =>
   match Nat.beq z' z,g',g with
   | true,true,true=>(b=b'∧wholeC true v z)∧k .undef (ch.set id (.whole b' ty true z (.obj oid v))) [id]
   | true,false,false=>(b=b'∧wholeC false v z)∧k .undef (ch.set id (.whole b' ty false z (.obj oid v))) [id]
   | _,_,_=>False
  | _=>False
 | _,_,_=>False
def exStoreA (P:Program)(t:TypeId)(x y:SV)(ch:List Ch)(k:EK):Prop :=
 match y,szOf P t with
 | .a v,some z =>
  match v.one,Nat.beq v.cells.length z with
  | true,true =>
   match x with
   | .a (.c (.ptr id b off)) =>
    match ch[id]? with
    | some (.cells b' ty cs)=>b=b' ∧
     match Nat.ble (off+z) cs.length with
     | true=>k .undef (ch.set id (.cells b' ty (setL cs off v.cells))) [id]
     | false=>False
    | _=>False
   | .a (.c (.rptr id ao s i c)) =>
    match ch[id]? with
    | some (.row r) =>
     match r.own,Nat.beq s r.s,Nat.ble (c+z) r.s with
     | true,true,true=>ao=r.ao∧ltN i r.n∧k .undef (ch.set id (.row { r with fld:=setF r.fld c i v.cells })) [id]
     | _,_,_=>False
    | some (.obj true rs) =>
     match Nat.beq s 1,Nat.beq c 0,v with
     | true,true,.c xc =>
      match asI xc with
      | some a=>∃ (t':Nat) (y:CD) (so:Nat→Option Addr) (sc:Nat→Nat) (q:Nat),(rs=symRows true t' y so sc∧ao=so q∧ltN q y.n∧ltN i (y.sn q))∧k .undef (ch.set id (.obj true (symRows true t' (setSy y q i a) so sc))) [id]
      | none=>False
     | _,_,_=>False
    | _=>False
   | _=>False
  | _,_=>False
 | _,_=>False
def exStore (P:Program)(t:TypeId)(x y:SV)(ch:List Ch)(k:EK):Prop :=
 match y with
 | .a (.c (.obj oid v))=>exStoreO P t x oid v ch k
 | y=>exStoreA P t x y ch k
theorem run_storeAt {P:Program}{t:TypeId}{z:Nat}(hz:szOf P t=some z){b off:Nat}{ty:TypeId}{cs:Array Value}{w:World}(hg:w.heap[b]?=some (.cells cs ty (0,0))){v:SA}(hv:v.one=true)(hl:v.cells.length=z)(hle:off+z≤cs.size) :
  (Instr.storeAt t (.pointer (some ⟨b,off,none⟩)) v.den).run P w=.ok () (w.setRow b (setL cs.toList off (v.cells.map SC.den)).toArray):=by
 have hc:=SA.cells_den hv
 have hsz:v.den.cells.size=z:=by rw [← Array.length_toList,hc,List.length_map,hl]
 have:=run_storeCells_at P b off ty v.den.cells.toList 0 cs w hg (by rw [hc];simp;omega) (by rw [hc];exact SA.one_all hv)
 simp only [Instr.storeAt,Instr.sureAddr,Sem.run_bind,Sem.run_pure,Result.andThen_ok,storeVar,run_sizeOf' hz,hsz]
 rw [if_neg (by simp),this,hc,Nat.add_zero,setL_take _ _ _ (by simp;omega)]
theorem HS.turnIn {X:Cx}{ch:List Ch}{w w':World}{id g:Nat}{c d:Ch}(h:HS X ch w)(hid:ch[id]?=some c)(ho:c.own=true)(hg:c.at g)
  (hos:w'.os=w.os) (ht:w'.tape=w.tape) (hout:w'.output=w.output) (hsz:w'.heap.size=w.heap.size) (hk:∀ k,k ≠ g→w'.heap[k]?=w.heap[k]?)
  (hd:d.sat w') (hda:∀ b,d.at b→c.at b):HS X (ch.set id d) w' where
 fr:=⟨hos.trans h.fr.os,ht.trans h.fr.tape,hout.trans h.fr.output,by rw [hsz];exact h.fr.size,fun k hk0 hM=>by
  refine (hk k ?_).trans (h.fr.block k hk0 hM)
  rintro rfl
  rcases h.new id c _ hid ho hg with h1 | h1
  ·omega
  ·exact hM h1⟩
 sat:=fun i e he=>by
  rcases get_set he with ⟨rfl,rfl,_⟩ | ⟨hne,he⟩
  ·exact hd
  ·refine Ch.sat_keep (h.sat i e he) (by rw [hsz];exact Nat.le_refl _) (fun b ha=>hk b ?_)
   rintro rfl
   exact h.dis id i c e _ (fun q=>hne q.symm) hid he ho hg ha
 dis:=fun i j ci cj b hij hi hj hoi hai haj=>by
  rcases get_set hi with ⟨rfl,rfl,_⟩ | ⟨hne,hi'⟩
  ·rcases get_set hj with ⟨rfl,_,_⟩ | ⟨hne',hj'⟩
   ·exact hij rfl
   ·exact h.dis i j c cj b hij hid hj' ho (hda b hai) haj
  ·rcases get_set hj with ⟨rfl,rfl,_⟩ | ⟨hne',hj'⟩
   ·exact h.dis i j ci c b hij hi' hid hoi hai (hda b haj)
   ·exact h.dis i j ci cj b hij hi' hj' hoi hai haj
 new:=fun i e b he hoe ha=>by
  rcases get_set he with ⟨rfl,rfl,_⟩ | ⟨_,he⟩
  ·exact h.new _ c b hid ho (hda b ha)
  ·exact h.new i e b he hoe ha
theorem symRow_set_ne {t:Nat}{y:CD}{q i j:Nat}{a:Int}{so:Nat→Option Addr}{sc:Nat→Nat}(h:j ≠ q):symRow true t (setSy y q i a) so sc j=symRow true t y so sc j:=by
 simp only [symRow,setSy,if_neg h]
theorem symRow_at {o:Bool}{t t':Nat}{y z:CD}{so:Nat→Option Addr}{sc sc':Nat→Nat}{j b:Nat}(hn:z.sn j=y.sn j)(h:(symRow o t z so sc j).at b):(symRow o t' y so sc' j).at b:=by
 obtain ⟨h1,h2⟩:=h
 refine ⟨?_,h2⟩
 rcases h1 with h1 | h1
 ·exact .inl h1
 ·right
  have h1':0<z.sn j:=h1
  show 0<y.sn j
  omega
theorem nest_store {w:World}{t:Nat}{y:CD}{so:Nat→Option Addr}{sc:Nat→Nat}(h:Ch.sat w (.obj true (symRows true t y so sc))){q i:Nat}(hq:q<y.n)(hi:i<y.sn q) :
  ∃ b cs,so q=some ⟨b,0,none⟩∧w.heap[b]?=some (.cells cs t (0,0))∧i<cs.size∧(Ch.obj true (symRows true t y so sc)).at b ∧
   ∀ (a:Int),Ch.sat (w.setRow b (setL cs.toList i [.int .i64 a]).toArray) (.obj true (symRows true t (setSy y q i a) so sc)):=by
 have hr:(symRow true t y so sc q).sat w:=(h.1 _ (symRows_mem hq)).2
 rcases hr.2.2 rfl with ⟨_,h0,_⟩ | ⟨b,cs,hao,hg,hn,hcap,hsz,hcell⟩
 ·have:y.sn q=0:=h0
  omega
 ·have hao':so q=some ⟨b,0,none⟩:=hao
  have hsz':cs.size=sc q:=by simpa [symRow] using hsz
  have hn':y.sn q≤sc q:=hn
  have hatq:(symRow true t y so sc q).at b:=⟨.inl rfl,0,hao⟩
  refine ⟨b,cs,hao',hg,by omega,⟨_,symRows_mem hq,hatq⟩,fun a=>?_⟩
  have hd:=h.2 rfl
  have get:∀ (y:CD) (j:Nat) (r:Row),(symRows true t y so sc)[j]?=some r→j<y.n∧r=symRow true t y so sc j:=fun y j r hj=>by
   have hlt:=(List.getElem?_eq_some_iff.1 hj).1
   have hlt':j<y.n:=by simpa [symRows] using hlt
   rw [symRows_get hlt'] at hj
   injection hj with hj
   exact ⟨hlt',hj.symm⟩
  refine ⟨fun r hrm=>?_,fun _ j1 j2 p1 p2 b' hne hj1 hj2 ha1 ha2=>?_⟩
  ·obtain ⟨j,hj,rfl⟩:=List.mem_map.1 hrm
   have hj':j<y.n:=List.mem_range.1 hj
   refine ⟨rfl,?_⟩
   by_cases e:j=q
   ·subst e
    refine ⟨rfl,fun ho=>(by cases ho),fun _=>.inr ⟨b,_,hao,setRow_heap w b cs _ t (0,0) hg,hn,hcap,?_,fun p hp c f hf=>?_⟩⟩
    ·simp only [List.size_toArray,setL_len,Array.length_toList];exact hsz
    ·have hp':p<y.sn j:=hp
     match c with
     | 0 =>
      simp only [symRow,List.getElem?_cons_zero,Option.some.injEq] at hf
      subst hf
      show (setL cs.toList i [Value.int .i64 a]).toArray[p*1+0]?=_
      simp only [Nat.mul_one,Nat.add_zero,List.getElem?_toArray,setL,SC.den,setSy,if_true]
      rw [List.getElem?_set]
      by_cases ep:i=p
      ·subst ep
       rw [if_pos rfl,if_pos (by simpa using (show i<cs.size by omega)),if_pos rfl]
      ·rw [if_neg ep,if_neg (fun q=>ep q.symm)]
       have:=hcell p hp 0 _ rfl
       simp only [symRow,Nat.mul_one,Nat.add_zero] at this
       rw [Array.getElem?_toList]
       exact this
     | c+1=>simp [symRow] at hf
   ·have hrj:(symRow true t y so sc j).sat w:=(h.1 _ (symRows_mem hj')).2
    rw [symRow_set_ne e]
    refine Row.sat_keep hrj (by rw [size_setRow];exact Nat.le_refl _) fun b' ha=>setRow_other _ _ _ _ ?_
    rintro rfl
    exact hd j q _ _ _ e (symRows_get hj') (symRows_get hq) ha hatq
  ·obtain ⟨q1,rfl⟩:=get _ _ _ hj1
   obtain ⟨q2,rfl⟩:=get _ _ _ hj2
   exact hd j1 j2 _ _ b' hne (symRows_get q1) (symRows_get q2) (symRow_at (t:=t) (z:=setSy y q i a) (sc:=sc) rfl ha1) (symRow_at (t:=t) (z:=setSy y q i a) (sc:=sc) rfl ha2)
theorem exStoreA_ok {P:Program}{X:Cx}{o:Oper}{t:TypeId}{x y:Operand}{ts:List SV}{ch:List Ch}{k:EK}(ho:o.op=.store t x y)(h:exStoreA P t (ev ts x) (ev ts y) ch k){a:Act}(hT:Ts ts a){w:World}(hs:HS X ch w):EffOk P X o a ch w k:=by
 unfold exStoreA at h
 split at h
 ·rename_i v z hy hz
  split at h
  ·rename_i hone hlen
   have hlen':=Nat.eq_of_beq_eq_true hlen
   have ey:a.eval y=v.den:=by rw [ev_den hT,hy];rfl
   split at h
   ·rename_i id b off hx
    have ex:a.eval x=.pointer (some ⟨b,off,none⟩):=by rw [ev_den hT,hx];rfl
    split at h
    ·rename_i b' ty cs hid
     obtain ⟨rfl,h⟩:=h
     split at h
     ·rename_i hle
      have hle':=Nat.le_of_ble_eq_true hle
      have hg:w.heap[b]?=some (.cells (cs.map SC.den).toArray ty (0,0)):=hs.sat id _ hid
      have hr:=run_storeAt (P:=P) hz hg hone hlen' (by simp;omega)
      refine .inr (.inl ⟨_,_,w.setRow b (setL (List.map SC.den cs).toArray.toList off (List.map SC.den v.cells)).toArray,?_,hs.turn (g:=b) hid rfl rfl rfl rfl rfl (size_setRow _ _ _) (fun k hk=>setRow_other _ _ _ _ hk) ?_ ?_ ?_,Agree.set _ _ _,h⟩)
      ·simp only [execOp,ho,ex,ey,Sem.run_bind,hr,Result.andThen_ok,Sem.run_pure]
      ·show (w.setRow b _).heap[b]?=_
       rw [setRow_heap w b _ _ ty (0,0) hg,setL_map]
      ·intro g hg;exact hg
      ·intro g hg;exact hg
     ·exact h.elim
    ·exact h.elim
   ·rename_i id ao s i c hx
    split at h
    ·rename_i r hid
     split at h
     ·rename_i hown hss hcs
      have hss':=Nat.eq_of_beq_eq_true hss
      have hcs':=Nat.le_of_ble_eq_true hcs
      obtain ⟨rfl,hi,h⟩:=h
      subst hss'
      have hr0:r.sat w:=hs.sat id _ hid
      rcases hr0.2.2 hown with ⟨_,h0,_⟩ | ⟨b,cs,hao,hg,hn,hcap,hsz,hcell⟩
      ·omega
      ·have ex:a.eval x=.pointer (some ⟨b,i*r.s+c,none⟩):=by rw [ev_den hT,hx];simp only [SV.den,SA.den,SC.den,rptr_some hao,Nat.zero_add]
       have hfit:i*r.s+c+z≤cs.size:=by
        rw [hsz]
        have:(i+1)*r.s≤r.cap*r.s:=Nat.mul_le_mul_right _ (by omega)
        rw [Nat.add_mul] at this
        omega
       have hr:=run_storeAt (P:=P) hz hg hone hlen' hfit
       have hat:(Ch.row r).at b:=⟨.inl hown,0,hao⟩
       refine .inr (.inl ⟨_,_,w.setRow b (setL cs.toList (i*r.s+c) (List.map SC.den v.cells)).toArray,?_,hs.turn (g:=b) hid hown hat rfl rfl rfl (size_setRow _ _ _) (fun k hk=>setRow_other _ _ _ _ hk) ?_ ?_ ?_,Agree.set _ _ _,h⟩)
       ·simp only [execOp,ho,ex,ey,Sem.run_bind,hr,Result.andThen_ok,Sem.run_pure]
       ·refine ⟨(setF_len _ _ _ _).trans hr0.1,fun ho'=>?_,fun _=>.inr ⟨b,_,hao,setRow_heap w b _ _ r.t (0,0) hg,hn,hcap,?_,?_⟩⟩
        ·rw [show r.own=false from ho'] at hown;cases hown
        ·simp only [List.size_toArray,setL_len,Array.length_toList,hsz]
        ·exact rowCells_setL v.cells cs r.fld c hcell hr0.1 (by omega) (by omega)
       ·intro g hg;exact hg
       ·intro g hg
        obtain ⟨_,off,hg⟩:=hg
        rw [hao] at hg
        injection hg with hg
        injection hg with hg
        exact hg.symm
     ·exact h.elim
    ·rename_i rs hid
     split at h
     ·rename_i _ xc hs1 hc0
      have es:=Nat.eq_of_beq_eq_true hs1
      have ec:=Nat.eq_of_beq_eq_true hc0
      subst es
      subst ec
      split at h
      ·rename_i av hav
       obtain ⟨t',y',so,sc,q,⟨rfl,rfl,hq,hi⟩,h⟩:=h
       obtain ⟨b,cs,hao,hg,hlt,hat,hsat⟩:=nest_store (hs.sat id _ hid) hq hi
       have hz1:z=1:=by rw [← hlen'];rfl
       subst hz1
       have ex:a.eval x=.pointer (some ⟨b,i,none⟩):=by rw [ev_den hT,hx];simp only [SV.den,SA.den,SC.den,rptr_some hao,Nat.mul_one,Nat.add_zero,Nat.zero_add]
       have hr:=run_storeAt (P:=P) hz hg hone hlen' (off:=i) (by omega)
       have hcv:(SA.c xc).cells.map SC.den=[.int .i64 av]:=by simp only [SA.cells,List.map_cons,List.map_nil,asI_den hav]
       rw [hcv] at hr
       refine .inr (.inl ⟨_,_,w.setRow b (setL cs.toList i [.int .i64 av]).toArray,?_,hs.turnIn (g:=b) hid rfl hat rfl rfl rfl (size_setRow _ _ _) (fun k hk=>setRow_other _ _ _ _ hk) (hsat av) ?_,Agree.set _ _ _,h⟩)
       ·simp only [execOp,ho,ex,ey,Sem.run_bind,hr,Result.andThen_ok,Sem.run_pure]
       ·rintro b' ⟨r,hrm,hra⟩
        obtain ⟨j,hj,rfl⟩:=List.mem_map.1 hrm
        exact ⟨_,symRows_mem (List.mem_range.1 hj),symRow_at (t:=t') (z:=setSy y' q i av) (sc:=sc) rfl hra⟩
      ·exact h.elim
     ·exact h.elim
    ·exact h.elim
   ·exact h.elim
  ·exact h.elim
 ·exact h.elim
theorem wholeC_size {g:Bool}{v:Value}{z:Nat}(h:wholeC g v z):v.cells.size=z∧∀ u∈v.cells.toList,u.oneCell'=true:=by
 cases g with
 | true=>obtain ⟨cs,rfl,h1,h2⟩:=h;exact ⟨h1,h2⟩
 | false =>
  obtain ⟨rfl,h1,h2⟩:=h
  rw [h2]
  exact ⟨rfl,fun u hu=>by simp at hu;subst hu;exact h1⟩
theorem run_storeWhole {P:Program}{t:TypeId}{z:Nat}(hz:szOf P t=some z){b:Nat}{ty:TypeId}{cs:Array Value}{w:World}(hg:w.heap[b]?=some (.cells cs ty (0,0))){v:Value}{g:Bool}(hv:wholeC g v z)(hle:cs.size=z) :
  (Instr.storeAt t (.pointer (some ⟨b,0,none⟩)) v).run P w=.ok () (w.setRow b v.cells):=by
 obtain ⟨h1,h2⟩:=wholeC_size hv
 have:=run_storeCells_at P b 0 ty v.cells.toList 0 cs w hg (by simp;omega) h2
 simp only [Instr.storeAt,Instr.sureAddr,Sem.run_bind,Sem.run_pure,Result.andThen_ok,storeVar,run_sizeOf' hz,h1]
 rw [if_neg (by simp),this]
 congr 2
 apply Array.ext'
 simp
 omega
theorem exStoreO_ok {P:Program}{X:Cx}{o:Oper}{t:TypeId}{x y:Operand}{ts:List SV}{ch:List Ch}{k:EK}(ho:o.op=.store t x y){oid:Nat}{v:Value}(hy:ev ts y=.a (.c (.obj oid v)))(h:exStoreO P t (ev ts x) oid v ch k){a:Act}(hT:Ts ts a){w:World}(hs:HS X ch w):EffOk P X o a ch w k:=by
 have ey:a.eval y=v:=by rw [ev_den hT,hy];rfl
 unfold exStoreO at h
 split at h
 ·rename_i g z id b hgg hz hx
  have ex:a.eval x=.pointer (some ⟨b,0,none⟩):=by rw [ev_den hT,hx];rfl
  have key:∀ {ty:TypeId} {cs:Array Value} {c:Ch},ch[id]?=some c→c.own=true→c.at b→(∀ b',c.at b'→b'=b)→w.heap[b]?=some (.cells cs ty (0,0))→cs.size=z→wholeC g v z→k .undef (ch.set id (.whole b ty g z (.obj oid v))) [id]→EffOk P X o a ch w k:=fun {ty cs c} hid hown hat hat2 hg hle hv h=>by
   have hr:=run_storeWhole (P:=P) hz hg hv hle
   refine .inr (.inl ⟨_,_,w.setRow b v.cells,?_,hs.turn (g:=b) hid hown hat rfl rfl rfl (size_setRow _ _ _) (fun k hk=>setRow_other _ _ _ _ hk) ?_ ?_ ?_,Agree.set _ _ _,h⟩)
   ·simp only [execOp,ho,ex,ey,Sem.run_bind,hr,Result.andThen_ok,Sem.run_pure]
   ·exact ⟨setRow_heap w b _ _ ty (0,0) hg,hv⟩
   ·intro b' hb'
    have:b'=b:=hb'
    rw [this];exact hat
   ·exact hat2
  split at h
  ·rename_i b' ty cs hid
   split at h
   ·rename_i hl
    have hl':=Nat.eq_of_beq_eq_true hl
    obtain ⟨⟨rfl,hv⟩,h⟩:=h
    exact key hid rfl rfl (fun _ q=>q) (hs.sat id _ hid) (by simp [hl']) hv h
   ·exact h.elim
  ·rename_i b' ty g' z' x' hid
   split at h
   ·rename_i hl
    have hl':=Nat.eq_of_beq_eq_true hl
    subst hl'
    obtain ⟨⟨rfl,hv⟩,h⟩:=h
    have hsat:=hs.sat id _ hid
    exact key hid rfl rfl (fun _ q=>q) hsat.1 (wholeC_size hsat.2).1 hv h
   ·rename_i hl
    have hl':=Nat.eq_of_beq_eq_true hl
    subst hl'
    obtain ⟨⟨rfl,hv⟩,h⟩:=h
    have hsat:=hs.sat id _ hid
    exact key hid rfl rfl (fun _ q=>q) hsat.1 (wholeC_size hsat.2).1 hv h
   ·exact h.elim
  ·exact h.elim
 ·exact h.elim
theorem exStore_ok {P:Program}{X:Cx}{o:Oper}{t:TypeId}{x y:Operand}{ts:List SV}{ch:List Ch}{k:EK}(ho:o.op=.store t x y)(h:exStore P t (ev ts x) (ev ts y) ch k){a:Act}(hT:Ts ts a){w:World}(hs:HS X ch w):EffOk P X o a ch w k:=by
 unfold exStore at h
 split at h
 ·rename_i oid v hy
  exact exStoreO_ok ho hy h hT hs
 ·exact exStoreA_ok ho h hT hs
def repL {α:Type}(zs:List α):Nat→List α
 | 0=>[]
 | m+1=>zs ++ repL zs m
theorem repL_len {α:Type}(zs:List α)(m:Nat):(repL zs m).length=m*zs.length:=by
 induction m with
 | zero=>simp [repL]
 | succ m ih=>simp [repL,ih,Nat.add_mul,Nat.add_comm]
theorem repL_get {α:Type}(zs:List α):∀ (m k:Nat),k<m*zs.length→(repL zs m)[k]?=zs[k % zs.length]?:=by
 intro m
 induction m with
 | zero=>intro k h;simp at h
 | succ m ih =>
  intro k h
  have hz:0<zs.length:=by
   rcases Nat.eq_zero_or_pos zs.length with h0 | h0
   ·rw [h0] at h;simp at h
   ·exact h0
  simp only [repL]
  by_cases hk:k<zs.length
  ·rw [List.getElem?_append_left hk,Nat.mod_eq_of_lt hk]
  ·have hk':zs.length≤k:=by omega
   rw [List.getElem?_append_right hk',ih (k-zs.length) (by rw [Nat.add_mul,Nat.one_mul] at h;omega),← Nat.mod_eq_sub_mod hk']
theorem repL_map {α β:Type}(f:α→β)(zs:List α)(m:Nat):(repL zs m).map f=repL (zs.map f) m:=by
 induction m with
 | zero=>rfl
 | succ m ih=>simp [repL,ih]
theorem made_repL (z:Array Value)(m:Nat):(madeCells z (m*z.size)).toList=repL z.toList m:=by
 apply List.ext_getElem?
 intro k
 by_cases hk:k<m*z.size
 ·rw [repL_get _ _ _ (by simpa using hk)]
  have hz:0<z.size:=by
   rcases Nat.eq_zero_or_pos z.size with h0 | h0
   ·rw [h0] at hk;simp at hk
   ·exact h0
  have hm:k % z.size<z.size:=Nat.mod_lt _ hz
  simp [madeCells,hk,hm]
 ·rw [List.getElem?_eq_none (by simp [size_madeCells];omega),List.getElem?_eq_none (by rw [repL_len];simp;omega)]
def byOf (P:Program)(t:TypeId):Option Nat:=(P.info? t).map (·.bytes)
def elInfo (P:Program)(t:TypeId):Option (TypeId × Nat × Nat × List SC) :=
 match elemOf' P t with
 | some e =>
  match szOf P e,byOf P e,zeroOf P e with
  | some s,some by',some zs =>
   match Nat.beq zs.length s with
   | true=>some (e,s,by',zs)
   | false=>none
  | _,_,_=>none
 | none=>none
theorem elInfo_ok {P:Program}{t e:TypeId}{s by':Nat}{zs:List SC}(h:elInfo P t=some (e,s,by',zs)) :
  P.underlying t=some (.slice e)∧∃ (i:TypeInfo) (z:Value),P.info? e=some i∧i.size=s∧i.bytes=by'∧i.zero=some z∧z.cells.toList=zs.map SC.den∧z.cells.size=s∧zs.length=s:=by
 unfold elInfo at h
 split at h
 ·rename_i e' he
  split at h
  ·rename_i s' b' zs' hs hb hz
   split at h
   ·rename_i hl
    simp only [Option.some.injEq,Prod.mk.injEq] at h
    obtain ⟨rfl,rfl,rfl,rfl⟩:=h
    have hl':=Nat.eq_of_beq_eq_true hl
    obtain ⟨z,_,hzc,i,hi,hiz⟩:=run_zero' hz
    refine ⟨elemOf_ok he,i,z,hi,?_,?_,hiz,hzc,?_,hl'⟩
    ·simpa [szOf,hi] using hs
    ·simpa [byOf,hi] using hb
    ·rw [← Array.length_toList,hzc,List.length_map,hl']
   ·cases h
  ·cases h
 ·cases h
abbrev mkC (by':Nat)(n:Int):Prop:=0≤n∧(by':Int)*n≤281474976710656∧n≤9223372036854775807
abbrev apC (n m by':Nat):Prop:=(n+m)*by'≤140737488355328
def exMake (P:Program)(t:TypeId)(x y:SV)(ch:List Ch)(k:EK):Prop :=
 match elInfo P t with
 | some (e,s,by',zs) =>
  match x,y with
  | .a (.c (.il (.ofNat m))),.a (.c (.il (.ofNat m'))) =>
   match Nat.beq m m',Nat.ble (by'*m) 281474976710656,Nat.ble m 1099511627776 with
   | true,true,true=>∀ b,k (.a (.c (.slc ch.length b m m))) (ch ++ [.cells b e (repL zs m)]) []
   | _,_,_=>False
  | .a (.c (.int n)),.a (.c (.int n')) =>
   n=n'∧mkC by' n ∧
    ∀ b,k (.a (.c (.sl ch.length (some ⟨b,0,none⟩) (tn n) (tn n)))) (ch ++ [.row ⟨true,some ⟨b,0,none⟩,e,s,tn n,tn n,zs.map fun z _=>z⟩]) []
  | _,_=>False
 | none=>False
theorem exMake_ok {P:Program}{X:Cx}{o:Oper}{t:TypeId}{x y:Operand}{ts:List SV}{ch:List Ch}{k:EK}(ho:o.op=.makeSlice t x y)(h:exMake P t (ev ts x) (ev ts y) ch k){a:Act}(hT:Ts ts a){w:World}(hs:HS X ch w):EffOk P X o a ch w k:=by
 unfold exMake at h
 split at h
 ·rename_i e s by' zs hel
  obtain ⟨hu,i,z,hi,hsz,hby,hz,hzc,hzs,hlen⟩:=elInfo_ok hel
  subst hsz
  subst hby
  split at h
  ·rename_i m m' hx hy
   split at h
   ·rename_i h1 h2 h3
    have h1':=Nat.eq_of_beq_eq_true h1
    have h2':=Nat.le_of_ble_eq_true h2
    have h3':=Nat.le_of_ble_eq_true h3
    subst h1'
    have ex:a.eval x=.int .i64 (m:Int):=by rw [ev_den hT,hx];rfl
    have ey:a.eval y=.int .i64 (m:Int):=by rw [ev_den hT,hy];rfl
    have hr:=run_make (P:=P) w t e i z hu hi hz .i64 .i64 (m:Int) (m:Int) (by omega) (Int.le_refl _) (by omega) (by omega)
    simp only [Int.toNat_natCast] at hr
    refine .inl ⟨_,_,_,w.alloc (.cells (madeCells z.cells (m*i.size)) e),?_,hs.alloc e (repL zs m) _ ?_,Agree.app _ _,h w.heap.size⟩
    ·simp only [execOp,ho,ex,ey,Sem.run_bind,hr,Result.andThen_ok,Sem.run_pure]
     rfl
    ·rw [← hzs,made_repL,hzc,repL_map]
   ·exact h.elim
  ·rename_i n n' hx hy
   obtain ⟨rfl,⟨h0,h1,h2⟩,h⟩:=h
   have ex:a.eval x=.int .i64 n:=by rw [ev_den hT,hx];rfl
   have ey:a.eval y=.int .i64 n:=by rw [ev_den hT,hy];rfl
   have hr:=run_make (P:=P) w t e i z hu hi hz .i64 .i64 n n h0 (Int.le_refl _) h1 h2
   refine .inl ⟨_,_,_,w.alloc (.cells (madeCells z.cells (n.toNat*i.size)) e),?_,hs.add (belowAllocW w _) _ ?_ ?_,Agree.app _ _,h w.heap.size⟩
   ·simp only [execOp,ho,ex,ey,Sem.run_bind,hr,Result.andThen_ok,Sem.run_pure]
    rfl
   ·refine ⟨by simp [hlen],fun ho'=>(by cases ho'),fun _=>.inr ⟨w.heap.size,_,rfl,heap_alloc_new w _,Nat.le_refl _,by simp only [maxLen,tn];omega,by rw [size_madeCells],fun j hj c f hf=>?_⟩⟩
    have hm:=made_repL z.cells n.toNat
    rw [hzs,hzc] at hm
    simp only [List.getElem?_map] at hf
    cases hc:zs[c]? with
    | none=>simp [hc] at hf
    | some y =>
     simp only [hc,Option.map_some,Option.some.injEq] at hf
     subst hf
     have hcl:c<zs.length:=(List.getElem?_eq_some_iff.1 hc).1
     have hj':j<n.toNat:=hj
     have hb:j*i.size+c<n.toNat*i.size:=by
      have:(j+1)*i.size≤n.toNat*i.size:=Nat.mul_le_mul_right _ (by omega)
      rw [Nat.add_mul] at this
      omega
     rw [← Array.getElem?_toList,hm,repL_get _ _ _ (by simp [hlen];exact hb)]
     simp only [List.length_map,hlen,Nat.mul_add_mod_self_right]
     rw [Nat.mod_eq_of_lt (by omega)]
     simp [hc]
   ·intro b hb
    obtain ⟨_,off,hb⟩:=hb
    injection hb with hb
    injection hb with hb
    omega
  ·exact h.elim
 ·exact h.elim
def exBuildSlice (P:Program)(t:TypeId)(n:Nat)(ts:List SV)(ps:List (Nat × Operand))(ch:List Ch)(k:EK):Prop :=
 match elInfo P t with
 | some (e,s,_,zs) =>
  match Nat.ble (n*s) 16777216,partsAt s ts ps with
  | true,some qs =>
   match layParts qs (repL zs n) with
   | some out=>∀ b,k (.a (.c (.slc ch.length b n n))) (ch ++ [.cells b e out]) []
   | none=>False
  | _,_=>False
 | none=>False
theorem exBuildSlice_ok {P:Program}{X:Cx}{o:Oper}{t:TypeId}{n:Nat}{ps:Array (Nat × Operand)}{ts:List SV}{ch:List Ch}{k:EK}(ho:o.op=.buildSlice t n ps)(h:exBuildSlice P t n ts ps.toList ch k){a:Act}(hT:Ts ts a){w:World}(hs:HS X ch w):EffOk P X o a ch w k:=by
 unfold exBuildSlice at h
 split at h
 ·rename_i e s by' zs hel
  obtain ⟨hu,i,z,hi,hsz,hby,hz,hzc,hzs,hlen⟩:=elInfo_ok hel
  subst hsz
  split at h
  ·rename_i qs hle hqs
   split at h
   ·rename_i out hout
    have hle':=Nat.le_of_ble_eq_true hle
    obtain ⟨h1,h2,h3⟩:=partsAt_ok ps.toList qs hqs
    have hfill:=fill_ok (fun q=>some (q*i.size,i.size)) (svs ts ps.toList) qs (repL zs n) out h1 h2 hout
    have hps:(Array.map (fun p=>(p.1,a.eval p.2)) ps).toList=(svs ts ps.toList).map fun p=>(p.1,p.2.den):=by
     rw [Array.toList_map];exact svs_map hT _ h3
    have hm:((repL zs n).map SC.den).toArray=madeCells z.cells (n*i.size):=by
     apply Array.ext'
     rw [← hzs,made_repL,hzc,repL_map]
    rw [hm] at hfill
    refine .inl ⟨_,_,_,w.alloc (.cells (out.map SC.den).toArray e),?_,hs.alloc e out _ rfl,Agree.app _ _,h w.heap.size⟩
    have hsize:=run_sizeOf' (P:=P) (t:=e) (z:=i.size) (by simp [szOf,hi]) w
    have hzero:(zeroValue e).run P w=.ok z w:=by simp [zeroValue,typeInfo,hi,hz]
    simp only [execOp,ho,Instr.buildSlice,Sem.run_bind,run_underlying hu,Result.andThen_ok,hsize]
    rw [if_neg (by simp;omega)]
    by_cases h0:n*i.size=0
    ·rw [if_pos h0]
     have hm0:(Array.range (n*i.size)).map (fun x=>(#[]:Array Value)[x % (#[]:Array Value).size]!)=madeCells z.cells (n*i.size):=by
      rw [h0];simp [madeCells]
     simp only [Sem.run_bind,Sem.run_pure,Result.andThen_ok,hm0,hps,hfill,newRow,run_newObj]
     rfl
    ·rw [if_neg h0]
     have hm1:(Array.range (n*i.size)).map (fun x=>z.cells[x % z.cells.size]!)=madeCells z.cells (n*i.size):=rfl
     simp only [Sem.run_bind,Sem.run_pure,Result.andThen_ok,hzero,hm1,hps,hfill,newRow,run_newObj]
     rfl
   ·exact h.elim
  ·exact h.elim
 ·exact h.elim
theorem HS.move {X:Cx}{ch:List Ch}{w w':World}{id:Nat}{c d:Ch}(h:HS X ch w)(hid:ch[id]?=some c)(ho:c.own=true)
  (hos:w'.os=w.os) (ht:w'.tape=w.tape) (hout:w'.output=w.output) (hsz:w.heap.size≤w'.heap.size) (hk:∀ k,k<w.heap.size→¬ c.at k→w'.heap[k]?=w.heap[k]?)
  (hd:Ch.sat w' d) (hda:∀ b,d.at b→c.at b∨w.heap.size≤b):HS X (ch.set id .dead ++ [d]) w' where
 fr:=⟨hos.trans h.fr.os,ht.trans h.fr.tape,hout.trans h.fr.output,Nat.le_trans h.fr.size hsz,fun k hk0 hM=>by
  refine (hk k (Nat.lt_of_lt_of_le hk0 h.fr.size) ?_).trans (h.fr.block k hk0 hM)
  intro ha
  rcases h.new id c _ hid ho ha with h1 | h1
  ·omega
  ·exact hM h1⟩
 sat:=fun i e he=>by
  rcases get_app_one he with he | ⟨_,rfl⟩
  ·rcases get_set he with ⟨_,rfl,_⟩ | ⟨hne,he⟩
   ·trivial
   ·refine Ch.sat_keep (h.sat i e he) hsz (fun b ha=>hk b (Ch.sat_lt (h.sat i e he) ha) ?_)
    intro hc
    exact h.dis id i c e _ (fun q=>hne q.symm) hid he ho hc ha
  ·exact hd
 dis:=fun i j ci cj b hij hi hj hoi hai haj=>by
  have hiA:=get_app_one hi
  have hjA:=get_app_one hj
  clear hi hj
  rcases hiA with hi2 | ⟨hi1,rfl⟩
  ·rcases get_set hi2 with ⟨_,rfl,_⟩ | ⟨hne,hi3⟩
   ·exact hai.elim
   ·clear hi2
    rcases hjA with hj2 | ⟨_,rfl⟩
    ·rcases get_set hj2 with ⟨_,rfl,_⟩ | ⟨_,hj3⟩
     ·exact haj.elim
     ·exact h.dis i j ci cj b hij hi3 hj3 hoi hai haj
    ·rcases hda b haj with hc | hc
     ·exact h.dis i id ci c b hne hi3 hid hoi hai hc
     ·have:=Ch.sat_lt (h.sat i ci hi3) hai
      omega
  ·rcases hjA with hj2 | ⟨hj1,_⟩
   ·rcases get_set hj2 with ⟨_,rfl,_⟩ | ⟨hne,hj3⟩
    ·exact haj.elim
    ·rcases hda b hai with hc | hc
     ·exact h.dis id j c cj b (fun q=>hne q.symm) hid hj3 ho hc haj
     ·have:=Ch.sat_lt (h.sat j cj hj3) haj
      omega
   ·exact hij (hi1.trans hj1.symm)
 new:=fun i e b he hoe ha=>by
  rcases get_app_one he with he | ⟨_,rfl⟩
  ·rcases get_set he with ⟨_,rfl,_⟩ | ⟨_,he⟩
   ·exact ha.elim
   ·exact h.new i e b he hoe ha
  ·rcases hda b ha with hc | hc
   ·exact h.new id c b hid ho hc
   ·exact .inl (Nat.le_trans h.fr.size hc)
theorem Agree.move (ch:List Ch)(id:Nat)(d:Ch):Agree ch (ch.set id .dead ++ [d]) [id]:=fun i c h hi=>by
 rw [List.getElem?_append_left (by simp;exact (List.getElem?_eq_some_iff.1 h).1),List.getElem?_set_ne (fun e=>hi (by simp [e]))]
 exact h
structure Src where
 m:Nat
 fld:List (Nat→SC)
 ok:Prop
def srcOf (ch:List Ch)(s:Nat)(zs:List SC):SV→Option Src
 | .a (.c (.sl id ao m _)) =>
  match ch[id]? with
  | some (.row r)=>match Nat.beq r.s s with
   | true=>some ⟨m,r.fld,ao=r.ao∧m=r.n⟩
   | false=>none
  | _=>none
 | .a (.c (.slc id b (.succ .zero) _)) =>
  match ch[id]? with
  | some (.cells b' _ cs)=>match Nat.beq cs.length s with
   | true=>some ⟨1,cs.map fun c _=>c,b=b'⟩
   | false=>none
  | _=>none
 | .a (.c .nil)=>some ⟨0,zs.map fun c _=>c,True⟩
 | _=>none
def SrcSat (w:World)(s:Nat)(S:Src)(v:Value):Prop :=
 S.fld.length=s∧∃ ao c,v=.slice ao S.m c∧(0<S.m→∃ b off,ao=some ⟨b,off,none⟩∧∀ i,i<S.m→∀ (c:Nat) (f:Nat→SC),S.fld[c]?=some f→w.cell? ⟨b,off+(i*s+c),none⟩=some (f i).den)
theorem srcOf_ok {ch:List Ch}{s:Nat}{zs:List SC}(hz:zs.length=s){x:SV}{S:Src}(h:srcOf ch s zs x=some S)(hok:S.ok){w:World}(hw:Sat ch w):SrcSat w s S x.den:=by
 unfold srcOf at h
 split at h
 ·rename_i id ao m cap
  split at h
  ·rename_i r hid
   split at h
   ·rename_i hs
    injection h with h
    subst h
    obtain ⟨rfl,rfl⟩:=hok
    have hs':=Nat.eq_of_beq_eq_true hs
    subst hs'
    have hr:r.sat w:=hw id _ hid
    refine ⟨hr.1,r.ao,cap,rfl,fun hm=>?_⟩
    obtain ⟨b,off,hao,_⟩:=Row.read hr hm
    refine ⟨b,off,hao,fun i hi c f hf=>?_⟩
    obtain ⟨b',off',hao',_,hc⟩:=Row.read hr hi
    rw [hao] at hao'
    injection hao' with hao'
    injection hao' with e1 e2
    subst e1
    subst e2
    exact hc c f hf
   ·cases h
  ·cases h
 ·rename_i id b cap
  split at h
  ·rename_i b' t cs hid
   split at h
   ·rename_i hs
    injection h with h
    subst h
    have hs':=Nat.eq_of_beq_eq_true hs
    have hb:b=b':=hok
    subst hb
    have hg:w.heap[b]?=some (.cells (cs.map SC.den).toArray t (0,0)):=hw id _ hid
    refine ⟨by simp [hs'],some ⟨b,0,none⟩,cap,rfl,fun _=>⟨b,0,rfl,fun i hi c f hf=>?_⟩⟩
    have:i=0:=by simp only at hi;omega
    subst this
    simp only [List.getElem?_map] at hf
    cases hc:cs[c]? with
    | none=>simp [hc] at hf
    | some y =>
     simp only [hc,Option.map_some,Option.some.injEq] at hf
     subst hf
     simp [World.cell?,hg,hc]
   ·cases h
  ·cases h
 ·injection h with h
  subst h
  exact ⟨by simp [hz],none,0,rfl,fun h=>by simp at h⟩
 ·cases h
def srcCells (S:Src)(s:Nat):List Value:=(List.range (S.m*s)).map fun k=>match S.fld[k % s]? with | some f=>(f (k / s)).den | none=>Go.undef
theorem srcCells_get {w:World}{s:Nat}{S:Src}(hl:S.fld.length=s){b off:Nat}(h:∀ i,i<S.m→∀ (c:Nat) (f:Nat→SC),S.fld[c]?=some f→w.cell? ⟨b,off+(i*s+c),none⟩=some (f i).den) :
  ∀ (j:Nat) v,(srcCells S s)[j]?=some v→w.cell? ((⟨b,off,none⟩:Addr).add j)=some v:=by
 intro j v hv
 have hj:j<S.m*s:=by
  have:=(List.getElem?_eq_some_iff.1 hv).1
  simpa [srcCells] using this
 have hs:0<s:=by
  rcases Nat.eq_zero_or_pos s with h0 | h0
  ·rw [h0] at hj;simp at hj
  ·exact h0
 have hjm:j % s<s:=Nat.mod_lt _ hs
 have hjd:j / s<S.m:=by rw [Nat.div_lt_iff_lt_mul hs];exact hj
 obtain ⟨f,hf⟩:∃ f,S.fld[j % s]?=some f:=⟨_,List.getElem?_eq_getElem (by omega)⟩
 have hc:=h (j / s) hjd (j % s) f hf
 simp [srcCells,hj,hf] at hv
 rw [add_add,← hv,← hc]
 congr 2
 rw [Nat.mul_comm,Nat.div_add_mod]
theorem srcCells_at {S:Src}{s:Nat}{i c:Nat}(hi:i<S.m){f:Nat→SC}(hf:S.fld[c]?=some f)(hl:S.fld.length=s):(srcCells S s)[i*s+c]?=some (f i).den:=by
 have hc:c<s:=by rw [← hl];exact (List.getElem?_eq_some_iff.1 hf).1
 have hb:i*s+c<S.m*s:=by
  have:(i+1)*s≤S.m*s:=Nat.mul_le_mul_right _ (by omega)
  rw [Nat.add_mul] at this
  omega
 have h1:(i*s+c) % s=c:=by rw [Nat.mul_add_mod_self_right,Nat.mod_eq_of_lt hc]
 have h2:(i*s+c) / s=i:=by rw [Nat.add_comm,Nat.add_mul_div_right _ _ (by omega),Nat.div_eq_of_lt hc,Nat.zero_add]
 simp [srcCells,hb,h1,h2,hf]
theorem srcCells_len (S:Src)(s:Nat):(srcCells S s).length=S.m*s:=by simp [srcCells]
def oneAt (fs:List (Nat→SC))(i:Nat):Bool:=(fs.map (· i)).all SC.one
theorem oneAt_ok {fs:List (Nat→SC)}{i:Nat}(h:oneAt fs i=true){c:Nat}{f:Nat→SC}(hf:fs[c]?=some f):(f i).one=true :=
 List.all_eq_true.1 h _ (List.mem_map.2 ⟨f,List.mem_of_getElem? hf,rfl⟩)
theorem srcCells_one {S:Src}{s:Nat}(hl:S.fld.length=s)(h:∀ i,oneAt S.fld i=true):∀ u∈srcCells S s,u.oneCell'=true:=by
 intro u hu
 obtain ⟨j,hj,rfl⟩:=List.mem_map.1 hu
 have hj':j<S.m*s:=by simpa using hj
 have hs:0<s:=by
  rcases Nat.eq_zero_or_pos s with h0 | h0
  ·rw [h0] at hj';simp at hj'
  ·exact h0
 have hjm:j % s<s:=Nat.mod_lt _ hs
 obtain ⟨f,hf⟩:∃ f,S.fld[j % s]?=some f:=⟨_,List.getElem?_eq_getElem (by omega)⟩
 simp only [hf]
 exact SC.one_ok (oneAt_ok (h _) hf)
def appF (n:Nat):List (Nat→SC)→List (Nat→SC)→List (Nat→SC)
 | f::fs,g::gs=>(fun i=>pkL i n (f i) (g (subN i n)))::appF n fs gs
 | _,_=>[]
theorem appF_len (n:Nat):∀ (fs gs:List (Nat→SC)),fs.length=gs.length→(appF n fs gs).length=fs.length:=by
 intro fs
 induction fs with
 | nil=>intro gs _;cases gs <;> rfl
 | cons f fs ih=>intro gs h;cases gs with | nil=>simp at h | cons g gs=>simp [appF,ih gs (by simpa using h)]
theorem appF_get (n:Nat):∀ (fs gs:List (Nat→SC)) (c:Nat) (h:Nat→SC),(appF n fs gs)[c]?=some h→∃ f g,fs[c]?=some f∧gs[c]?=some g∧h=fun i=>pkL i n (f i) (g (i-n)):=by
 intro fs
 induction fs with
 | nil=>intro gs c h hh;cases gs <;> simp [appF] at hh
 | cons f fs ih =>
  intro gs c h hh
  cases gs with
  | nil=>simp [appF] at hh
  | cons g gs =>
   cases c with
   | zero=>simp only [appF,List.getElem?_cons_zero,Option.some.injEq] at hh;exact ⟨f,g,rfl,rfl,hh.symm⟩
   | succ c=>simp only [appF,List.getElem?_cons_succ] at hh;simpa using ih gs c h hh
theorem run_append_zero {P:Program}(w:World)(t ty e:TypeId)(i:TypeInfo)(ht:P.underlying t=some (.slice e))(hi:P.info? e=some i)(bo:Option Addr)(n cap:Nat)(hn:n≤cap)(ao:Option Addr)(c:Nat) :
  (Builtin.append_ #[t,t] ty #[.slice bo n cap,.slice ao 0 c]).run P w=.ok (.slice bo n cap) w:=by
 cases bo <;> cases ao <;> simp [Builtin.append_,run_underlying ht,sizeOf,typeInfo,hi,Builtin.lenOf,hn,Builtin.firstCells,loadCells,loadCellsFrom,storeCells]
theorem grown_row {w:World}{e:TypeId}{s n:Nat}{S:Src}{fs:List (Nat→SC)}{olds:List Value}{zz:Array Value}{need:Nat}(hneed:need=n+S.m)
  (cap:Nat) (hge:need≤cap) (hmax:cap≤maxLen) (hl:S.fld.length=s) (holds:olds.length=n*s) (hzz:zz.size=(cap-need)*s)
  (hold:∀ i,i<n→∀ (c:Nat) (f:Nat→SC),fs[c]?=some f→olds[i*s+c]?=some (f i).den) (hfl:fs.length=s) (w':World)
  (hw':w'.heap[w.heap.size]?=some (.cells (olds.toArray ++ (srcCells S s).toArray ++ zz) e (0,0))) :
  Row.sat w' ⟨true,some ⟨w.heap.size,0,none⟩,e,s,need,cap,appF n fs S.fld⟩:=by
 subst hneed
 refine ⟨(appF_len n _ _ (by rw [hfl,hl])).trans hfl,fun h=>(by cases h),fun _=>.inr ⟨w.heap.size,_,rfl,hw',hge,hmax,?_,?_⟩⟩
 ·simp only [Array.size_append,List.size_toArray,holds,srcCells_len,hzz,← Nat.add_mul]
  congr 1
  omega
 ·intro i hi c h hh
  obtain ⟨f,g,hf,hg,rfl⟩:=appF_get n fs S.fld c h hh
  have hc:c<s:=by rw [← hfl];exact (List.getElem?_eq_some_iff.1 hf).1
  rw [pkL_den]
  simp only [Array.getElem?_append,Array.size_append,List.size_toArray,holds,srcCells_len,List.getElem?_toArray]
  by_cases hin:i<n
  ·have hb:i*s+c<n*s:=by
    have:(i+1)*s≤n*s:=Nat.mul_le_mul_right _ (by omega)
    rw [Nat.add_mul] at this
    omega
   have hb2:i*s+c<n*s+S.m*s:=by omega
   simp only [if_pos hb,if_pos hb2,if_pos hin]
   exact hold i hin c f hf
  ·have hi':i<n+S.m:=hi
   have hb:¬ i*s+c<n*s:=by
    have:n*s≤i*s:=Nat.mul_le_mul_right _ (by omega)
    omega
   have hb2:i*s+c<n*s+S.m*s:=by
    have:(i+1)*s≤(n+S.m)*s:=Nat.mul_le_mul_right _ (by omega)
    rw [Nat.add_mul,Nat.add_mul n] at this
    omega
   simp only [if_neg hb,if_pos hb2,if_neg hin]
   have he:i*s+c-n*s=(i-n)*s+c:=by
    rw [Nat.sub_mul]
    have:n*s≤i*s:=Nat.mul_le_mul_right _ (by omega)
    omega
   rw [he]
   exact srcCells_at (by omega) hg hl
theorem Row.re {w:World}{r:Row}(h:r.sat w)(fld:List (Nat→SC))(hl:fld.length=r.s)(hf:∀ (c:Nat) (g:Nat→SC),fld[c]?=some g→∃ f:Nat→SC,r.fld[c]?=some f∧∀ i,i<r.n→(f i).den=(g i).den):Row.sat w { r with fld:=fld }:=by
 refine ⟨hl,fun ho hn=>?_,fun ho=>?_⟩
 ·obtain ⟨b,off,h1,h2,h3⟩:=h.2.1 ho hn
  refine ⟨b,off,h1,h2,fun i hi c g hg'=>?_⟩
  obtain ⟨f,hf1,hf2⟩:=hf c g hg'
  rw [h3 i hi c f hf1,hf2 i hi]
 ·rcases h.2.2 ho with h1 | ⟨b,cs,h1,h2,h3,h4,h5,h6⟩
  ·exact .inl h1
  ·refine .inr ⟨b,cs,h1,h2,h3,h4,h5,fun i hi c g hg'=>?_⟩
   obtain ⟨f,hf1,hf2⟩:=hf c g hg'
   rw [h6 i hi c f hf1,hf2 i hi]
def newRowOf (r:Row)(S:Src)(ao:Option Addr)(cap:Nat):Row:=⟨true,ao,r.t,r.s,r.n+S.m,cap,appF r.n r.fld S.fld⟩
theorem run_app {P:Program}{w:World}{t ty:TypeId}{r:Row}{by':Nat}{zs:List SC}(hel:elInfo P t=some (r.t,r.s,by',zs))(hb0:0<by')(hr:r.sat w)(ho:r.own=true){S:Src}{v:Value}(hS:SrcSat w r.s S v)
  (h1:∀ i,oneAt S.fld i=true) (hby:(r.n+S.m)*by'≤140737488355328) :
  ∃ ao cap w',(Builtin.append_ #[t,t] ty #[.slice r.ao r.n r.cap,v]).run P w=.ok (.slice ao (r.n+S.m) cap) w'∧w'.os=w.os∧w'.tape=w.tape∧w'.output=w.output∧w.heap.size≤w'.heap.size ∧
   (∀ k,k<w.heap.size→¬ (Ch.row r).at k→w'.heap[k]?=w.heap[k]?)∧Row.sat w' (newRowOf r S ao cap)∧(∀ b,(Ch.row (newRowOf r S ao cap)).at b→(Ch.row r).at b∨w.heap.size≤b):=by
 obtain ⟨hu,i,z,hi,hsz,hbi,hz,hzc,hzs,hlen⟩:=elInfo_ok hel
 obtain ⟨hl,ao,c,rfl,hsrc⟩:=hS
 subst hbi
 have hmax:r.n+S.m≤maxLen:=by
  simp only [maxLen]
  have:(r.n+S.m)*1≤(r.n+S.m)*i.bytes:=Nat.mul_le_mul_left _ hb0
  omega
 by_cases hm:S.m=0
 ·have hcap:r.n≤r.cap:=by
   rcases hr.2.2 ho with ⟨_,h2,h3⟩ | ⟨_,_,_,_,h3,_⟩ <;> omega
  refine ⟨r.ao,r.cap,w,?_,rfl,rfl,rfl,Nat.le_refl _,fun _ _ _=>rfl,?_,fun b hb=>.inl ⟨.inl ho,hb.2⟩⟩
  ·rw [hm];exact run_append_zero w t ty r.t i hu hi r.ao r.n r.cap hcap ao c
  ·have hre:=Row.re hr (appF r.n r.fld S.fld) ((appF_len _ _ _ (by rw [hr.1,hl])).trans hr.1) (fun c g hg=>by
    obtain ⟨f,g',hf,_,rfl⟩:=appF_get _ _ _ c g hg
    exact ⟨f,hf,fun i hi=>by rw [pkL_den,if_pos hi]⟩)
   have e:newRowOf r S r.ao r.cap={ r with fld:=appF r.n r.fld S.fld }:=by
    simp only [newRowOf,hm,Nat.add_zero]
    rw [← ho]
   rw [e]
   exact hre
 ·obtain ⟨b,off,rfl,hcell⟩:=hsrc (by omega)
  have hnews:=srcCells_get (w:=w) hl hcell
  have hn1:=srcCells_one hl h1
  have hnl:(srcCells S r.s).length=S.m*i.size:=by rw [srcCells_len,hsz]
  rcases hr.2.2 ho with ⟨hao,hn,hcap⟩ | ⟨g,cs,hao,hg,hnc,hcm,hcs,hold⟩
  ·have hrun:=run_append_nil (P:=P) w t ty r.t i z hu hi hz ⟨b,off,none⟩ S.m c (srcCells S r.s) hnl hnews (by omega) (by have:=hmax;simp only [maxLen] at this;omega) (by rw [hn,Nat.zero_add] at hby;omega)
   have hge:=grownCap_ge w S.m 0 r.t
   have hle:=grownCap_le_maxLen w S.m 0 r.t (by omega)
   refine ⟨some ⟨w.heap.size,0,none⟩,grownCap w S.m 0 r.t,w.drew.alloc (.cells ((srcCells S r.s).toArray ++ Builtin.zeroCells z.cells (grownCap w S.m 0 r.t-S.m)) r.t),?_,rfl,rfl,rfl,by simp,fun k hk _=>heap_alloc_old w.drew _ k hk,?_,?_⟩
   ·rw [hao,hn,hcap,Nat.zero_add];exact hrun
   ·refine grown_row (s:=r.s) (n:=r.n) (S:=S) (olds:=[]) (zz:=Builtin.zeroCells z.cells (grownCap w S.m 0 r.t-S.m)) rfl _ (by omega) hle hl (by simp [hn]) ?_ (fun j hj=>by omega) hr.1 _ ?_
    ·rw [size_zeroCells,hzs,hn,Nat.zero_add]
    ·have:=heap_alloc_new w.drew (.cells ((srcCells S r.s).toArray ++ Builtin.zeroCells z.cells (grownCap w S.m 0 r.t-S.m)) r.t)
     simpa using this
   ·intro b' hb'
    obtain ⟨_,off',hb'⟩:=hb'
    injection hb' with hb'
    injection hb' with hb'
    right
    omega
  ·by_cases hroom:r.n+S.m≤r.cap
   ·have hfit:r.n*i.size+(srcCells S r.s).length≤cs.size:=by
     rw [hcs,hnl,hsz,← Nat.add_mul]
     exact Nat.mul_le_mul_right _ hroom
    have hrun:=run_append_room (P:=P) w t ty r.t i hu hi g r.n r.cap cs hg ⟨b,off,none⟩ S.m c (srcCells S r.s) hnl hnews hn1 hroom hfit
    refine ⟨some ⟨g,0,none⟩,r.cap,w.setRow g (List.take (r.n*i.size) cs.toList ++ srcCells S r.s ++ List.drop (r.n*i.size+(srcCells S r.s).length) cs.toList).toArray,?_,rfl,rfl,rfl,?_,?_,?_,fun b' hb'=>.inl ⟨.inl ho,by rw [hao];exact hb'.2⟩⟩
    ·rw [hao];exact hrun
    ·rw [size_setRow];exact Nat.le_refl _
    ·intro k _ hk
     exact setRow_other _ _ _ _ (fun e=>hk (by rw [e];exact ⟨.inl ho,0,hao⟩))
    ·refine ⟨(appF_len _ _ _ (by rw [hr.1,hl])).trans hr.1,fun h=>(by cases h),fun _=>.inr ⟨g,_,rfl,setRow_heap w g cs _ r.t (0,0) hg,hroom,hcm,?_,?_⟩⟩
     ·show _=r.cap*r.s
      rw [← hcs]
      simp only [List.size_toArray,List.length_append,List.length_take,List.length_drop,Array.length_toList]
      omega
     ·intro j hj d h hh
      simp only [newRowOf] at hj hh ⊢
      obtain ⟨f,g',hf,hg',rfl⟩:=appF_get r.n r.fld S.fld d h hh
      have hd:d<r.s:=by rw [← hr.1];exact (List.getElem?_eq_some_iff.1 hf).1
      rw [pkL_den,List.getElem?_toArray,hsz]
      have hns:r.n*r.s≤cs.size:=by rw [hcs];exact Nat.mul_le_mul_right _ hnc
      by_cases hin:j<r.n
      ·have hb1:j*r.s+d<r.n*r.s:=by
        have:(j+1)*r.s≤r.n*r.s:=Nat.mul_le_mul_right _ (by omega)
        rw [Nat.add_mul] at this
        omega
       rw [if_pos hin,List.append_assoc,List.getElem?_append_left (by simp;omega),List.getElem?_take_of_lt hb1,Array.getElem?_toList]
       exact hold j hin d f hf
      ·have hj':j<r.n+S.m:=hj
       have hb1:r.n*r.s≤j*r.s:=Nat.mul_le_mul_right _ (by omega)
       have hb2:j*r.s+d<r.n*r.s+S.m*r.s:=by
        have:(j+1)*r.s≤(r.n+S.m)*r.s:=Nat.mul_le_mul_right _ (by omega)
        rw [Nat.add_mul,Nat.add_mul r.n] at this
        omega
       have htl:(cs.toList.take (r.n*r.s)).length=r.n*r.s:=by simp;omega
       rw [if_neg hin,List.append_assoc,List.getElem?_append_right (by omega),htl,List.getElem?_append_left (by rw [srcCells_len];omega)]
       have he:j*r.s+d-r.n*r.s=(j-r.n)*r.s+d:=by
        rw [Nat.sub_mul]
        omega
       rw [he]
       exact srcCells_at (by omega) hg' hl
   ·have hns:r.n*r.s≤cs.size:=by rw [hcs];exact Nat.mul_le_mul_right _ hnc
    have holds:∀ (j:Nat) u,(cs.toList.take (r.n*r.s))[j]?=some u→w.cell? ((⟨g,0,none⟩:Addr).add j)=some u:=fun j u hj=>by
     have hjl:j<r.n*r.s:=by
      have:=(List.getElem?_eq_some_iff.1 hj).1
      simp at this
      omega
     rw [List.getElem?_take_of_lt hjl] at hj
     rw [add_add,Nat.zero_add]
     simpa [World.cell?,hg] using hj
    have hrun:=run_append_grow (P:=P) w t ty r.t i z hu hi hz ⟨g,0,none⟩ r.n r.cap (cs.toList.take (r.n*r.s)) (by simp;rw [hsz];omega) holds ⟨b,off,none⟩ S.m c (srcCells S r.s) hnl hnews (by omega)
     (by have:=hmax;simp only [maxLen] at this;omega) (growslice_fits (by omega) hby)
    have hge:=grownCap_ge w (r.n+S.m) r.cap r.t
    have hle:=grownCap_le_maxLen w (r.n+S.m) r.cap r.t hmax
    refine ⟨some ⟨w.heap.size,0,none⟩,grownCap w (r.n+S.m) r.cap r.t,w.drew.alloc (.cells ((List.take (r.n*r.s) cs.toList).toArray ++ (srcCells S r.s).toArray ++ Builtin.zeroCells z.cells (grownCap w (r.n+S.m) r.cap r.t-(r.n+S.m))) r.t),?_,rfl,rfl,rfl,?_,?_,?_,?_⟩
    ·rw [hao];exact hrun
    ·simp
    ·intro k hk _
     exact heap_alloc_old w.drew _ k hk
    ·refine grown_row (s:=r.s) (n:=r.n) (S:=S) (olds:=cs.toList.take (r.n*r.s)) (zz:=Builtin.zeroCells z.cells (grownCap w (r.n+S.m) r.cap r.t-(r.n+S.m))) rfl _ hge hle hl (by simp;omega) ?_ ?_ hr.1 _ ?_
     ·rw [size_zeroCells,hzs]
     ·intro j hj d f hf
      have hd:d<r.s:=by rw [← hr.1];exact (List.getElem?_eq_some_iff.1 hf).1
      have hb1:j*r.s+d<r.n*r.s:=by
       have:(j+1)*r.s≤r.n*r.s:=Nat.mul_le_mul_right _ (by omega)
       rw [Nat.add_mul] at this
       omega
      rw [List.getElem?_take_of_lt hb1,Array.getElem?_toList]
      exact hold j hj d f hf
     ·exact heap_alloc_new w.drew _
    ·intro b' hb'
     obtain ⟨_,off',hb'⟩:=hb'
     injection hb' with hb'
     injection hb' with hb'
     right
     omega
def intL:List SC→Option (List Int)
 | []=>some []
 | x::r =>
  match asI x,intL r with
  | some a,some l=>some (a::l)
  | _,_=>none
def getZ:List Int→Nat→Int
 | [],_=>0
 | x::_,0=>x
 | _::r,n+1=>getZ r n
theorem intL_get:∀ {xs:List SC} {l:List Int},intL xs=some l→l.length=xs.length∧∀ (i:Nat) (x:SC),xs[i]?=some x→x.den=.int .i64 (getZ l i):=by
 intro xs
 induction xs with
 | nil=>intro l h;simp only [intL,Option.some.injEq] at h;subst h;exact ⟨rfl,fun i x hx=>by simp at hx⟩
 | cons y r ih =>
  intro l h
  simp only [intL] at h
  split at h
  ·rename_i a m ha hm
   injection h with h
   subst h
   obtain ⟨h1,h2⟩:=ih hm
   refine ⟨by simp [h1],fun i x hx=>?_⟩
   cases i with
   | zero=>simp at hx;subst hx;exact asI_den ha
   | succ i=>exact h2 i x (by simpa using hx)
  ·cases h
abbrev litZ (l:List Int)(i:Nat):Int:=getZ l i
theorem cells_own {w:World}{b n:Nat}{t:TypeId}{cs:List SC}{l:List Int}(h:Ch.sat w (.cells b t cs))(hl:intL cs=some l)(hn:n≤cs.length)(hm:cs.length≤1099511627776):Row.sat w ⟨true,some ⟨b,0,none⟩,t,1,n,cs.length,[fun i=>.int (litZ l i)]⟩:=by
 have hb:w.heap[b]?=some (.cells (cs.map SC.den).toArray t (0,0)):=h
 refine ⟨rfl,fun ho=>(by cases ho),fun _=>.inr ⟨b,_,rfl,hb,hn,by simp only [maxLen];omega,by simp,fun i hi c f hf=>?_⟩⟩
 have hi':i<n:=hi
 match c with
 | 0 =>
  simp at hf
  subst hf
  have hlt:i<cs.length:=by omega
  have hx:=(intL_get hl).2 i _ (List.getElem?_eq_getElem hlt)
  have e:i*(⟨true,some ⟨b,0,none⟩,t,1,n,cs.length,[fun i=>.int (litZ l i)]⟩:Row).s+0=i:=by simp
  rw [e]
  simp only [List.getElem?_toArray,List.getElem?_map,List.getElem?_eq_getElem hlt,Option.map_some,hx]
  rfl
 | c+1=>simp at hf
def exAppend (P:Program)(t:TypeId)(x y:SV)(ch:List Ch)(k:EK):Prop :=
 match elInfo P t with
 | some (e,s,by',zs) =>
  match srcOf ch s zs y,Nat.ble 1 s,Nat.ble 1 by' with
  | some S,true,true =>
   match x with
   | .a (.c .nil) =>
    (S.ok∧(∀ i,oneAt S.fld i=true)∧apC 0 S.m by') ∧
     ∀ ao cap,k (.a (.c (.sl ch.length ao S.m cap))) (ch ++ [.row ⟨true,ao,e,s,S.m,cap,S.fld⟩]) []
   | .a (.c (.slc id b .zero .zero)) =>
    match ch[id]? with
    | some (.cells b' e' []) =>
     match Nat.beq e e' with
     | true=>(b=b'∧S.ok∧(∀ i,oneAt S.fld i=true)∧apC 0 S.m by') ∧
       ∀ ao cap,k (.a (.c (.sl ch.length ao S.m cap))) (ch.set id .dead ++ [.row ⟨true,ao,e,s,S.m,cap,S.fld⟩]) [id]
     | false=>False
    | _=>False
   | .a (.c (.slc id b n cap)) =>
    match ch[id]? with
    | some (.cells b' e' cs) =>
     match intL cs,Nat.beq e' e,Nat.beq s 1,Nat.beq cs.length cap,Nat.ble n cap,Nat.ble cap 1099511627776 with
     | some l,true,true,true,true,true=>(b=b'∧S.ok∧(∀ i,oneAt S.fld i=true)∧apC n S.m by') ∧
       ∀ ao' cap',k (.a (.c (.sl ch.length ao' (addN n S.m) cap'))) (ch.set id .dead ++ [.row ⟨true,ao',e,s,addN n S.m,cap',appF n [fun i=>.int (litZ l i)] S.fld⟩]) [id]
     | _,_,_,_,_,_=>False
    | _=>False
   | .a (.c (.sl id ao n cap)) =>
    match ch[id]? with
    | some (.row r) =>
     match r.own,Nat.beq r.t e,Nat.beq r.s s with
     | true,true,true=>(ao=r.ao∧n=r.n∧cap=r.cap∧S.ok∧(∀ i,oneAt S.fld i=true)∧apC n S.m by') ∧
       ∀ ao' cap',k (.a (.c (.sl ch.length ao' (addN n S.m) cap'))) (ch.set id .dead ++ [.row ⟨true,ao',e,s,addN n S.m,cap',appF n r.fld S.fld⟩]) [id]
     | _,_,_=>False
    | _=>False
   | _=>False
  | _,_,_=>False
 | none=>False
theorem exec_builtin {P:Program}{o:Oper}{c:Call}{b:Builtin}{x y:Operand}{t:TypeId}(ho:o.op=.call c)(hc:c.callee=.builtin b)(ha:c.args.toList=[x,y])(ht:c.argTypes.toList=[t,t])(a:Act)(w:World) :
  ∃ consts,(execOp a.eval o).run P w=(builtin b #[t,t] o.type consts #[a.eval x,a.eval y]).run P w:=by
 obtain ⟨cal,args,tys⟩:=c
 simp only at hc ha ht
 subst hc
 have e1:args=#[x,y]:=by rw [← ha]
 have e2:tys=#[t,t]:=by rw [← ht]
 subst e1
 subst e2
 refine ⟨#[x,y].map (fun | .const _=>true | _=>false),?_⟩
 simp only [execOp,ho,resolve,Sem.run_bind,Sem.run_pure,Result.andThen_ok,invoke,List.map_toArray,List.map_cons,List.map_nil]
 rfl
theorem exAppend_ok {P:Program}{X:Cx}{o:Oper}{c:Call}{t:TypeId}{x y:Operand}{ts:List SV}{ch:List Ch}{k:EK}(ho:o.op=.call c)(hc:c.callee=.builtin .append)(ha:c.args.toList=[x,y])(ht:c.argTypes.toList=[t,t])
  (h:exAppend P t (ev ts x) (ev ts y) ch k) {a:Act} (hT:Ts ts a) {w:World} (hs:HS X ch w):EffOk P X o a ch w k:=by
 obtain ⟨consts,hexec⟩:=exec_builtin (P:=P) ho hc ha ht a w
 have hrun:∀ v w',(Builtin.append_ #[t,t] o.type #[a.eval x,a.eval y]).run P w=.ok v w'→(execOp a.eval o).run P w=.ok (.value v) w':=fun v w' hr=>by
  rw [hexec]
  simp only [builtin,Sem.run_bind,hr,Result.andThen_ok,Sem.run_pure]
 unfold exAppend at h
 split at h
 ·rename_i e s by' zs hel
  obtain ⟨hu,i,z,hi,hsz,hby,hz,hzc,hzs,hlen⟩:=elInfo_ok hel
  have hlen0:=hlen
  split at h
  ·rename_i S hS h1s h1b
   have h1s':=Nat.le_of_ble_eq_true h1s
   have h1b':=Nat.le_of_ble_eq_true h1b
   have ey:a.eval y=(ev ts y).den:=ev_den hT y
   split at h
   ·rename_i hx
    obtain ⟨⟨hok,hone,hbytes⟩,h⟩:=h
    have hsrc:=srcOf_ok hlen hS hok hs.all
    have ex:a.eval x=.slice none 0 0:=by rw [ev_den hT,hx];rfl
    obtain ⟨ao,cap,w',hr,hos,htp,hout,hsize,hk,hsat,hat⟩:=run_app (P:=P) (ty:=o.type) (r:=⟨true,none,e,s,0,0,zs.map fun c _=>c⟩) hel h1b' ⟨by simp [hlen],fun h=>(by cases h),fun _=>.inl ⟨rfl,rfl,rfl⟩⟩ rfl hsrc hone (by simpa using hbytes)
    have hb:Below w.heap.size w w':=⟨hos,htp,hout,hsize,fun k hk0=>hk k hk0 (fun ha=>by obtain ⟨_,off,ha⟩:=ha;cases ha)⟩
    have hre:=Row.re hsat S.fld hsrc.1 (fun c g hg=>by
     have hc:c<(newRowOf ⟨true,none,e,s,0,0,zs.map fun c _=>c⟩ S ao cap).fld.length:=by
      rw [hsat.1];show c<s;rw [← hsrc.1];exact (List.getElem?_eq_some_iff.1 hg).1
     obtain ⟨f0,g0,_,hg0,he⟩:=appF_get 0 _ S.fld c _ (List.getElem?_eq_getElem hc)
     refine ⟨_,List.getElem?_eq_getElem hc,fun i hi=>?_⟩
     rw [he,pkL_den,if_neg (by omega)]
     rw [hg0] at hg
     injection hg with hg
     rw [hg,Nat.sub_zero])
    refine .inl ⟨_,_,_,w',?_,hs.add hb (.row ⟨true,ao,e,s,S.m,cap,S.fld⟩) ?_ ?_,Agree.app _ _,h ao cap⟩
    ·refine hrun _ w' ?_
     rw [ex,ey]
     show _=Result.ok (Value.slice ao S.m cap) w'
     simpa using hr
    ·have e0:({ newRowOf ⟨true,none,e,s,0,0,zs.map fun c _=>c⟩ S ao cap with fld:=S.fld }:Row)=⟨true,ao,e,s,S.m,cap,S.fld⟩:=by
      simp [newRowOf]
     rw [e0] at hre
     exact hre
    ·intro b hb'
     rcases hat b ⟨.inl rfl,hb'.2⟩ with h1 | h1
     ·obtain ⟨_,off,h1⟩:=h1;cases h1
     ·exact h1
   ·rename_i id b hx
    split at h
    ·rename_i b' e' hid
     split at h
     ·rename_i he
      have he':=Nat.eq_of_beq_eq_true he
      subst he'
      obtain ⟨⟨rfl,hok,hone,hbytes⟩,h⟩:=h
      have hsrc:=srcOf_ok hlen hS hok hs.all
      have ex:a.eval x=.slice (some ⟨b,0,none⟩) 0 0:=by rw [ev_den hT,hx];rfl
      have hg:w.heap[b]?=some (.cells #[] e (0,0)):=hs.sat id _ hid
      obtain ⟨ao,cap,w',hr,hos,htp,hout,hsize,hk,hsat,hat⟩:=run_app (P:=P) (ty:=o.type) (r:=⟨true,some ⟨b,0,none⟩,e,s,0,0,zs.map fun c _=>c⟩) hel h1b'
       ⟨by simp [hlen],fun h=>(by cases h),fun _=>.inr ⟨b,#[],rfl,hg,Nat.le_refl _,Nat.zero_le _,by simp,fun i hi=>(by simp at hi)⟩⟩ rfl hsrc hone (by simpa using hbytes)
      have hre:=Row.re hsat S.fld hsrc.1 (fun c g hg=>by
       have hc:c<(newRowOf ⟨true,some ⟨b,0,none⟩,e,s,0,0,zs.map fun c _=>c⟩ S ao cap).fld.length:=by
        rw [hsat.1];show c<s;rw [← hsrc.1];exact (List.getElem?_eq_some_iff.1 hg).1
       obtain ⟨f0,g0,_,hg0,he⟩:=appF_get 0 _ S.fld c _ (List.getElem?_eq_getElem hc)
       refine ⟨_,List.getElem?_eq_getElem hc,fun i hi=>?_⟩
       rw [he,pkL_den,if_neg (by omega)]
       rw [hg0] at hg
       injection hg with hg
       rw [hg,Nat.sub_zero])
      refine .inl ⟨_,_,_,w',?_,hs.move hid rfl hos htp hout hsize (fun k hk0 hna=>hk k hk0 ?_) (d:=.row ⟨true,ao,e,s,S.m,cap,S.fld⟩) ?_ ?_,Agree.move _ _ _,h ao cap⟩
      ·refine hrun _ w' ?_
       rw [ex,ey]
       show _=Result.ok (Value.slice ao S.m cap) w'
       simpa using hr
      ·intro ha
       obtain ⟨_,off,ha⟩:=ha
       injection ha with ha
       injection ha with ha
       exact hna ha.symm
      ·have e0:({ newRowOf ⟨true,some ⟨b,0,none⟩,e,s,0,0,zs.map fun c _=>c⟩ S ao cap with fld:=S.fld }:Row)=⟨true,ao,e,s,S.m,cap,S.fld⟩:=by
        simp [newRowOf]
       rw [e0] at hre
       exact hre
      ·intro b2 hb'
       rcases hat b2 ⟨.inl rfl,hb'.2⟩ with h1 | h1
       ·obtain ⟨_,off,h1⟩:=h1
        injection h1 with h1
        injection h1 with h1
        exact .inl h1.symm
       ·exact .inr h1
     ·exact h.elim
    ·exact h.elim
   ·rename_i id b n cap _ hx
    split at h
    ·rename_i b' e' cs hid
     split at h
     ·rename_i l hl he hs1 hlen hle hcap
      have he':=Nat.eq_of_beq_eq_true he
      have hs1':=Nat.eq_of_beq_eq_true hs1
      have hlen':=Nat.eq_of_beq_eq_true hlen
      have hle':=Nat.le_of_ble_eq_true hle
      have hcap':=Nat.le_of_ble_eq_true hcap
      subst he'
      subst hs1'
      subst hlen'
      obtain ⟨⟨rfl,hok,hone,hbytes⟩,h⟩:=h
      have hsrc:=srcOf_ok hlen0 hS hok hs.all
      have ex:a.eval x=.slice (some ⟨b,0,none⟩) n cs.length:=by rw [ev_den hT,hx];rfl
      have hr0:=cells_own (hs.sat id _ hid) hl hle' hcap'
      obtain ⟨ao,cap,w',hr,hos,htp,hout,hsize,hk,hsat,hat⟩:=run_app (P:=P) (ty:=o.type) hel h1b' hr0 rfl hsrc hone hbytes
      refine .inl ⟨_,_,_,w',?_,hs.move hid rfl hos htp hout hsize (fun k hk0 hna=>hk k hk0 ?_) (d:=.row (newRowOf _ S ao cap)) hsat ?_,Agree.move _ _ _,h ao cap⟩
      ·refine hrun _ w' ?_
       rw [ex,ey]
       exact hr
      ·intro ha
       obtain ⟨_,off,ha⟩:=ha
       injection ha with ha
       injection ha with ha
       exact hna ha.symm
      ·intro b2 hb'
       rcases hat b2 hb' with h1 | h1
       ·obtain ⟨_,off,h1⟩:=h1
        injection h1 with h1
        injection h1 with h1
        exact .inl h1.symm
       ·exact .inr h1
     ·exact h.elim
    ·exact h.elim
   ·rename_i id ao n cap hx
    split at h
    ·rename_i r hid
     split at h
     ·rename_i hown hrt hrs
      have hrt':=Nat.eq_of_beq_eq_true hrt
      have hrs':=Nat.eq_of_beq_eq_true hrs
      subst hrt'
      subst hrs'
      obtain ⟨⟨rfl,rfl,rfl,hok,hone,hbytes⟩,h⟩:=h
      have hsrc:=srcOf_ok hlen hS hok hs.all
      have ex:a.eval x=.slice r.ao r.n r.cap:=by rw [ev_den hT,hx];rfl
      obtain ⟨ao,cap,w',hr,hos,htp,hout,hsize,hk,hsat,hat⟩:=run_app (P:=P) (ty:=o.type) hel h1b' (show r.sat w from hs.sat id _ hid) hown hsrc hone hbytes
      refine .inl ⟨_,_,_,w',?_,hs.move hid hown hos htp hout hsize hk (d:=.row (newRowOf r S ao cap)) hsat hat,Agree.move _ _ _,h ao cap⟩
      refine hrun _ w' ?_
      rw [ex,ey]
      exact hr
     ·exact h.elim
    ·exact h.elim
   ·exact h.elim
  ·exact h.elim
 ·exact h.elim
abbrev leN (m n:Nat):Prop:=m≤n
abbrev inSub (l h:Int)(n:Nat):Prop:=0≤l∧l≤h∧h≤(n:Int)
abbrev inSub0 (h:Int)(n:Nat):Prop:=0≤h∧h≤(n:Int)
abbrev vwC (ao' ao:Option Addr)(lo n:Nat):Prop:=0<n→ao'=ao.map (·.add lo)
abbrev minN (m n:Nat):Nat:=Nat.min m n
def shiftF (m:Nat)(fs:List (Nat→SC)):List (Nat→SC):=fs.map fun f i=>f (addN i m)
def subRow (r:Row)(ao:Option Addr)(m n:Nat):Row:=⟨false,ao,0,r.s,n,0,shiftF m r.fld⟩
def exSub (P:Program)(t:TypeId)(x:SV)(lo hi:Option SV)(ch:List Ch)(k:EK):Prop :=
 match elemOf' P t with
 | some e =>
  match szOf P e,x with
  | some s,.a (.c (.sl id ao n cap)) =>
   match ch[id]? with
   | some (.row r) =>
    match r.own,Nat.beq r.s s with
    | false,true =>
     match lo,hi with
     | some (.a (.c (.il (.ofNat m)))),none=>(ao=r.ao∧n=r.n∧leN m n∧leN n cap)∧∀ ao',k (.a (.c (.sl ch.length ao' (subN n m) (subN cap m)))) (ch ++ [.row (subRow r ao' m (subN n m))]) []
     | some (.a (.c lc)),some (.a (.c hc)) =>
      match asI lc,asI hc with
      | some l,some h=>(ao=r.ao∧n=r.n∧inSub l h n∧leN n cap)∧∀ ao',k (.a (.c (.sl ch.length ao' (tn (isub h l)) (subN cap (tn l))))) (ch ++ [.row (subRow r ao' (tn l) (tn (isub h l)))]) []
      | _,_=>False
     | none,some (.a (.c hc)) =>
      match asI hc with
      | some h=>(ao=r.ao∧n=r.n∧inSub0 h n∧leN n cap)∧∀ ao',k (.a (.c (.sl ch.length ao' (tn h) cap))) (ch ++ [.row (subRow r ao' 0 (tn h))]) []
      | none=>False
     | _,_=>False
    | true,true =>
     match Nat.beq s 1 with
     | true =>
      match lo,hi with
      | some (.a (.c lc)),none =>
       match asI lc with
       | some l=>(ao=r.ao∧n=r.n∧inSub0 l n∧leN n cap)∧∀ ao',vwC ao' ao (tn l) (subN n (tn l))→k (.a (.c (.vw id ao' (tn l) (subN n (tn l)) (subN cap (tn l))))) ch []
       | none=>False
      | none,some (.a (.c hc)) =>
       match asI hc with
       | some h=>(ao=r.ao∧n=r.n∧inSub0 h n∧leN n cap)∧∀ ao',vwC ao' ao 0 (tn h)→k (.a (.c (.vw id ao' 0 (tn h) cap))) ch []
       | none=>False
      | _,_=>False
     | false=>False
    | _,_=>False
   | _=>False
  | _,_=>False
 | none=>False
theorem subRow_sat {w:World}{r:Row}(hr:r.sat w)(ho:r.own=false){m n:Nat}(h:m+n≤r.n){ao:Option Addr}(hao:0<n→ao=r.ao.map (·.add (m*r.s))):(subRow r ao m n).sat w:=by
 refine ⟨by simp [subRow,shiftF,hr.1],fun _ hn=>?_,fun q=>(by cases q)⟩
 have hn':0<n:=hn
 obtain ⟨b,off,h1,h2,h3⟩:=hr.2.1 ho (by omega)
 refine ⟨b,off+m*r.s,?_,h2,fun i hi c f hf=>?_⟩
 ·show ao=_
  rw [hao hn',h1]
  simp only [Option.map_some,add_add]
 ·have hi':i<n:=hi
  simp only [subRow,shiftF,List.getElem?_map] at hf
  cases hc:r.fld[c]? with
  | none=>simp [hc] at hf
  | some g =>
   simp only [hc,Option.map_some,Option.some.injEq] at hf
   subst hf
   have:=h3 (i+m) (by omega) c g hc
   show w.cell? ⟨b,off+m*r.s+(i*r.s+c),none⟩=_
   rw [show off+m*r.s+(i*r.s+c)=off+((i+m)*r.s+c) by rw [Nat.add_mul];omega]
   exact this
theorem subRow_at {w:World}{r:Row}(hr:r.sat w)(ho:r.own=false){m n:Nat}(h:m+n≤r.n){ao:Option Addr}(hao:0<n→ao=r.ao.map (·.add (m*r.s))){b:Nat}(hb:(Ch.row (subRow r ao m n)).at b):(Ch.row r).at b:=by
 obtain ⟨hn,off,hb⟩:=hb
 have hn':0<n:=by
  rcases hn with q | q
  ·cases q
  ·exact q
 have hb':ao=some ⟨b,off,none⟩:=hb
 obtain ⟨b0,off0,h1,_⟩:=hr.2.1 ho (by omega)
 rw [hao hn',h1] at hb'
 simp only [Option.map_some,add_add] at hb'
 injection hb' with hb'
 injection hb' with e1
 exact ⟨.inr (by omega),off0,by rw [h1,e1]⟩
theorem HS.sub {X:Cx}{ch:List Ch}{w:World}(h:HS X ch w){id:Nat}{r:Row}(hid:ch[id]?=some (.row r))(ho:r.own=false){m n:Nat}(hmn:m+n≤r.n){ao:Option Addr}(hao:0<n→ao=r.ao.map (·.add (m*r.s))):HS X (ch ++ [.row (subRow r ao m n)]) w:=by
 have hr:r.sat w:=h.sat id _ hid
 refine h.see _ rfl (subRow_sat hr ho hmn hao) fun i c b hc hown hcb hb=>?_
 refine h.dis i id c _ b (fun e=>?_) hc hid hown hcb (subRow_at hr ho hmn hao hb)
 subst e
 rw [hid] at hc
 injection hc with hc
 subst hc
 simp [Ch.own,ho] at hown
theorem elem_of' {P:Program}{t e:TypeId}(h:P.underlying t=some (.slice e)):P.elem t=e:=by simp [Program.elem,h]
theorem exSub_ok {P:Program}{X:Cx}{o:Oper}{t:TypeId}{x:Operand}{lo hi:Option Operand}{ts:List SV}{ch:List Ch}{k:EK}(hop:o.op=.slice t x lo hi none)(h:exSub P t (ev ts x) (lo.map (ev ts)) (hi.map (ev ts)) ch k){a:Act}(hT:Ts ts a){w:World}(hs:HS X ch w):EffOk P X o a ch w k:=by
 unfold exSub at h
 split at h
 ·rename_i e he
  have hu:=elemOf_ok he
  have hel:=elem_of' hu
  have hu':P.underlying t=some (.slice (P.elem t)):=by rw [hel];exact hu
  split at h
  ·rename_i s id ao n cap hs0 hx
   have hz:(sizeOf (P.elem t)).run P w=.ok s w:=by rw [hel];exact run_sizeOf' hs0 w
   have ex:a.eval x=.slice ao n cap:=by rw [ev_den hT,hx];rfl
   split at h
   ·rename_i r hid
    split at h
    ·rename_i ho hbs
     have hss:=Nat.eq_of_beq_eq_true hbs
     split at h
     ·rename_i m hlo hhi
      obtain ⟨⟨rfl,rfl,hm,hc⟩,h⟩:=h
      have hm':m≤r.n:=hm
      have hc':r.n≤cap:=hc
      obtain ⟨lo',rfl,hlo1⟩:=Option.map_eq_some_iff.1 hlo
      have hhi':hi=none:=by simpa using hhi
      subst hhi'
      have el:a.eval lo'=.int .i64 (m:Int):=by rw [ev_den hT,hlo1];rfl
      have hrun:=run_slice_l (P:=P) w t r.ao r.n cap hu' .i64 (m:Int) (by omega) (by omega)
      refine .inl ⟨_,_,_,w,?_,hs.sub hid ho (m:=m) (n:=r.n-m) (ao:=if cap=m then r.ao else r.ao.map (·.add (m*r.s))) (by omega) (fun hn=>by rw [if_neg (by omega)]),Agree.app _ _,h _⟩
      simp only [execOp,hop,ex,Option.map_some,el,Option.map_none,run_sliceAt_slice (P:=P) w t _ _ _ _ hu',hrun,Sem.run_bind,hz,Result.andThen_ok,Sem.run_pure,Int.toNat_natCast,sliced]
      rw [hss]
      rfl
     ·rename_i lc hc hlo hhi
      split at h
      ·rename_i l hh hl hhq
       obtain ⟨⟨rfl,rfl,⟨h0,h1,h2⟩,hc⟩,h⟩:=h
       have hc':r.n≤cap:=hc
       obtain ⟨lo',rfl,hlo1⟩:=Option.map_eq_some_iff.1 hlo
       obtain ⟨hi',rfl,hhi1⟩:=Option.map_eq_some_iff.1 hhi
       have el:a.eval lo'=.int .i64 l:=by rw [ev_den hT,hlo1];exact asI_den hl
       have eh:a.eval hi'=.int .i64 hh:=by rw [ev_den hT,hhi1];exact asI_den hhq
       have hrun:=run_slice_lh (P:=P) w t r.ao r.n cap hu' .i64 .i64 l hh (by omega) (by omega) (by omega)
       refine .inl ⟨.a (.c (.sl ch.length (if cap=l.toNat then r.ao else r.ao.map (·.add (l.toNat*r.s))) (hh.toNat-l.toNat) (cap-l.toNat))),_,_,w,?_,hs.sub hid ho (m:=l.toNat) (n:=hh.toNat-l.toNat) (ao:=if cap=l.toNat then r.ao else r.ao.map (·.add (l.toNat*r.s))) (by omega) (fun hn=>by rw [if_neg (by omega)]),Agree.app _ _,?_⟩
       ·simp only [execOp,hop,ex,Option.map_some,Option.map_none,el,eh,run_sliceAt_slice (P:=P) w t _ _ _ _ hu',hrun,Sem.run_bind,hz,Result.andThen_ok,Sem.run_pure,sliced]
        rw [hss]
        rfl
       ·have e1:hh.toNat-l.toNat=tn (isub hh l):=by simp only [tn,isub];omega
        rw [e1]
        exact h _
      ·exact h.elim
     ·rename_i hc hlo hhi
      split at h
      ·rename_i hh hhq
       obtain ⟨⟨rfl,rfl,⟨h1,h2⟩,hc⟩,h⟩:=h
       have hc':r.n≤cap:=hc
       have hlo':lo=none:=by simpa using hlo
       subst hlo'
       obtain ⟨hi',rfl,hhi1⟩:=Option.map_eq_some_iff.1 hhi
       have eh:a.eval hi'=.int .i64 hh:=by rw [ev_den hT,hhi1];exact asI_den hhq
       have hrun:=run_slice_h (P:=P) w t r.ao r.n cap hu' .i64 hh (by omega) (by omega)
       have hz0:r.ao.map (·.add (0*r.s))=r.ao:=by
        cases h9:r.ao with
        | none=>rfl
        | some q=>rw [Nat.zero_mul];exact congrArg some (by cases q;rfl)
       refine .inl ⟨.a (.c (.sl ch.length r.ao hh.toNat cap)),_,_,w,?_,hs.sub hid ho (m:=0) (n:=hh.toNat) (ao:=r.ao) (by omega) (fun hn=>hz0.symm),Agree.app _ _,h _⟩
       simp only [execOp,hop,ex,Option.map_some,Option.map_none,eh,run_sliceAt_slice (P:=P) w t _ _ _ _ hu',hrun,Sem.run_bind,hz,Result.andThen_ok,Sem.run_pure,sliced]
       rw [← hss,hz0,ite_self]
       rfl
      ·exact h.elim
     ·exact h.elim
    ·rename_i ho hbs
     have hss:=Nat.eq_of_beq_eq_true hbs
     split at h
     ·rename_i hb1
      have h1s:=Nat.eq_of_beq_eq_true hb1
      split at h
      ·rename_i lc hlo hhi
       split at h
       ·rename_i l hl
        obtain ⟨⟨rfl,rfl,⟨h0,h1⟩,hc⟩,h⟩:=h
        have hc':r.n≤cap:=hc
        obtain ⟨lo',rfl,hlo1⟩:=Option.map_eq_some_iff.1 hlo
        have hhi':hi=none:=by simpa using hhi
        subst hhi'
        have el:a.eval lo'=.int .i64 l:=by rw [ev_den hT,hlo1];exact asI_den hl
        have hrun:=run_slice_l (P:=P) w t r.ao r.n cap hu' .i64 l (by omega) (by omega)
        refine .inl ⟨.a (.c (.vw id (if cap=l.toNat then r.ao else r.ao.map (·.add l.toNat)) l.toNat (r.n-l.toNat) (cap-l.toNat))),_,_,w,?_,hs,Agree.refl _,h _ (fun hn=>by rw [if_neg (by have:0<r.n-l.toNat:=hn;omega)])⟩
        simp only [execOp,hop,ex,Option.map_some,Option.map_none,el,run_sliceAt_slice (P:=P) w t _ _ _ _ hu',hrun,Sem.run_bind,hz,Result.andThen_ok,Sem.run_pure,sliced]
        rw [h1s,Nat.mul_one]
        rfl
       ·exact h.elim
      ·rename_i hc hlo hhi
       split at h
       ·rename_i hh hhq
        obtain ⟨⟨rfl,rfl,⟨h1,h2⟩,hc⟩,h⟩:=h
        have hc':r.n≤cap:=hc
        have hlo':lo=none:=by simpa using hlo
        subst hlo'
        obtain ⟨hi',rfl,hhi1⟩:=Option.map_eq_some_iff.1 hhi
        have eh:a.eval hi'=.int .i64 hh:=by rw [ev_den hT,hhi1];exact asI_den hhq
        have hrun:=run_slice_h (P:=P) w t r.ao r.n cap hu' .i64 hh (by omega) (by omega)
        have hz0:r.ao.map (·.add 0)=r.ao:=by
         cases h9:r.ao with
         | none=>rfl
         | some q=>exact congrArg some (by cases q;rfl)
        refine .inl ⟨.a (.c (.vw id r.ao 0 hh.toNat cap)),_,_,w,?_,hs,Agree.refl _,h _ (fun _=>hz0.symm)⟩
        simp only [execOp,hop,ex,Option.map_some,Option.map_none,eh,run_sliceAt_slice (P:=P) w t _ _ _ _ hu',hrun,Sem.run_bind,hz,Result.andThen_ok,Sem.run_pure,sliced]
        rw [Nat.zero_mul,hz0,ite_self]
        rfl
       ·exact h.elim
      ·exact h.elim
     ·exact h.elim
    ·exact h.elim
   ·exact h.elim
  ·exact h.elim
 ·exact h.elim
def dstOf:SV→Option (Nat × Option Addr × Nat × Nat × Nat)
 | .a (.c (.sl id ao n cap))=>some (id,ao,0,n,cap)
 | .a (.c (.vw id ao lo n cap))=>some (id,ao,lo,n,cap)
 | _=>none
theorem dstOf_den {x:SV}{id lo n cap:Nat}{ao:Option Addr}(h:dstOf x=some (id,ao,lo,n,cap)):x.den=.slice ao n cap:=by
 unfold dstOf at h
 split at h
 ·injection h with h
  simp only [Prod.mk.injEq] at h
  obtain ⟨_,rfl,_,rfl,rfl⟩:=h
  rfl
 ·injection h with h
  simp only [Prod.mk.injEq] at h
  obtain ⟨_,rfl,_,rfl,rfl⟩:=h
  rfl
 ·cases h
def cpF (lo m:Nat)(f g:Nat→SC):Nat→SC:=fun i=>pkL i lo (f i) (pkL (subN i lo) m (g (subN i lo)) (f i))
theorem cpF_den (lo m:Nat)(f g:Nat→SC)(i:Nat):(cpF lo m f g i).den=if i<lo then (f i).den else if i-lo<m then (g (i-lo)).den else (f i).den:=by
 simp only [cpF,pkL_den]
def srcK (ch:List Ch):SV→Option (Option Addr × Nat × Nat × (Nat→SC) × Prop)
 | .a (.c (.slc id b m cap)) =>
  match ch[id]? with
  | some (.cells b' _ cs) =>
   match intL cs,Nat.ble m cs.length with
   | some l,true=>some (some ⟨b,0,none⟩,m,cap,fun i=>.int (litZ l i),b=b')
   | _,_=>none
  | _=>none
 | .a (.c (.vw id ao lo m cap)) =>
  match ch[id]? with
  | some (.row r) =>
   match r.fld,Nat.beq r.s 1 with
   | [f],true=>some (ao,m,cap,fun i=>f (addN i lo),vwC ao r.ao lo m∧leN (addN lo m) r.n)
   | _,_=>none
  | _=>none
 | .a (.c (.sl id ao m cap)) =>
  match ch[id]? with
  | some (.row r) =>
   match r.fld,Nat.beq r.s 1 with
   | [f],true=>some (ao,m,cap,f,ao=r.ao∧m=r.n)
   | _,_=>none
  | _=>none
 | _=>none
theorem srcK_ok {ch:List Ch}{x:SV}{ao:Option Addr}{m cap:Nat}{g:Nat→SC}{C:Prop}(h:srcK ch x=some (ao,m,cap,g,C))(hC:C){X:Cx}{w:World}(hs:HS X ch w) :
  x.den=.slice ao m cap∧(0<m→∃ ad,ao=some ad∧∀ i,i<m→w.cell? (ad.add i)=some (g i).den):=by
 unfold srcK at h
 split at h
 ·rename_i id b m' cap'
  split at h
  ·rename_i b' t cs hid
   split at h
   ·rename_i l hl hle
    injection h with h
    simp only [Prod.mk.injEq] at h
    obtain ⟨rfl,rfl,rfl,rfl,rfl⟩:=h
    subst hC
    have hle':=Nat.le_of_ble_eq_true hle
    have hb:w.heap[b]?=some (.cells (cs.map SC.den).toArray t (0,0)):=hs.sat id _ hid
    refine ⟨rfl,fun _=>⟨_,rfl,fun i hi=>?_⟩⟩
    have hlt:i<cs.length:=by omega
    have hx:=(intL_get hl).2 i _ (List.getElem?_eq_getElem hlt)
    rw [add_add,Nat.zero_add]
    simp [World.cell?,hb,List.getElem?_eq_getElem hlt]
    exact hx
   ·cases h
  ·cases h
 ·rename_i id ao' lo m' cap'
  split at h
  ·rename_i r hid
   split at h
   ·rename_i f hf hs1
    injection h with h
    simp only [Prod.mk.injEq] at h
    obtain ⟨rfl,rfl,rfl,rfl,rfl⟩:=h
    obtain ⟨hv,hle⟩:=hC
    have hle':lo+m'≤r.n:=hle
    have h1:=Nat.eq_of_beq_eq_true hs1
    refine ⟨rfl,fun hm=>?_⟩
    have hr:r.sat w:=hs.sat id _ hid
    obtain ⟨b,off,hao,_,_⟩:=Row.read hr (i:=lo) (by omega)
    refine ⟨⟨b,off+lo,none⟩,by rw [hv hm,hao,Option.map_some,add_add],fun i hi=>?_⟩
    obtain ⟨b2,off2,hao2,_,hc⟩:=Row.read hr (i:=i+lo) (by omega)
    rw [hao] at hao2
    injection hao2 with e
    injection e with e1 e2
    subst e1 e2
    have:=hc 0 f (by rw [hf];rfl)
    rw [h1] at this
    rw [add_add]
    rw [show off+lo+i=off+((i+lo)*1+0) by omega]
    exact this
   ·cases h
  ·cases h
 ·rename_i id ao' m' cap'
  split at h
  ·rename_i r hid
   split at h
   ·rename_i f hf hs1
    injection h with h
    simp only [Prod.mk.injEq] at h
    obtain ⟨rfl,rfl,rfl,rfl,rfl⟩:=h
    obtain ⟨rfl,rfl⟩:=hC
    have h1:=Nat.eq_of_beq_eq_true hs1
    refine ⟨rfl,fun hm=>?_⟩
    have hr:r.sat w:=hs.sat id _ hid
    obtain ⟨b,off,hao,_,_⟩:=Row.read hr (i:=0) hm
    refine ⟨⟨b,off,none⟩,hao,fun i hi=>?_⟩
    obtain ⟨b2,off2,hao2,_,hc⟩:=Row.read hr (i:=i) hi
    rw [hao] at hao2
    injection hao2 with e
    injection e with e1 e2
    subst e1 e2
    have:=hc 0 f (by rw [hf];rfl)
    rw [h1] at this
    rw [add_add]
    rw [show off+i=off+(i*1+0) by omega]
    exact this
   ·cases h
  ·cases h
 ·cases h
def exCopy (P:Program)(t:TypeId)(x y:SV)(ch:List Ch)(k:EK):Prop :=
 match elemOf' P t with
 | some e =>
  match szOf P e,dstOf x,srcK ch y with
  | some s,some (id,ao,lo,n,_),some (_,m,_,g,C) =>
   match ch[id]? with
   | some (.row r) =>
    match r.own,Nat.beq r.s 1,Nat.beq s 1,r.fld with
    | true,true,true,[f]=>(C∧vwC ao r.ao lo n∧leN (addN lo n) r.n∧(∀ i,(g i).one=true))∧k (.a (.c (.int ((minN m n:Nat):Int)))) (ch.set id (.row { r with fld:=[cpF lo (minN m n) f g] })) [id]
    | _,_,_,_=>False
   | _=>False
  | _,_,_=>False
 | none=>False
theorem exCopy_ok {P:Program}{X:Cx}{o:Oper}{c:Call}{t:TypeId}{x y:Operand}{ts:List SV}{ch:List Ch}{k:EK}(ho:o.op=.call c)(hc:c.callee=.builtin .copy)(ha:c.args.toList=[x,y])(ht:c.argTypes.toList=[t,t])
  (h:exCopy P t (ev ts x) (ev ts y) ch k) {a:Act} (hT:Ts ts a) {w:World} (hs:HS X ch w):EffOk P X o a ch w k:=by
 obtain ⟨consts,hexec⟩:=exec_builtin (P:=P) ho hc ha ht a w
 have hrun:∀ v w',(Builtin.copy_ #[t,t] o.type #[a.eval x,a.eval y]).run P w=.ok v w'→(execOp a.eval o).run P w=.ok (.value v) w':=fun v w' hr=>by
  rw [hexec]
  simp only [builtin,Sem.run_bind,hr,Result.andThen_ok,Sem.run_pure]
 unfold exCopy at h
 split at h
 ·rename_i e he
  have hu:=elemOf_ok he
  split at h
  ·rename_i s id ao lo n dcap sao m scap g C hsz hd hsk
   split at h
   ·rename_i r hid
    split at h
    ·rename_i hown hs1 hz1 hf
     rename_i f
     obtain ⟨⟨hC,hv,hle,hone⟩,h⟩:=h
     have hle':lo+n≤r.n:=hle
     have h1:=Nat.eq_of_beq_eq_true hs1
     have hz:=Nat.eq_of_beq_eq_true hz1
     subst hz
     obtain ⟨ey,hsrc⟩:=srcK_ok hsk hC hs
     have ex:=dstOf_den hd
     have ex':a.eval x=.slice ao n dcap:=by rw [ev_den hT,ex]
     have ey':a.eval y=.slice sao m scap:=by rw [ev_den hT,ey]
     have hinfo:(P.info? e).map (·.size)=some 1:=hsz
     have hr:r.sat w:=hs.sat id _ hid
     by_cases h0:Nat.min m n=0
     ·refine .inl ⟨_,_,_,w,?_,hs.congr id r hid [cpF lo (minN m n) f g] (by rw [hf];rfl) ?_,Agree.set _ _ _,h⟩
      ·refine hrun _ w ?_
       rw [ex',ey']
       have:=run_copy_none (P:=P) w t t o.type e ao sao n dcap m scap hu hinfo h0
       rw [this]
       show Result.ok (goInt 0) w=Result.ok (Value.int .i64 ((Nat.min m n:Nat):Int)) w
       rw [h0]
       rfl
      ·intro c f1 g1 hf1 hg1 i hi
       match c with
       | 0 =>
        rw [hf] at hf1
        simp at hf1 hg1
        subst hf1 hg1
        rw [cpF_den]
        have:¬ (i-lo<minN m n):=by show ¬ (i-lo<Nat.min m n);omega
        simp [this]
       | c+1=>simp at hg1
     ·have hlm:Nat.min m n≤n:=Nat.min_le_right m n
      have hmm:Nat.min m n≤m:=Nat.min_le_left m n
      have hm:0<m:=by omega
      have hn:0<n:=by omega
      obtain ⟨ad,rfl,hcell⟩:=hsrc hm
      rcases hr.2.2 hown with ⟨_,hz,_⟩ | ⟨b,cs,hao,hg,hrn,hcap,hcs,hcc⟩
      ·omega
      ·have hdst:ao=some ⟨b,lo,none⟩:=by rw [hv hn,hao,Option.map_some,add_add,Nat.zero_add]
       have hsize:cs.size=r.cap:=by rw [hcs,h1,Nat.mul_one]
       have hcr:=run_copy_row (P:=P) w t t o.type e b lo n dcap ad m scap cs r.t ((List.range (Nat.min m n)).map fun j=>(g j).den) hu hinfo hg (by simp)
        (fun j v hj=>by
         simp only [List.getElem?_map] at hj
         by_cases hjm:j<Nat.min m n
         ·rw [List.getElem?_range hjm] at hj
          simp only [Option.map_some,Option.some.injEq] at hj
          rw [← hj]
          exact hcell j (by omega)
         ·rw [List.getElem?_eq_none (by simp;omega)] at hj
          cases hj)
        (by simp only [List.length_map,List.length_range];omega)
        (fun v hv2=>by
         obtain ⟨j,_,rfl⟩:=List.mem_map.1 hv2
         exact SC.one_ok (hone j))
       simp only [List.length_map,List.length_range] at hcr
       have hat:(Ch.row r).at b:=⟨.inl hown,0,hao⟩
       refine .inl ⟨_,_,_,w.setRow b (cs.toList.take lo ++ ((List.range (Nat.min m n)).map fun j=>(g j).den) ++ cs.toList.drop (lo+Nat.min m n)).toArray,?_,hs.turn (g:=b) hid hown hat rfl rfl rfl (size_setRow _ _ _) (fun k hk=>setRow_other _ _ _ _ hk) (d:=.row { r with fld:=[cpF lo (minN m n) f g] }) ?_ ?_ ?_,Agree.set _ _ _,h⟩
       ·refine hrun _ _ ?_
        rw [ex',ey',hdst]
        rw [hcr]
        rfl
       ·refine ⟨h1.symm,fun ho'=>?_,fun _=>.inr ⟨b,_,hao,setRow_heap w b _ _ r.t (0,0) hg,hrn,hcap,?_,fun i hi c q hq=>?_⟩⟩
        ·rw [show r.own=false from ho'] at hown;cases hown
        ·show (List.toArray _).size=r.cap*r.s
         rw [h1,Nat.mul_one]
         simp
         omega
        ·match c with
         | 0 =>
          simp at hq
          subst hq
          have hi':i<r.n:=hi
          rw [cpF_den]
          have hold:=hcc i hi' 0 f (by rw [hf];rfl)
          rw [h1] at hold
          show (List.toArray _)[i*r.s+0]?=_
          rw [h1,List.getElem?_toArray,show i*1+0=i by omega]
          rw [show i*1+0=i by omega] at hold
          have hold':cs.toList[i]?=some (f i).den:=by rw [Array.getElem?_toList];exact hold
          have htl:(cs.toList.take lo).length=lo:=by simp;omega
          by_cases hil:i<lo
          ·rw [if_pos hil,List.append_assoc,List.getElem?_append_left (by rw [htl];exact hil),List.getElem?_take,if_pos hil]
           exact hold'
          ·rw [if_neg hil,List.append_assoc,List.getElem?_append_right (by rw [htl];omega),htl]
           by_cases him:i-lo<Nat.min m n
           ·rw [if_pos him,List.getElem?_append_left (by simp;omega),List.getElem?_map,List.getElem?_range him]
            rfl
           ·rw [if_neg him,List.getElem?_append_right (by simp;omega),List.getElem?_drop]
            simp only [List.length_map,List.length_range]
            rw [show lo+Nat.min m n+(i-lo-Nat.min m n)=i by omega]
            exact hold'
         | c+1=>simp at hq
       ·intro q hq;exact hq
       ·intro q hq
        obtain ⟨_,off,hq⟩:=hq
        rw [hao] at hq
        injection hq with hq
        injection hq with hq
        exact hq.symm
    ·exact h.elim
   ·exact h.elim
  ·exact h.elim
 ·exact h.elim
abbrev Sm:=List SV→List Ch→EK→Prop
def SmOK (P:Program)(f:FuncId)(S:Sm):Prop :=
 (∀ args w,(callFunc f args).run P w=.ok (.enter f args) w) ∧
 ∀ (X:Cx) (args:List SV) (ch:List Ch) (k:EK) (w:World),S args ch k→HS X ch w →
  Calls P f (args.map SV.den).toArray w fun e w'=>∃ v ch' mods,e=.returned v.den∧HS X ch' w'∧Agree ch ch' mods∧k v ch' mods
def TbOK (P:Program):List (FuncId × Sm)→Prop
 | []=>True
 | (f,S)::r=>SmOK P f S∧TbOK P r
def look:List (FuncId × Sm)→FuncId→Option Sm
 | [],_=>none
 | (f,S)::r,g=>match Nat.beq f g with | true=>some S | false=>look r g
theorem look_ok {P:Program}{tb:List (FuncId × Sm)}(h:TbOK P tb){f:FuncId}{S:Sm}(hl:look tb f=some S):SmOK P f S:=by
 induction tb with
 | nil=>cases hl
 | cons p tb ih =>
  obtain ⟨g,T⟩:=p
  obtain ⟨h1,h2⟩:=h
  simp only [look] at hl
  split at hl
  ·rename_i he
   have he':=Nat.eq_of_beq_eq_true he
   injection hl with hl
   subst hl
   subst he'
   exact h1
  ·exact ih h2 hl
def exEff (P:Program)(tb:List (FuncId × Sm))(o:Op)(ts:List SV)(ch:List Ch)(k:EK):Prop :=
 match o with
 | .alloc t=>exAlloc P t ch k
 | .box t x=>exBox P t (ev ts x) ch k
 | .store t x y=>exStore P t (ev ts x) (ev ts y) ch k
 | .makeSlice t x y=>exMake P t (ev ts x) (ev ts y) ch k
 | .buildSlice t n ps=>exBuildSlice P t n ts ps.toList ch k
 | .slice t x lo hi none=>exSub P t (ev ts x) (lo.map (ev ts)) (hi.map (ev ts)) ch k
 | .call c =>
  match c.callee with
  | .builtin .append =>
   match c.args.toList,c.argTypes.toList with
   | [x,y],[t,u]=>match Nat.beq t u with | true=>exAppend P t (ev ts x) (ev ts y) ch k | false=>False
   | _,_=>False
  | .builtin .copy =>
   match c.args.toList,c.argTypes.toList with
   | [x,y],[t,u]=>match Nat.beq t u with | true=>exCopy P t (ev ts x) (ev ts y) ch k | false=>False
   | _,_=>False
  | .value (.func f) =>
   match look tb f with
   | some S=>S (c.args.toList.map (ev ts)) ch k
   | none=>False
  | _=>False
 | _=>False
theorem eff_ok {P:Program}{X:Cx}{tb:List (FuncId × Sm)}(hb:TbOK P tb){o:Oper}{ts:List SV}{ch:List Ch}{k:EK}(h:exEff P tb o.op ts ch k){a:Act}(hT:Ts ts a){w:World}(hs:HS X ch w):EffOk P X o a ch w k:=by
 unfold exEff at h
 split at h
 ·rename_i t ho;exact exAlloc_ok ho h hs
 ·rename_i t x ho;exact exBox_ok ho h hT hs
 ·rename_i t x y ho;exact exStore_ok ho h hT hs
 ·rename_i t x y ho;exact exMake_ok ho h hT hs
 ·rename_i t n ps ho;exact exBuildSlice_ok ho h hT hs
 ·rename_i t x lo hi ho;exact exSub_ok ho h hT hs
 ·rename_i c ho
  split at h
  ·rename_i hc
   split at h
   ·rename_i x y t u ha ht
    split at h
    ·rename_i he
     have he':=Nat.eq_of_beq_eq_true he
     subst he'
     exact exAppend_ok ho hc ha ht h hT hs
    ·exact h.elim
   ·exact h.elim
  ·rename_i hc
   split at h
   ·rename_i x y t u ha ht
    split at h
    ·rename_i he
     have he':=Nat.eq_of_beq_eq_true he
     subst he'
     exact exCopy_ok ho hc ha ht h hT hs
    ·exact h.elim
   ·exact h.elim
  ·rename_i f hc
   split at h
   ·rename_i S hl
    obtain ⟨hent,hS⟩:=look_ok hb hl
    have hcall:=hS X _ ch k w h hs
    refine .inr (.inr ⟨f,_,?_,hcall⟩)
    obtain ⟨cal,args,tys⟩:=c
    simp only at hc
    subst hc
    have hargs:args.map a.eval=((args.toList.map (ev ts)).map SV.den).toArray:=by
     apply Array.ext'
     simp only [Array.toList_map,List.map_map]
     exact List.map_congr_left fun x _=>ev_den hT x
    simp only [execOp,ho,resolve,Act.eval,Deferred.ofValue,Sem.run_bind,Sem.run_pure,Result.andThen_ok,invoke,hargs,Array.empty_append,Array.append_empty,hent]
   ·exact h.elim
  ·exact h.elim
 ·exact h.elim
end Go.Proofs.YtbhfabaofhhkeaaGreat

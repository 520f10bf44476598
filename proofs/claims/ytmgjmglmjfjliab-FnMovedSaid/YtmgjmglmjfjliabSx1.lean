/-
  A walk by symbols, part 1: symbolic values, the table of memory pieces, what it says of a world. No program in sight.
-/
import Derived.Calls
import Derived.Control
import Derived.Tactics
import Derived.OrdersHeld
import Derived.KernelRfl
import Derived.Below
import Derived.Laws.Rows
import Derived.Laws.AppendOwn
import Derived.Laws.MakeOwn
import Derived.Deep.OwnRows
namespace Go.Proofs.Ytmgjmglmjfjliab
set_option linter.unusedVariables false
set_option linter.unusedSimpArgs false
open Go.RowKit

/-- A symbolic value of one cell. -/
inductive SC where
  | il (n : Int)
  | int (n : Int)
  | u8 (n : Int)
  | lit (b : Bool)
  | bool (b : Bool)
  | ptr (id b off : Nat)
  | rptr (id : Nat) (ao : Option Addr) (s i c : Nat)
  | sl (id : Nat) (ao : Option Addr) (n cap : Nat)
  | slc (id b n cap : Nat)
  | nil
  | val (v : Value)
  | obj (id : Nat) (v : Value)
  | ul (n : Nat)
  | u64 (n : Int)

def SC.den : SC → Value
  | .il n => .int .i64 n
  | .int n => .int .i64 n
  | .u8 n => .int .u8 n
  | .lit b => .bool b
  | .bool b => .bool b
  | .ptr _ b off => .pointer (some ⟨b, off, none⟩)
  | .rptr _ ao s i c => .pointer (ao.map (·.add (i * s + c)))
  | .sl _ ao n cap => .slice ao n cap
  | .slc _ b n cap => .slice (some ⟨b, 0, none⟩) n cap
  | .nil => .slice none 0 0
  | .val v => v
  | .obj _ v => v
  | .ul n => .int .u64 (n : Int)
  | .u64 n => .int .u64 n

/-- Is it surely the value of one cell? -/
def SC.one : SC → Bool
  | .val _ => false
  | .obj _ _ => false
  | _ => true

theorem SC.one_ok {x : SC} (h : x.one = true) : x.den.oneCell' = true := by
  cases x <;> first | rfl | (simp [SC.one] at h)
theorem SC.one_cells {x : SC} (h : x.one = true) : x.den.cells = #[x.den] := by
  cases x <;> first | rfl | (simp [SC.one] at h)

/-- A value or a struct. -/
inductive SA where
  | c (x : SC)
  | agg (xs : List SC)

def SA.den : SA → Value
  | .c x => x.den
  | .agg xs => .agg (xs.map SC.den).toArray

def SA.cells : SA → List SC
  | .c x => [x]
  | .agg xs => xs

def SA.one : SA → Bool
  | .c x => x.one
  | .agg xs => xs.all SC.one

/-- What a slot holds. -/
inductive SV where
  | a (x : SA)
  | tup (vs : List SA)
  | undef

def SV.den : SV → Value
  | .a x => x.den
  | .tup vs => .tuple (vs.map SA.den).toArray
  | .undef => Go.undef

theorem SA.cells_den {x : SA} (h : x.one = true) : x.den.cells.toList = x.cells.map SC.den := by
  cases x with
  | c x => simp [SA.den, SA.cells, SC.one_cells h]
  | agg xs => simp [SA.den, SA.cells, Value.cells]

theorem SA.one_all {x : SA} (h : x.one = true) : ∀ v ∈ x.cells.map SC.den, v.oneCell' = true := by
  intro v hv
  obtain ⟨y, hy, rfl⟩ := List.mem_map.1 hv
  cases x with
  | c x => simp [SA.cells] at hy; subst hy; exact SC.one_ok h
  | agg xs => exact SC.one_ok (List.all_eq_true.1 h y hy)

def ofC : Value → SC
  | .int .i64 n => .il n
  | .int .u8 n => .u8 n
  | .int .u64 (.ofNat n) => .ul n
  | .bool b => .lit b
  | .slice none 0 0 => .nil
  | v => .val v
theorem ofC_den (v : Value) : (ofC v).den = v := by
  unfold ofC
  split <;> rfl
def ofA : Value → SA
  | .agg cs => .agg (cs.toList.map ofC)
  | v => .c (ofC v)
theorem ofA_den (v : Value) : (ofA v).den = v := by
  unfold ofA
  split
  · simp [SA.den, Function.comp_def, ofC_den]
  · simp [SA.den, ofC_den]

/-! Short words for what a walk's print names most. -/
abbrev iV (n : Int) : SV := .a (.c (.int n))
abbrev lV (n : Int) : SV := .a (.c (.il n))
abbrev bV (b : Bool) : SV := .a (.c (.bool b))
abbrev tV : SV := .a (.c (.lit true))
abbrev fV : SV := .a (.c (.lit false))
abbrev pV (id b off : Nat) : SV := .a (.c (.ptr id b off))
abbrev rV (id : Nat) (ao : Option Addr) (s i c : Nat) : SV := .a (.c (.rptr id ao s i c))
abbrev oV (id : Nat) (v : Value) : SV := .a (.c (.obj id v))
abbrev sV (id : Nat) (ao : Option Addr) (n cap : Nat) : SV := .a (.c (.sl id ao n cap))
abbrev cV (id b n cap : Nat) : SV := .a (.c (.slc id b n cap))
abbrev zV : SV := .a (.c .nil)
abbrev vV (v : Value) : SV := .a (.c (.val v))
abbrev eV (n : Int) : SV := .a (.c (.u8 n))
abbrev aV (xs : List SC) : SV := .a (.agg xs)
abbrev uV (xs : List SA) : SV := .tup xs
abbrev xV : SV := .undef
abbrev Ai (n : Int) : SA := .c (.int n)
abbrev Al (n : Int) : SA := .c (.il n)
abbrev Ab (b : Bool) : SA := .c (.bool b)
abbrev At : SA := .c (.lit true)
abbrev Af : SA := .c (.lit false)
abbrev Ap (id b off : Nat) : SA := .c (.ptr id b off)
abbrev Ar' (id : Nat) (ao : Option Addr) (s i c : Nat) : SA := .c (.rptr id ao s i c)
abbrev Ao (id : Nat) (v : Value) : SA := .c (.obj id v)
abbrev As (id : Nat) (ao : Option Addr) (n cap : Nat) : SA := .c (.sl id ao n cap)
abbrev Ac (id b n cap : Nat) : SA := .c (.slc id b n cap)
abbrev Az : SA := .c .nil
abbrev Av (v : Value) : SA := .c (.val v)
abbrev Ae (n : Int) : SA := .c (.u8 n)
abbrev Ag (xs : List SC) : SA := .agg xs
abbrev Ci (n : Int) : SC := .int n
abbrev Cl (n : Int) : SC := .il n
abbrev Cb (b : Bool) : SC := .bool b
abbrev Ct : SC := .lit true
abbrev Cf : SC := .lit false
abbrev Cp (id b off : Nat) : SC := .ptr id b off
abbrev Cr (id : Nat) (ao : Option Addr) (s i c : Nat) : SC := .rptr id ao s i c
abbrev Co (id : Nat) (v : Value) : SC := .obj id v
abbrev Cs (id : Nat) (ao : Option Addr) (n cap : Nat) : SC := .sl id ao n cap
abbrev Cc (id b n cap : Nat) : SC := .slc id b n cap
abbrev Cz : SC := .nil
abbrev Cv (v : Value) : SC := .val v
abbrev Ce (n : Int) : SC := .u8 n
abbrev Wi (n : Int) : Value := .int .i64 n
abbrev Wb (b : Bool) : Value := .bool b
abbrev Wp (b o : Nat) : Value := .pointer (some ⟨b, o, none⟩)
abbrev Ws (a : Option Addr) (n c : Nat) : Value := .slice a n c
abbrev Wn : Value := .slice none 0 0
abbrev Wa (l : List Value) : Value := .agg l.toArray
abbrev Wu (l : List Value) : Value := .tuple l.toArray
abbrev Ad (b o : Nat) : Option Addr := some ⟨b, o, none⟩

/-! Words that stay as they are when a walk is printed. -/
abbrev selI (j i : Nat) (a b : Int) : Int := if j = i then a else b
abbrev selB (j i : Nat) (a b : Bool) : Bool := if j = i then a else b
abbrev selV (j i : Nat) (a b : Value) : Value := if j = i then a else b
abbrev lowI (j i : Nat) (a b : Int) : Int := if j < i then a else b
abbrev lowB (j i : Nat) (a b : Bool) : Bool := if j < i then a else b
abbrev lowV (j i : Nat) (a b : Value) : Value := if j < i then a else b
abbrev tn (z : Int) : Nat := z.toNat
abbrev ltN (i n : Nat) : Prop := i < n
abbrev addN (n m : Nat) : Nat := n + m
abbrev subN (n m : Nat) : Nat := n - m
abbrev inIdx (z : Int) (n : Nat) : Prop := 0 ≤ z ∧ z < (n : Int)

/-- The choice of a cell by an index. -/
def pk (j i : Nat) (x y : SC) : SC :=
  match x, y with
  | .il a, .il b => .int (selI j i a b)
  | .il a, .int b => .int (selI j i a b)
  | .int a, .il b => .int (selI j i a b)
  | .int a, .int b => .int (selI j i a b)
  | .u8 a, .u8 b => .u8 (selI j i a b)
  | .lit a, .lit b => .bool (selB j i a b)
  | .lit a, .bool b => .bool (selB j i a b)
  | .bool a, .lit b => .bool (selB j i a b)
  | .bool a, .bool b => .bool (selB j i a b)
  | x, y => .val (selV j i x.den y.den)
theorem pk_den (j i : Nat) (x y : SC) : (pk j i x y).den = if j = i then x.den else y.den := by
  unfold pk
  split <;> simp only [SC.den, selI, selB, selV] <;> split <;> rfl

/-- .. below an index. -/
def pkL (j i : Nat) (x y : SC) : SC :=
  match x, y with
  | .il a, .il b => .int (lowI j i a b)
  | .il a, .int b => .int (lowI j i a b)
  | .int a, .il b => .int (lowI j i a b)
  | .int a, .int b => .int (lowI j i a b)
  | .u8 a, .u8 b => .u8 (lowI j i a b)
  | .lit a, .lit b => .bool (lowB j i a b)
  | .lit a, .bool b => .bool (lowB j i a b)
  | .bool a, .lit b => .bool (lowB j i a b)
  | .bool a, .bool b => .bool (lowB j i a b)
  | x, y => .val (lowV j i x.den y.den)
theorem pkL_den (j i : Nat) (x y : SC) : (pkL j i x y).den = if j < i then x.den else y.den := by
  unfold pkL
  split <;> simp only [SC.den, lowI, lowB, lowV] <;> split <;> rfl

/-- A row of n elements of s cells each; its cell c of element i reads fld[c] i. -/
structure Row where
  own : Bool
  ao : Option Addr
  t : TypeId
  s : Nat
  n : Nat
  cap : Nat
  fld : List (Nat → SC)

/-- Cells: how many; how long each one's list is and what it holds; each one's mark. -/
structure CD where
  n : Nat
  sn : Nat → Nat
  sy : Nat → Nat → Int
  po : Nat → Bool
def symRow (o : Bool) (t : Nat) (x : CD) (so : Nat → Option Addr) (sc : Nat → Nat) (i : Nat) : Row := ⟨o, so i, t, 1, x.sn i, sc i, [fun k => .int (x.sy i k)]⟩
def symRows (o : Bool) (t : Nat) (x : CD) (so : Nat → Option Addr) (sc : Nat → Nat) : List Row := (List.range x.n).map (symRow o t x so sc)
/-- One number of one cell's list changed. -/
def setSy (y : CD) (q i : Nat) (a : Int) : CD := ⟨y.n, y.sn, fun j p => if j = q then (if p = i then a else y.sy j p) else y.sy j p, y.po⟩
theorem symRows_mem {o : Bool} {t : Nat} {x : CD} {so : Nat → Option Addr} {sc : Nat → Nat} {i : Nat} (hi : i < x.n) : symRow o t x so sc i ∈ symRows o t x so sc :=
  List.mem_map.2 ⟨i, List.mem_range.2 hi, rfl⟩
theorem symRows_get {o : Bool} {t : Nat} {x : CD} {so : Nat → Option Addr} {sc : Nat → Nat} {i : Nat} (hi : i < x.n) : (symRows o t x so sc)[i]? = some (symRow o t x so sc i) := by
  simp [symRows, hi]

/-- A piece of memory. -/
inductive Ch where
  | cells (b : Nat) (t : TypeId) (cs : List SC)
  | row (r : Row)
  | dead
  | obj (own : Bool) (rs : List Row)
  | whole (b : Nat) (t : TypeId) (g : Bool) (z : Nat) (x : SC)

abbrev Hc (b : Nat) (t : TypeId) (cs : List SC) : Ch := .cells b t cs
abbrev Hr (own : Bool) (ao : Option Addr) (t : TypeId) (s n cap : Nat) (fld : List (Nat → SC)) : Ch := .row ⟨own, ao, t, s, n, cap, fld⟩
abbrev Hd : Ch := .dead
abbrev Ho (own : Bool) (rs : List Row) : Ch := .obj own rs
abbrev Hw (b : Nat) (t : TypeId) (g : Bool) (z : Nat) (x : SC) : Ch := .whole b t g z x

/-- A whole value of z cells: a struct (g), or one cell. -/
def wholeC (g : Bool) (v : Value) (z : Nat) : Prop :=
  match g with
  | true => ∃ cs : Array Value, v = .agg cs ∧ cs.size = z ∧ ∀ u ∈ cs.toList, u.oneCell' = true
  | false => z = 1 ∧ v.oneCell' = true ∧ v.cells = #[v]

def Ch.own : Ch → Bool
  | .cells .. => true
  | .row r => r.own
  | .dead => false
  | .obj o _ => o
  | .whole .. => true

def Row.at (r : Row) (b : Nat) : Prop := (r.own = true ∨ 0 < r.n) ∧ ∃ off, r.ao = some ⟨b, off, none⟩

def Ch.at (c : Ch) (b : Nat) : Prop :=
  match c with
  | .cells b' _ _ => b = b'
  | .row r => r.at b
  | .dead => False
  | .obj _ rs => ∃ r ∈ rs, r.at b
  | .whole b' _ _ _ _ => b = b'

def Row.sat (w : World) (r : Row) : Prop :=
  r.fld.length = r.s ∧
  (r.own = false → 0 < r.n → ∃ b off, r.ao = some ⟨b, off, none⟩ ∧ b < w.heap.size ∧
    ∀ i, i < r.n → ∀ (c : Nat) (f : Nat → SC), r.fld[c]? = some f → w.cell? ⟨b, off + (i * r.s + c), none⟩ = some (f i).den) ∧
  (r.own = true → (r.ao = none ∧ r.n = 0 ∧ r.cap = 0) ∨ ∃ b cs, r.ao = some ⟨b, 0, none⟩ ∧ w.heap[b]? = some (.cells cs r.t (0, 0)) ∧ r.n ≤ r.cap ∧ r.cap ≤ maxLen ∧ cs.size = r.cap * r.s ∧
    ∀ i, i < r.n → ∀ (c : Nat) (f : Nat → SC), r.fld[c]? = some f → cs[i * r.s + c]? = some (f i).den)

def Ch.sat (w : World) : Ch → Prop
  | .cells b t cs => w.heap[b]? = some (.cells (cs.map SC.den).toArray t (0, 0))
  | .row r => r.sat w
  | .dead => True
  | .obj o rs => (∀ r ∈ rs, r.own = o ∧ r.sat w) ∧ (o = true → ∀ (i j : Nat) (p q : Row) (b : Nat), i ≠ j → rs[i]? = some p → rs[j]? = some q → p.at b → q.at b → False)
  | .whole b t g z x => w.heap[b]? = some (.cells x.den.cells t (0, 0)) ∧ wholeC g x.den z

theorem Row.read {w : World} {r : Row} (h : r.sat w) {i : Nat} (hi : i < r.n) : ∃ b off, r.ao = some ⟨b, off, none⟩ ∧ b < w.heap.size ∧
    ∀ (c : Nat) (f : Nat → SC), r.fld[c]? = some f → w.cell? ⟨b, off + (i * r.s + c), none⟩ = some (f i).den := by
  cases ho : r.own with
  | false =>
    obtain ⟨b, off, h1, h2, h3⟩ := h.2.1 ho (by omega)
    exact ⟨b, off, h1, h2, h3 i hi⟩
  | true =>
    rcases h.2.2 ho with ⟨_, h1, _⟩ | ⟨b, cs, h1, h2, _, _, _, h3⟩
    · omega
    · refine ⟨b, 0, h1, (Array.getElem?_eq_some_iff.1 h2).1, fun c f hf => ?_⟩
      rw [Nat.zero_add]
      simp [World.cell?, h2, h3 i hi c f hf]

theorem Row.sat_lt {w : World} {r : Row} {b : Nat} (hr : r.sat w) (ha : r.at b) : b < w.heap.size := by
  obtain ⟨hn, off, hao⟩ := ha
  cases ho : r.own with
  | false =>
    have hn' : 0 < r.n := hn.resolve_left (by simp [ho])
    obtain ⟨b', off', hao', hlt, _⟩ := hr.2.1 ho hn'
    rw [hao'] at hao
    injection hao with hao
    injection hao with hb
    rw [← hb]
    exact hlt
  | true =>
    rcases hr.2.2 ho with ⟨h1, _⟩ | ⟨b', cs, hao', h2, _⟩
    · rw [h1] at hao; cases hao
    · rw [hao'] at hao
      injection hao with hao
      injection hao with hb
      rw [← hb]
      exact (Array.getElem?_eq_some_iff.1 h2).1

theorem Ch.sat_lt {w : World} {c : Ch} {b : Nat} (h : Ch.sat w c) (ha : c.at b) : b < w.heap.size := by
  cases c with
  | cells b' t cs =>
    simp only [Ch.at] at ha
    subst ha
    exact (Array.getElem?_eq_some_iff.1 h).1
  | row r => exact Row.sat_lt h ha
  | dead => exact ha.elim
  | obj o rs =>
    obtain ⟨r, hr, ha⟩ := ha
    exact Row.sat_lt (h.1 r hr).2 ha
  | whole b' t g z x =>
    simp only [Ch.at] at ha
    subst ha
    exact (Array.getElem?_eq_some_iff.1 h.1).1

theorem Row.sat_keep {w w' : World} {r : Row} (hr : r.sat w) (hs : w.heap.size ≤ w'.heap.size) (hb : ∀ b, r.at b → w'.heap[b]? = w.heap[b]?) : r.sat w' := by
  refine ⟨hr.1, fun ho hn => ?_, fun ho => ?_⟩
  · obtain ⟨b, off, hao, hlt, hc⟩ := hr.2.1 ho hn
    have e := hb b ⟨.inr hn, off, hao⟩
    refine ⟨b, off, hao, Nat.lt_of_lt_of_le hlt hs, fun i hi c f hf => ?_⟩
    rw [← hc i hi c f hf]
    exact World.cell?_of_block (w := w) e
  · rcases hr.2.2 ho with h1 | ⟨b, cs, hao, h2, h3⟩
    · exact .inl h1
    · exact .inr ⟨b, cs, hao, (hb b ⟨.inl ho, 0, hao⟩).trans h2, h3⟩

/-- It reads so in every world where its block is as it was. -/
theorem Ch.sat_keep {w w' : World} {c : Ch} (h : Ch.sat w c) (hs : w.heap.size ≤ w'.heap.size) (hb : ∀ b, c.at b → w'.heap[b]? = w.heap[b]?) : Ch.sat w' c := by
  cases c with
  | cells b t cs => exact (hb b rfl).trans h
  | row r => exact Row.sat_keep h hs hb
  | dead => trivial
  | obj o rs => exact ⟨fun r hr => ⟨(h.1 r hr).1, Row.sat_keep (h.1 r hr).2 hs fun b ha => hb b ⟨r, hr, ha⟩⟩, h.2⟩
  | whole b' t g z x => exact ⟨(hb b' rfl).trans h.1, h.2⟩

/-- The world at the start, and the blocks that may be written. -/
structure Cx where
  w0 : World
  M : Nat → Prop

structure Fr (X : Cx) (w : World) : Prop where
  os : w.os = X.w0.os
  tape : w.tape = X.w0.tape
  output : w.output = X.w0.output
  size : X.w0.heap.size ≤ w.heap.size
  block : ∀ k, k < X.w0.heap.size → ¬ X.M k → w.heap[k]? = X.w0.heap[k]?

/-- What the table says of a world. -/
structure HS (X : Cx) (ch : List Ch) (w : World) : Prop where
  fr : Fr X w
  sat : ∀ (i : Nat) (c : Ch), ch[i]? = some c → c.sat w
  dis : ∀ (i j : Nat) (ci cj : Ch) (b : Nat), i ≠ j → ch[i]? = some ci → ch[j]? = some cj → ci.own = true → ci.at b → cj.at b → False
  new : ∀ (i : Nat) (c : Ch) (b : Nat), ch[i]? = some c → c.own = true → c.at b → X.w0.heap.size ≤ b ∨ X.M b

/-- The pieces alone. -/
def Sat (ch : List Ch) (w : World) : Prop := ∀ (i : Nat) (c : Ch), ch[i]? = some c → c.sat w

/-- Outside these numbers the table is as it was. -/
def Agree (ch ch' : List Ch) (mods : List Nat) : Prop := ∀ (i : Nat) (c : Ch), ch[i]? = some c → i ∉ mods → ch'[i]? = some c
theorem Agree.refl (ch : List Ch) : Agree ch ch [] := fun _ _ h _ => h
theorem Agree.app (ch : List Ch) (more : List Ch) : Agree ch (ch ++ more) [] := fun i c h _ => by
  rw [List.getElem?_append_left (List.getElem?_eq_some_iff.1 h).1]; exact h
theorem Agree.set (ch : List Ch) (id : Nat) (c : Ch) : Agree ch (ch.set id c) [id] := fun i d h hi => by
  rw [List.getElem?_set_ne (fun e => hi (by simp [e]))]; exact h

/-- All blocks that were there are as they were. -/
theorem HS.keep {X : Cx} {ch : List Ch} {w w' : World} (h : HS X ch w) (hb : Below w.heap.size w w') : HS X ch w' where
  fr := ⟨hb.os.trans h.fr.os, hb.tape.trans h.fr.tape, hb.output.trans h.fr.output, Nat.le_trans h.fr.size hb.size, fun k hk hM => (hb.block k (Nat.lt_of_lt_of_le hk h.fr.size)).trans (h.fr.block k hk hM)⟩
  sat := fun i c hc => Ch.sat_keep (h.sat i c hc) hb.size (fun b ha => hb.block b (Ch.sat_lt (h.sat i c hc) ha))
  dis := h.dis
  new := h.new

theorem get_app_one {α : Type} {l : List α} {x y : α} {i : Nat} (h : (l ++ [x])[i]? = some y) : l[i]? = some y ∨ (i = l.length ∧ y = x) := by
  rw [List.getElem?_append] at h
  split at h
  · exact .inl h
  · rename_i hi
    right
    have : i - l.length = 0 := by
      cases e : i - l.length with
      | zero => rfl
      | succ m => rw [e] at h; simp at h
    rw [this] at h
    simp at h
    exact ⟨by omega, h.symm⟩

/-- A new piece, behind a step that left the old blocks alone. -/
theorem HS.add {X : Cx} {ch : List Ch} {w w' : World} (h : HS X ch w) (hb : Below w.heap.size w w') (c : Ch) (hs : c.sat w') (hn : ∀ b, c.at b → w.heap.size ≤ b) : HS X (ch ++ [c]) w' where
  fr := (h.keep hb).fr
  sat := fun i d hd => by
    rcases get_app_one hd with hd | ⟨_, rfl⟩
    · exact (h.keep hb).sat i d hd
    · exact hs
  dis := fun i j ci cj b hij hi hj ho hai haj => by
    rcases get_app_one hi with hi' | ⟨hi1, rfl⟩
    · rcases get_app_one hj with hj' | ⟨_, rfl⟩
      · exact h.dis i j ci cj b hij hi' hj' ho hai haj
      · have := Ch.sat_lt (h.sat i ci hi') hai
        have := hn b haj
        omega
    · rcases get_app_one hj with hj' | ⟨hj1, _⟩
      · have := Ch.sat_lt (h.sat j cj hj') haj
        have := hn b hai
        omega
      · exact hij (hi1.trans hj1.symm)
  new := fun i d b hd ho ha => by
    rcases get_app_one hd with hd | ⟨_, rfl⟩
    · exact h.new i d b hd ho ha
    · exact .inl (Nat.le_trans h.fr.size (hn b ha))

theorem get_set {α : Type} {l : List α} {x y : α} {id i : Nat} (h : (l.set id x)[i]? = some y) : (i = id ∧ y = x ∧ id < l.length) ∨ (i ≠ id ∧ l[i]? = some y) := by
  rw [List.getElem?_set] at h
  split at h
  · rename_i e
    split at h
    · injection h with h
      exact .inl ⟨e.symm, h.symm, by assumption⟩
    · cases h
  · rename_i e
    exact .inr ⟨fun q => e q.symm, h⟩

/-- An own piece turned: its block alone has changed. -/
theorem HS.turn {X : Cx} {ch : List Ch} {w w' : World} {id g : Nat} {c d : Ch} (h : HS X ch w) (hid : ch[id]? = some c) (ho : c.own = true) (hg : c.at g)
    (hos : w'.os = w.os) (ht : w'.tape = w.tape) (hout : w'.output = w.output) (hsz : w'.heap.size = w.heap.size) (hk : ∀ k, k ≠ g → w'.heap[k]? = w.heap[k]?)
    (hd : d.sat w') (hda : ∀ b, d.at b → c.at b) (hc1 : ∀ b, c.at b → b = g) : HS X (ch.set id d) w' where
  fr := ⟨hos.trans h.fr.os, ht.trans h.fr.tape, hout.trans h.fr.output, by rw [hsz]; exact h.fr.size, fun k hk0 hM => by
    refine (hk k ?_).trans (h.fr.block k hk0 hM)
    rintro rfl
    rcases h.new id c _ hid ho hg with h1 | h1
    · omega
    · exact hM h1⟩
  sat := fun i e he => by
    rcases get_set he with ⟨rfl, rfl, _⟩ | ⟨hne, he⟩
    · exact hd
    · refine Ch.sat_keep (h.sat i e he) (by rw [hsz]; exact Nat.le_refl _) (fun b ha => hk b ?_)
      rintro rfl
      exact h.dis id i c e _ (fun q => hne q.symm) hid he ho hg ha
  dis := fun i j ci cj b hij hi hj hoi hai haj => by
    rcases get_set hi with ⟨rfl, rfl, _⟩ | ⟨hne, hi'⟩
    · rcases get_set hj with ⟨rfl, _, _⟩ | ⟨hne', hj'⟩
      · exact hij rfl
      · exact h.dis i j c cj b hij hid hj' ho (hda b hai) haj
    · rcases get_set hj with ⟨rfl, rfl, _⟩ | ⟨hne', hj'⟩
      · exact h.dis i j ci c b hij hi' hid hoi hai (hda b haj)
      · exact h.dis i j ci cj b hij hi' hj' hoi hai haj
  new := fun i e b he hoe ha => by
    rcases get_set he with ⟨rfl, rfl, _⟩ | ⟨_, he⟩
    · exact h.new _ c b hid ho (hda b ha)
    · exact h.new i e b he hoe ha

/-- A piece forgotten. -/
theorem HS.kill {X : Cx} {ch : List Ch} {w : World} (h : HS X ch w) (id : Nat) : HS X (ch.set id .dead) w where
  fr := h.fr
  sat := fun i e he => by
    rcases get_set he with ⟨_, rfl, _⟩ | ⟨_, he⟩
    · trivial
    · exact h.sat i e he
  dis := fun i j ci cj b hij hi hj ho hai haj => by
    rcases get_set hi with ⟨_, rfl, _⟩ | ⟨_, hi'⟩
    · exact hai.elim
    · rcases get_set hj with ⟨_, rfl, _⟩ | ⟨_, hj'⟩
      · exact haj.elim
      · exact h.dis i j ci cj b hij hi' hj' ho hai haj
  new := fun i e b he ho ha => by
    rcases get_set he with ⟨_, rfl, _⟩ | ⟨_, he⟩
    · exact ha.elim
    · exact h.new i e b he ho ha

theorem HS.all {X : Cx} {ch : List Ch} {w : World} (h : HS X ch w) : Sat ch w := h.sat

/-- Below the world at the start, if no block may be written. -/
theorem HS.below {w0 : World} {ch : List Ch} {w : World} (h : HS ⟨w0, fun _ => False⟩ ch w) : Below w0.heap.size w0 w :=
  ⟨h.fr.os, h.fr.tape, h.fr.output, h.fr.size, fun k hk => h.fr.block k hk (fun f => f)⟩
theorem HS.start (w0 : World) (M : Nat → Prop) : HS ⟨w0, M⟩ [] w0 :=
  ⟨⟨rfl, rfl, rfl, Nat.le_refl _, fun _ _ _ => rfl⟩, fun i c h => by simp at h, fun i j ci cj b _ h => by simp at h, fun i c b h => by simp at h⟩

/-- A row that is only read joins the table. -/
theorem HS.see {X : Cx} {ch : List Ch} {w : World} (h : HS X ch w) (r : Row) (hr : r.own = false) (hs : r.sat w) (hn : ∀ (i : Nat) (c : Ch) (b : Nat), ch[i]? = some c → c.own = true → c.at b → ¬ (Ch.row r).at b) : HS X (ch ++ [.row r]) w where
  fr := h.fr
  sat := fun i d hd => by
    rcases get_app_one hd with hd | ⟨_, rfl⟩
    · exact h.sat i d hd
    · exact hs
  dis := fun i j ci cj b hij hi hj ho hai haj => by
    rcases get_app_one hi with hi' | ⟨hi1, rfl⟩
    · rcases get_app_one hj with hj' | ⟨_, rfl⟩
      · exact h.dis i j ci cj b hij hi' hj' ho hai haj
      · exact hn i ci b hi' ho hai haj
    · simp [Ch.own, hr] at ho
  new := fun i d b hd ho ha => by
    rcases get_app_one hd with hd | ⟨_, rfl⟩
    · exact h.new i d b hd ho ha
    · simp [Ch.own, hr] at ho

/-- The same cells, said otherwise. -/
theorem HS.congr {X : Cx} {ch : List Ch} {w : World} (h : HS X ch w) (id : Nat) (r : Row) (hid : ch[id]? = some (.row r)) (fld : List (Nat → SC)) (hl : fld.length = r.fld.length)
    (hf : ∀ (c : Nat) (f g : Nat → SC), r.fld[c]? = some f → fld[c]? = some g → ∀ i, i < r.n → (f i).den = (g i).den) : HS X (ch.set id (.row { r with fld := fld })) w where
  fr := h.fr
  sat := fun i e he => by
    rcases get_set he with ⟨_, rfl, _⟩ | ⟨_, he⟩
    · have hr : r.sat w := h.sat id _ hid
      have hg : ∀ (c : Nat) (g : Nat → SC), fld[c]? = some g → ∃ f : Nat → SC, r.fld[c]? = some f ∧ ∀ i, i < r.n → (f i).den = (g i).den := fun c g hg => by
        have hc : c < r.fld.length := by rw [← hl]; exact (List.getElem?_eq_some_iff.1 hg).1
        exact ⟨_, List.getElem?_eq_getElem hc, hf c _ g (List.getElem?_eq_getElem hc) hg⟩
      refine ⟨hl.trans hr.1, fun ho hn => ?_, fun ho => ?_⟩
      · obtain ⟨b, off, h1, h2, h3⟩ := hr.2.1 ho hn
        refine ⟨b, off, h1, h2, fun i hi c g hg' => ?_⟩
        obtain ⟨f, hf1, hf2⟩ := hg c g hg'
        rw [h3 i hi c f hf1, hf2 i hi]
      · rcases hr.2.2 ho with h1 | ⟨b, cs, h1, h2, h3, h4, h5, h6⟩
        · exact .inl h1
        · refine .inr ⟨b, cs, h1, h2, h3, h4, h5, fun i hi c g hg' => ?_⟩
          obtain ⟨f, hf1, hf2⟩ := hg c g hg'
          rw [h6 i hi c f hf1, hf2 i hi]
    · exact h.sat i e he
  dis := fun i j ci cj b hij hi hj ho hai haj => by
    rcases get_set hi with ⟨rfl, rfl, _⟩ | ⟨_, hi'⟩
    · rcases get_set hj with ⟨rfl, rfl, _⟩ | ⟨_, hj'⟩
      · exact hij rfl
      · exact h.dis i j _ cj b hij hid hj' ho hai haj
    · rcases get_set hj with ⟨rfl, rfl, _⟩ | ⟨_, hj'⟩
      · exact h.dis i j ci _ b hij hi' hid ho hai haj
      · exact h.dis i j ci cj b hij hi' hj' ho hai haj
  new := fun i e b he ho ha => by
    rcases get_set he with ⟨rfl, rfl, _⟩ | ⟨_, he⟩
    · exact h.new i _ b hid ho ha
    · exact h.new i e b he ho ha
end Go.Proofs.Ytmgjmglmjfjliab

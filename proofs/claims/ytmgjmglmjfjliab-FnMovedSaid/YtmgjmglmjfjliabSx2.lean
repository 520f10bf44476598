/-
  A walk by symbols, part 2: operations that only compute or read.
-/
import Derived.Test.YtmgjmglmjfjliabSx1
namespace Go.Proofs.Ytmgjmglmjfjliab
set_option linter.unusedVariables false
set_option linter.unusedSimpArgs false
open Go.RowKit

def szOf (P : Program) (t : TypeId) : Option Nat := (P.info? t).map (·.size)
def aggOf (P : Program) (t : TypeId) : Option Bool := (P.underlying t).map fun
  | .struct _ => true
  | .array _ _ => true
  | _ => false
theorem run_sizeOf' {P : Program} {t : TypeId} {z : Nat} (h : szOf P t = some z) (w : World) : (sizeOf t).run P w = .ok z w := by
  unfold szOf at h
  cases hi : P.info? t with
  | none => simp [hi] at h
  | some i =>
    simp only [hi, Option.map_some] at h
    injection h with h
    subst h
    simp [sizeOf, typeInfo, hi]
theorem run_isAgg' {P : Program} {t : TypeId} {g : Bool} (h : aggOf P t = some g) (w : World) : (isAgg t).run P w = .ok g w := by
  unfold aggOf at h
  cases hu : P.underlying t with
  | none => simp [hu] at h
  | some d =>
    simp only [hu, Option.map_some] at h
    injection h with h
    subst h
    unfold isAgg
    rw [Sem.run_bind, run_underlying hu w]
    cases d <;> rfl

theorem add_add (b off j : Nat) : (⟨b, off, none⟩ : Addr).add j = ⟨b, off + j, none⟩ := by
  unfold Addr.add
  split
  · rename_i h; subst h; rfl
  · rfl

theorem run_load_agg {P : Program} {t : TypeId} {z : Nat} (hz : szOf P t = some z) (ha : aggOf P t = some true) {w : World} {b off : Nat} {l : List Value} (hl : l.length = z)
    (h : ∀ (j : Nat) v, l[j]? = some v → w.cell? ⟨b, off + j, none⟩ = some v) : (loadVar t ⟨b, off, none⟩).run P w = .ok (.agg l.toArray) w := by
  have := run_loadCells_list (P := P) w ⟨b, off, none⟩ l (fun j v hv => by rw [add_add]; exact h j v hv)
  simp only [loadVar, Sem.run_bind, run_isAgg' ha, Result.andThen_ok, if_true, run_sizeOf' hz, ← hl, this, Sem.run_pure]
theorem run_load_one {P : Program} {t : TypeId} (ha : aggOf P t = some false) {w : World} {a : Addr} {v : Value} (h : w.cell? a = some v) : (loadVar t a).run P w = .ok v w := by
  simp only [loadVar, Sem.run_bind, run_isAgg' ha, Result.andThen_ok, Bool.false_eq_true, if_false, run_load, h]

/-- What an operand is. -/
def ev (ts : List SV) : Operand → SV
  | .tmp t => ts.getD t .undef
  | .const v => .a (ofA v)
  | .global g => .a (.c (.val (.pointer (some ⟨g, 0, none⟩))))
  | .func f => .a (.c (.val (.func (.func f) #[] #[])))
def Ts (ts : List SV) (a : Act) : Prop := a.tmps = (ts.map SV.den).toArray
theorem ev_den {ts : List SV} {a : Act} (h : Ts ts a) (x : Operand) : a.eval x = (ev ts x).den := by
  cases x with
  | tmp t =>
    simp only [Act.eval, ev]
    rw [show a.tmps = (ts.map SV.den).toArray from h]
    simp only [Array.getD_eq_getD_getElem?, List.getElem?_toArray, List.getElem?_map, List.getD_eq_getElem?_getD]
    cases ts[t]? <;> rfl
  | const v => simp only [Act.eval, ev, SV.den, ofA_den]
  | global g => rfl
  | func f => rfl

/-! loads -/
def exLoad (P : Program) (t : TypeId) (x : SV) (ch : List Ch) (k : SA → Prop) : Prop :=
  match x with
  | .a (.c (.ptr id b off)) =>
    match ch[id]? with
    | some (.cells b' _ cs) => b = b' ∧
      match aggOf P t with
      | some true =>
        match szOf P t with
        | some z =>
          match Nat.ble (off + z) cs.length with
          | true => k (.agg ((cs.drop off).take z))
          | false => False
        | none => False
      | some false =>
        match cs[off]? with
        | some y => k (.c y)
        | none => False
      | none => False
    | some (.whole b' _ g z x) =>
      match off, aggOf P t, g, szOf P t with
      | 0, some true, true, some z' =>
        match Nat.beq z' z with
        | true => b = b' ∧ k (.c x)
        | false => False
      | 0, some false, false, _ => b = b' ∧ k (.c x)
      | _, _, _, _ => False
    | _ => False
  | .a (.c (.rptr id ao s i c)) =>
    match ch[id]? with
    | some (.row r) => ao = r.ao ∧ ltN i r.n ∧
      match Nat.beq s r.s with
      | true =>
        match aggOf P t with
        | some true =>
          match szOf P t with
          | some z =>
            match Nat.ble (c + z) r.fld.length with
            | true => k (.agg (((r.fld.drop c).take z).map (· i)))
            | false => False
          | none => False
        | some false =>
          match r.fld[c]? with
          | some f => k (.c (f i))
          | none => False
        | none => False
      | false => False
    | some (.obj o rs) =>
      match Nat.beq s 1, Nat.beq c 0, aggOf P t with
      | true, true, some false => ∃ (t' : Nat) (y : CD) (so : Nat → Option Addr) (sc : Nat → Nat) (q : Nat), (rs = symRows o t' y so sc ∧ ao = so q ∧ ltN q y.n ∧ ltN i (y.sn q)) ∧ k (.c (.int (y.sy q i)))
      | _, _, _ => False
    | _ => False
  | _ => False

theorem rptr_some {ao : Option Addr} {b off m : Nat} (h : ao = some ⟨b, off, none⟩) : ao.map (·.add m) = some ⟨b, off + m, none⟩ := by
  rw [h]
  simp only [Option.map_some, add_add]

theorem exLoad_ok {P : Program} {t : TypeId} {x : SV} {ch : List Ch} {k : SA → Prop} (h : exLoad P t x ch k) :
    ∃ v, k v ∧ ∀ w, Sat ch w → (Instr.loadAt t x.den).run P w = .ok v.den w := by
  unfold exLoad at h
  split at h
  · rename_i id b off
    split at h
    · rename_i b' ty cs hid
      obtain ⟨rfl, h⟩ := h
      have hblk : ∀ w, Sat ch w → w.heap[b]? = some (.cells (cs.map SC.den).toArray ty (0, 0)) := fun w hw => hw id _ hid
      split at h
      · rename_i ha
        split at h
        · rename_i z hz
          split at h
          · rename_i hle
            refine ⟨_, h, fun w hw => ?_⟩
            have hle' := Nat.le_of_ble_eq_true hle
            have := run_load_agg (P := P) hz ha (w := w) (b := b) (off := off) (l := ((cs.drop off).take z).map SC.den) (by simp; omega) (fun j v hv => by
              have hj : j < z := by
                rcases Nat.lt_or_ge j z with hj | hj
                · exact hj
                · rw [List.getElem?_eq_none (by simp; omega)] at hv; cases hv
              simp only [World.cell?, hblk w hw, Option.isSome_none, Bool.false_eq_true, if_false, List.getElem?_toArray]
              rw [← hv]
              simp [hj])
            simp only [Instr.loadAt, SV.den, SA.den, SC.den, Instr.sureAddr, Sem.run_bind, Sem.run_pure, Result.andThen_ok, this]
          · exact h.elim
        · exact h.elim
      · rename_i ha
        split at h
        · rename_i y hy
          refine ⟨_, h, fun w hw => ?_⟩
          have := run_load_one (P := P) ha (w := w) (a := ⟨b, off, none⟩) (v := y.den) (by
            simp [World.cell?, hblk w hw, hy])
          simp only [Instr.loadAt, SV.den, SA.den, SC.den, Instr.sureAddr, Sem.run_bind, Sem.run_pure, Result.andThen_ok, this]
        · exact h.elim
      · exact h.elim
    · rename_i b' ty g z x hid
      split at h
      · rename_i z' ha hz
        split at h
        · rename_i hzz
          have hzz' := Nat.eq_of_beq_eq_true hzz
          subst hzz'
          obtain ⟨rfl, h⟩ := h
          refine ⟨_, h, fun w hw => ?_⟩
          obtain ⟨hg, cs, hv, hcs, _⟩ := hw id _ hid
          rw [hv] at hg
          have := run_load_agg (P := P) hz ha (w := w) (b := b) (off := 0) (l := cs.toList) (by simpa using hcs) (fun j v hv => by
            simp only [World.cell?, hg, Value.cells, Option.isSome_none, Bool.false_eq_true, if_false]
            simpa using hv)
          rw [show (SV.a (SA.c (SC.ptr id b 0))).den = .pointer (some ⟨b, 0, none⟩) from rfl, SA.den, hv]
          simp only [Instr.loadAt, Instr.sureAddr, Sem.run_bind, Sem.run_pure, Result.andThen_ok, this]
        · exact h.elim
      · rename_i ha
        obtain ⟨rfl, h⟩ := h
        refine ⟨_, h, fun w hw => ?_⟩
        obtain ⟨hg, _, _, hc⟩ := hw id _ hid
        have := run_load_one (P := P) ha (w := w) (a := ⟨b, 0, none⟩) (v := x.den) (by
          simp [World.cell?, hg, hc])
        rw [show (SV.a (SA.c (SC.ptr id b 0))).den = .pointer (some ⟨b, 0, none⟩) from rfl, SA.den]
        simp only [Instr.loadAt, Instr.sureAddr, Sem.run_bind, Sem.run_pure, Result.andThen_ok, this]
      · exact h.elim
    · exact h.elim
  · rename_i id ao s i c
    split at h
    · rename_i r hid
      obtain ⟨rfl, hi, h⟩ := h
      split at h
      · rename_i hs
        have hs' := Nat.eq_of_beq_eq_true hs
        subst hs'
        split at h
        · rename_i ha
          split at h
          · rename_i z hz
            split at h
            · rename_i hle
              refine ⟨_, h, fun w hw => ?_⟩
              have hle' := Nat.le_of_ble_eq_true hle
              obtain ⟨b, off, hao, _, hc⟩ := Row.read (show r.sat w from hw id _ hid) hi
              have := run_load_agg (P := P) hz ha (w := w) (b := b) (off := off + (i * r.s + c)) (l := (((r.fld.drop c).take z).map (· i)).map SC.den) (by simp; omega) (fun j v hv => by
                have hj : j < z := by
                  rcases Nat.lt_or_ge j z with hj | hj
                  · exact hj
                  · rw [List.getElem?_eq_none (by simp; omega)] at hv; cases hv
                simp [hj] at hv
                obtain ⟨g, hg, rfl⟩ := hv
                rw [← hc (c + j) g hg]
                congr 2
                omega)
              simp only [Instr.loadAt, SV.den, SA.den, SC.den, rptr_some hao, Instr.sureAddr, Sem.run_bind, Sem.run_pure, Result.andThen_ok, this]
            · exact h.elim
          · exact h.elim
        · rename_i ha
          split at h
          · rename_i f hf
            refine ⟨_, h, fun w hw => ?_⟩
            obtain ⟨b, off, hao, _, hc⟩ := Row.read (show r.sat w from hw id _ hid) hi
            have := run_load_one (P := P) ha (hc c f hf)
            simp only [Instr.loadAt, SV.den, SA.den, SC.den, rptr_some hao, Instr.sureAddr, Sem.run_bind, Sem.run_pure, Result.andThen_ok, this]
          · exact h.elim
        · exact h.elim
      · exact h.elim
    · rename_i o rs hid
      split at h
      · rename_i h1 h0 ha
        have e1 := Nat.eq_of_beq_eq_true h1
        have e0 := Nat.eq_of_beq_eq_true h0
        subst e1
        subst e0
        obtain ⟨t', y, so, sc, q, ⟨rfl, rfl, hq, hi⟩, h⟩ := h
        refine ⟨_, h, fun w hw => ?_⟩
        have hr : (symRow o t' y so sc q).sat w := ((hw id _ hid).1 _ (symRows_mem hq)).2
        obtain ⟨b, off, hao, _, hc⟩ := Row.read hr (i := i) hi
        have hao' : so q = some ⟨b, off, none⟩ := hao
        have := run_load_one (P := P) ha (hc 0 _ rfl)
        simp only [symRow, Nat.mul_one, Nat.add_zero] at this
        simp only [Instr.loadAt, SV.den, SA.den, SC.den, rptr_some hao', Instr.sureAddr, Sem.run_bind, Sem.run_pure, Result.andThen_ok, Nat.mul_one, Nat.add_zero, this]
      · exact h.elim
    · exact h.elim
  · exact h.elim

/-! addresses and parts -/
def fieldOf (P : Program) (s : TypeId) (f : Nat) : Option Field :=
  match P.underlying s with
  | some (.struct fs) => fs[f]?
  | _ => none

def posB : Option Nat → Bool
  | some (_ + 1) => true
  | _ => false
theorem posB_ok {o : Option Nat} (h : posB o = true) : ∃ z, o = some z ∧ z ≠ 0 := by
  unfold posB at h
  split at h
  · rename_i n; exact ⟨n + 1, rfl, by omega⟩
  · cases h

def exFieldAddr (P : Program) (s : TypeId) (x : SV) (f : Nat) (ch : List Ch) (k : SC → Prop) : Prop :=
  match fieldOf P s f with
  | some fd =>
    match posB (szOf P fd.type) with
    | true =>
      match x with
      | .a (.c (.ptr id b off)) => k (.ptr id b (off + fd.offset))
      | .a (.c (.rptr id ao z i c)) =>
        match ch[id]? with
        | some (.row r) => ao = r.ao ∧ ltN i r.n ∧ k (.rptr id ao z i (c + fd.offset))
        | _ => False
      | _ => False
    | false => False
  | none => False

theorem run_fieldAt {P : Program} {s : TypeId} {f : Nat} {fd : Field} (h : fieldOf P s f = some fd) (hz : posB (szOf P fd.type) = true) (b off : Nat) (w : World) :
    (Instr.fieldAt s (.pointer (some ⟨b, off, none⟩)) f).run P w = .ok (.pointer (some ⟨b, off + fd.offset, none⟩)) w := by
  unfold fieldOf at h
  split at h
  · rename_i fs hu
    obtain ⟨z, hz1, hz2⟩ := posB_ok hz
    simp only [Instr.fieldAt, Sem.run_bind, run_underlying hu, Result.andThen_ok, h, Instr.sureAddr, Sem.run_pure, fieldPlace, run_sizeOf' hz1, if_neg hz2, add_add]
  · cases h

theorem exFieldAddr_ok {P : Program} {s : TypeId} {x : SV} {f : Nat} {ch : List Ch} {k : SC → Prop} (h : exFieldAddr P s x f ch k) :
    ∃ v, k v ∧ ∀ w0, Sat ch w0 → ∀ w, (Instr.fieldAt s x.den f).run P w = .ok v.den w := by
  unfold exFieldAddr at h
  split at h
  · rename_i fd hfd
    split at h
    · rename_i hz
      split at h
      · rename_i id b off
        exact ⟨_, h, fun _ _ w => run_fieldAt hfd hz b off w⟩
      · rename_i id ao z i c
        split at h
        · rename_i r hid
          obtain ⟨rfl, hi, h⟩ := h
          refine ⟨_, h, fun w0 hw w => ?_⟩
          obtain ⟨b, off, hao, _⟩ := Row.read (show r.sat w0 from hw id _ hid) hi
          simp only [SV.den, SA.den, SC.den, rptr_some hao]
          rw [run_fieldAt hfd hz, Nat.add_assoc, Nat.add_assoc]
        · exact h.elim
      · exact h.elim
    · exact h.elim
  · exact h.elim

def exField (P : Program) (t : TypeId) (x : SV) (f : Nat) (k : SA → Prop) : Prop :=
  match fieldOf P t f with
  | some fd =>
    match x with
    | .a (.agg xs) =>
      match aggOf P fd.type with
      | some true =>
        match szOf P fd.type with
        | some z => k (.agg ((xs.drop fd.offset).take z))
        | none => False
      | some false =>
        match xs[fd.offset]? with
        | some y => k (.c y)
        | none => False
      | none => False
    | _ => False
  | none => False

theorem exField_ok {P : Program} {t : TypeId} {x : SV} {f : Nat} {k : SA → Prop} (h : exField P t x f k) :
    ∃ v, k v ∧ ∀ w : World, (Instr.field t x.den f).run P w = .ok v.den w := by
  unfold exField at h
  split at h
  · rename_i fd hfd
    have hfd' := hfd
    unfold fieldOf at hfd
    split at hfd
    · rename_i fs hu
      split at h
      · rename_i xs
        split at h
        · rename_i ha
          split at h
          · rename_i z hz
            refine ⟨_, h, fun w => ?_⟩
            simp only [Instr.field, SV.den, SA.den, Sem.run_bind, run_underlying hu, Result.andThen_ok, hfd, asAgg, Sem.run_pure, part, run_isAgg' ha, if_true, run_sizeOf' hz]
            congr 2
            apply Array.ext'
            simp [List.map_take, List.map_drop, List.take_drop]
          · exact h.elim
        · rename_i ha
          split at h
          · rename_i y hy
            refine ⟨_, h, fun w => ?_⟩
            simp [Instr.field, SV.den, SA.den, Sem.run_bind, run_underlying hu, Result.andThen_ok, hfd, asAgg, Sem.run_pure, part, run_isAgg' ha, hy]
          · exact h.elim
        · exact h.elim
      · exact h.elim
    · cases hfd
  · exact h.elim

def asI : SC → Option Int
  | .il n => some n
  | .int n => some n
  | _ => none
theorem asI_den {x : SC} {n : Int} (h : asI x = some n) : x.den = .int .i64 n := by
  cases x <;> simp [asI] at h <;> subst h <;> rfl

/-- A literal index within a literal length. -/
def inB (z : Int) (n : Nat) : Option Nat :=
  match z with
  | .ofNat m => match Nat.blt m n with | true => some m | false => none
  | .negSucc _ => none
theorem inB_ok {z : Int} {n m : Nat} (h : inB z n = some m) : z = (m : Int) ∧ m < n := by
  unfold inB at h
  split at h
  · split at h
    · rename_i q hq
      injection h with h
      subst h
      refine ⟨rfl, ?_⟩
      have := Nat.le_of_ble_eq_true hq
      omega
    · cases h
  · cases h

def elemOf' (P : Program) (t : TypeId) : Option TypeId :=
  match P.underlying t with
  | some (.slice e) => some e
  | _ => none
theorem elemOf_ok {P : Program} {t e : TypeId} (h : elemOf' P t = some e) : P.underlying t = some (.slice e) := by
  unfold elemOf' at h
  split at h
  · rename_i e' hu; injection h with h; subst h; exact hu
  · cases h

/-- One of the first n, each said apart. -/
def pickAll (p : Nat → Prop) : Nat → Prop
  | 0 => True
  | m + 1 => p m ∧ pickAll p m
theorem pickAll_get {p : Nat → Prop} : ∀ {n m : Nat}, pickAll p n → m < n → p m := by
  intro n
  induction n with
  | zero => intro m _ h; omega
  | succ n ih =>
    intro m h hm
    by_cases e : m = n
    · rw [e]; exact h.1
    · exact ih h.2 (by omega)
def isLit : SC → Bool
  | .il _ => true
  | _ => false
def exIndexAddr (P : Program) (t : TypeId) (x y : SV) (ch : List Ch) (k : SC → Prop) : Prop :=
  match elemOf' P t with
  | some e =>
    match szOf P e with
    | some s =>
      match y with
      | .a (.c yc) =>
        match asI yc with
        | some z =>
          match x with
          | .a (.c (.sl id ao n _)) =>
            match ch[id]? with
            | some (.row r) => ao = r.ao ∧ n = r.n ∧ inIdx z n ∧ k (.rptr id ao s (tn z) 0)
            | some (.obj o rs) => ∃ (t' : Nat) (y : CD) (so : Nat → Option Addr) (sc : Nat → Nat) (q : Nat), (rs = symRows o t' y so sc ∧ ao = so q ∧ n = y.sn q ∧ ltN q y.n ∧ inIdx z n) ∧ k (.rptr id ao s (tn z) 0)
            | _ => False
          | .a (.c (.slc id b n _)) =>
            match isLit yc with
            | true =>
              match inB z n with
              | some m => k (.ptr id b (m * s))
              | none => False
            | false => inIdx z n ∧ pickAll (fun m => z = (m : Int) → k (.ptr id b (m * s))) n
          | _ => False
        | none => False
      | _ => False
    | none => False
  | none => False

theorem run_indexAt {P : Program} {t e : TypeId} (he : P.underlying t = some (.slice e)) {s : Nat} (hs : szOf P e = some s) (b off n cap : Nat) (z : Int) (h0 : 0 ≤ z) (h1 : z < (n : Int)) (w : World) :
    (Instr.indexAt t (.slice (some ⟨b, off, none⟩) n cap) (.int .i64 z)).run P w = .ok (.pointer (some ⟨b, off + z.toNat * s, none⟩)) w := by
  simp [Instr.indexAt, asIntOf, run_underlying he, h0, h1, run_sizeOf' hs, add_add]

theorem exIndexAddr_ok {P : Program} {t : TypeId} {x y : SV} {ch : List Ch} {k : SC → Prop} (h : exIndexAddr P t x y ch k) :
    ∃ v, k v ∧ ∀ w0, Sat ch w0 → ∀ w, (Instr.indexAt t x.den y.den).run P w = .ok v.den w := by
  unfold exIndexAddr at h
  split at h
  · rename_i e he
    have hu := elemOf_ok he
    split at h
    · rename_i s hs
      split at h
      · rename_i yc
        split at h
        · rename_i z hz
          split at h
          · rename_i id ao n cap
            split at h
            · rename_i r hid
              obtain ⟨rfl, rfl, ⟨h0, h1⟩, h⟩ := h
              refine ⟨_, h, fun w0 hw w => ?_⟩
              obtain ⟨b, off, hao, _⟩ := Row.read (show r.sat w0 from hw id _ hid) (i := z.toNat) (by omega)
              rw [show (SV.a (.c yc)).den = .int .i64 z from asI_den hz]
              simp only [SV.den, SA.den, SC.den]
              rw [hao, run_indexAt hu hs b off _ _ _ h0 h1]
              simp [add_add]
            · rename_i o rs hid
              obtain ⟨t', y, so, sc, q, ⟨rfl, rfl, rfl, hq, h0, h1⟩, h⟩ := h
              refine ⟨_, h, fun w0 hw w => ?_⟩
              have hr : (symRow o t' y so sc q).sat w0 := ((hw id _ hid).1 _ (symRows_mem hq)).2
              obtain ⟨b, off, hao, _⟩ := Row.read hr (i := z.toNat) (by show z.toNat < y.sn q; omega)
              have hao' : so q = some ⟨b, off, none⟩ := hao
              rw [show (SV.a (.c yc)).den = .int .i64 z from asI_den hz]
              simp only [SV.den, SA.den, SC.den]
              rw [hao', run_indexAt hu hs b off _ _ _ h0 h1]
              simp [add_add]
            · exact h.elim
          · rename_i id b n cap
            split at h
            · split at h
              · rename_i m hm
                refine ⟨_, h, fun w0 hw w => ?_⟩
                obtain ⟨rfl, hlt⟩ := inB_ok hm
                rw [show (SV.a (.c yc)).den = .int .i64 (m : Int) from asI_den hz]
                simp only [SV.den, SA.den, SC.den]
                rw [run_indexAt hu hs b 0 _ _ _ (by omega) (by omega)]
                simp
              · exact h.elim
            · obtain ⟨⟨h0, h1⟩, h⟩ := h
              refine ⟨_, pickAll_get (m := z.toNat) h (by omega) (by omega), fun w0 hw w => ?_⟩
              rw [show (SV.a (.c yc)).den = .int .i64 z from asI_den hz]
              simp only [SV.den, SA.den, SC.den]
              rw [run_indexAt hu hs b 0 _ _ _ h0 h1]
              simp
          · exact h.elim
        · exact h.elim
      · exact h.elim
    · exact h.elim
  · exact h.elim
end Go.Proofs.Ytmgjmglmjfjliab

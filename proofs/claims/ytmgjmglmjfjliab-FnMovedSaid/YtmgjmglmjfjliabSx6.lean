/-
  A walk by symbols, part 6: the operations that make or write memory, and calls.
-/
import Derived.Test.YtmgjmglmjfjliabSx5
import Derived.Laws.CopyRow
namespace Go.Proofs.Ytmgjmglmjfjliab
set_option linter.unusedVariables false
set_option linter.unusedSimpArgs false
open Go.RowKit

/-- What follows an operation: its value, the table, the numbers of the pieces that it turned. -/
abbrev EK := SV → List Ch → List Nat → Prop

def EffOk (P : Program) (X : Cx) (o : Oper) (a : Act) (ch : List Ch) (w : World) (k : EK) : Prop :=
  (∃ v ch' mods w', (execOp a.eval o).run P w = .ok (.value v.den) w' ∧ HS X ch' w' ∧ Agree ch ch' mods ∧ k v ch' mods) ∨
  (∃ ch' mods w', (execOp a.eval o).run P w = .ok .skip w' ∧ HS X ch' w' ∧ Agree ch ch' mods ∧ k .undef ch' mods) ∨
  (∃ f args, (execOp a.eval o).run P w = .ok (.enter f args) w ∧ Calls P f args w fun e w' => ∃ v ch' mods, e = .returned v.den ∧ HS X ch' w' ∧ Agree ch ch' mods ∧ k v ch' mods)

theorem EffOk.wp {P : Program} {X : Cx} {o : Oper} {a : Act} {ch : List Ch} {w : World} {k : EK} (h : EffOk P X o a ch w k) {next : Act → World → Prop} {Q : Exit → Act → World → Prop}
    (hn : ∀ v ch' mods w', HS X ch' w' → Agree ch ch' mods → k v ch' mods → next (a.put o.dst v.den) w') : o.wp P a w next Q := by
  unfold Oper.wp
  rcases h with ⟨v, ch', mods, w', hr, h1, h2, h3⟩ | ⟨ch', mods, w', hr, h1, h2, h3⟩ | ⟨f, args, hr, hc⟩
  · rw [hr]; exact hn v ch' mods w' h1 h2 h3
  · rw [hr]; exact hn .undef ch' mods w' h1 h2 h3
  · rw [hr]
    refine Calls.mono hc fun e w' ⟨v, ch', mods, he, h1, h2, h3⟩ => ?_
    subst he
    exact hn v ch' mods w' h1 h2 h3

theorem belowAllocW (w : World) (o : Obj) : Below w.heap.size w (w.alloc o) := (Below.refl _ _).alloc (Nat.le_refl _) _
theorem HS.alloc {X : Cx} {ch : List Ch} {w : World} (h : HS X ch w) (t : TypeId) (cs : List SC) (vs : Array Value) (hv : vs.toList = cs.map SC.den) : HS X (ch ++ [.cells w.heap.size t cs]) (w.alloc (.cells vs t)) :=
  h.add (belowAllocW w _) _ (by show (w.alloc _).heap[w.heap.size]? = _; rw [heap_alloc_new, ← hv]) (fun b hb => by simp only [Ch.at] at hb; omega)

def exAlloc (P : Program) (t : TypeId) (ch : List Ch) (k : EK) : Prop :=
  match zeroOf P t with
  | some zs => ∀ b, k (.a (.c (.ptr ch.length b 0))) (ch ++ [.cells b t zs]) []
  | none => False
def exBox (P : Program) (t : TypeId) (x : SV) (ch : List Ch) (k : EK) : Prop :=
  match x with
  | .a (.c (.obj id v)) =>
    match aggOf P t, szOf P t with
    | some g, some z => wholeC g v z ∧ ∀ b, k (.a (.c (.ptr ch.length b 0))) (ch ++ [.whole b t g z (.obj id v)]) []
    | _, _ => False
  | .a v => match v.one with
    | true => ∀ b, k (.a (.c (.ptr ch.length b 0))) (ch ++ [.cells b t v.cells]) []
    | false => False
  | _ => False

theorem exAlloc_ok {P : Program} {X : Cx} {o : Oper} {t : TypeId} {ch : List Ch} {k : EK} (ho : o.op = .alloc t) (h : exAlloc P t ch k) {a : Act} {w : World} (hs : HS X ch w) : EffOk P X o a ch w k := by
  unfold exAlloc at h
  split at h
  · rename_i zs hz
    obtain ⟨z, hz1, hz2, _⟩ := run_zero' hz
    refine .inl ⟨_, _, _, w.alloc (.cells z.cells t), ?_, hs.alloc t zs z.cells hz2, Agree.app _ _, h w.heap.size⟩
    simp only [execOp, ho, Instr.alloc, Sem.run_bind, hz1, Result.andThen_ok, newVar, newRow, run_newObj, Sem.run_pure]
    rfl
  · exact h.elim
theorem exBox_ok {P : Program} {X : Cx} {o : Oper} {t : TypeId} {x : Operand} {ts : List SV} {ch : List Ch} {k : EK} (ho : o.op = .box t x) (h : exBox P t (ev ts x) ch k) {a : Act} (hT : Ts ts a) {w : World} (hs : HS X ch w) : EffOk P X o a ch w k := by
  unfold exBox at h
  split at h
  · rename_i id v hx
    split at h
    · rename_i g z hg hz
      obtain ⟨hw, h⟩ := h
      refine .inl ⟨_, _, _, w.alloc (.cells v.cells t), ?_, hs.add (belowAllocW w _) (.whole w.heap.size t g z (.obj id v)) ⟨heap_alloc_new w _, hw⟩ (fun b hb => by simp only [Ch.at] at hb; omega), Agree.app _ _, h w.heap.size⟩
      have e : a.eval x = v := by rw [ev_den hT, hx]; rfl
      simp only [execOp, ho, e, Instr.box, newVar, newRow, Sem.run_bind, run_newObj, Result.andThen_ok, Sem.run_pure]
      rfl
    · exact h.elim
  · rename_i v _ hx
    split at h
    · rename_i hv
      refine .inl ⟨_, _, _, w.alloc (.cells v.den.cells t), ?_, hs.alloc t v.cells v.den.cells (SA.cells_den hv), Agree.app _ _, h w.heap.size⟩
      have e : a.eval x = v.den := by rw [ev_den hT, hx]; rfl
      simp only [execOp, ho, e, Instr.box, newVar, newRow, Sem.run_bind, run_newObj, Result.andThen_ok, Sem.run_pure]
      rfl
    · exact h.elim
  · exact h.elim

/-! stores -/
def modF : List (Nat → SC) → Nat → Nat → SC → List (Nat → SC)
  | [], _, _, _ => []
  | f :: fs, 0, i, v => (fun j => pk j i v (f j)) :: fs
  | f :: fs, c + 1, i, v => f :: modF fs c i v
def setF (fs : List (Nat → SC)) (c i : Nat) : List SC → List (Nat → SC)
  | [] => fs
  | v :: vs => setF (modF fs c i v) (c + 1) i vs
theorem modF_len (i : Nat) (v : SC) : ∀ (fs : List (Nat → SC)) (c : Nat), (modF fs c i v).length = fs.length := by
  intro fs
  induction fs with
  | nil => intro c; rfl
  | cons f fs ih => intro c; cases c <;> simp [modF, ih]
theorem modF_get (i : Nat) (v : SC) : ∀ (fs : List (Nat → SC)) (c d : Nat) (g : Nat → SC), (modF fs c i v)[d]? = some g → (d = c ∧ ∃ f, fs[d]? = some f ∧ g = fun j => pk j i v (f j)) ∨ (d ≠ c ∧ fs[d]? = some g) := by
  intro fs
  induction fs with
  | nil => intro c d g h; simp [modF] at h
  | cons f fs ih =>
    intro c d g h
    cases c with
    | zero =>
      cases d with
      | zero => simp only [modF, List.getElem?_cons_zero, Option.some.injEq] at h; exact .inl ⟨rfl, f, rfl, h.symm⟩
      | succ d => exact .inr ⟨by omega, by simpa [modF] using h⟩
    | succ c =>
      cases d with
      | zero => exact .inr ⟨by omega, by simpa [modF] using h⟩
      | succ d =>
        simp only [modF, List.getElem?_cons_succ] at h
        rcases ih c d g h with ⟨rfl, f', h1, h2⟩ | ⟨h1, h2⟩
        · exact .inl ⟨rfl, f', by simpa using h1, h2⟩
        · exact .inr ⟨by omega, by simpa using h2⟩

theorem setF_len (vs : List SC) (i : Nat) : ∀ (fs : List (Nat → SC)) (c : Nat), (setF fs c i vs).length = fs.length := by
  induction vs with
  | nil => intro fs c; rfl
  | cons v vs ih => intro fs c; simp [setF, ih, modF_len]

/-- The cells of an own row, by fields. -/
def RowCells (cs : Array Value) (s n : Nat) (fs : List (Nat → SC)) : Prop := ∀ i, i < n → ∀ (c : Nat) (f : Nat → SC), fs[c]? = some f → cs[i * s + c]? = some (f i).den

theorem cell_ne {i j c d s : Nat} (hc : c < s) (hd : d < s) (h : i * s + c = j * s + d) : i = j ∧ c = d := by
  have h1 : (i * s + c) % s = (j * s + d) % s := by rw [h]
  rw [Nat.mul_add_mod_self_right, Nat.mul_add_mod_self_right, Nat.mod_eq_of_lt hc, Nat.mod_eq_of_lt hd] at h1
  subst h1
  have h2 : i * s = j * s := by omega
  exact ⟨Nat.eq_of_mul_eq_mul_right (by omega) h2, rfl⟩

theorem rowCells_set1 {cs : Array Value} {s n : Nat} {fs : List (Nat → SC)} (h : RowCells cs s n fs) (hl : fs.length = s) {i c : Nat} (hi : i * s + c < cs.size) (hc : c < s) (v : SC) :
    RowCells (cs.setIfInBounds (i * s + c) v.den) s n (modF fs c i v) := by
  intro j hj d g hg
  have hd : d < s := by rw [← hl, ← modF_len i v fs c]; exact (List.getElem?_eq_some_iff.1 hg).1
  rw [Array.getElem?_setIfInBounds]
  rcases modF_get i v fs c d g hg with ⟨rfl, f, hf, rfl⟩ | ⟨hne, hf⟩
  · rw [pk_den]
    by_cases e : j = i
    · subst e
      simp [hi]
    · rw [if_neg (fun q => e (cell_ne hc hd q).1.symm), if_neg e]
      exact h j hj d f hf
  · rw [if_neg (fun q => hne (cell_ne hc hd q).2.symm)]
    exact h j hj d g hf

theorem rowCells_setL {s n : Nat} {i : Nat} (vs : List SC) : ∀ (cs : Array Value) (fs : List (Nat → SC)) (c : Nat), RowCells cs s n fs → fs.length = s → i * s + c + vs.length ≤ cs.size → c + vs.length ≤ s →
    RowCells (setL cs.toList (i * s + c) (vs.map SC.den)).toArray s n (setF fs c i vs) := by
  induction vs with
  | nil => intro cs fs c h _ _ _; simpa [setL, setF] using h
  | cons v vs ih =>
    intro cs fs c h hl h1 h2
    simp only [List.length_cons] at h1 h2
    have := ih (cs.setIfInBounds (i * s + c) v.den) (modF fs c i v) (c + 1) (rowCells_set1 h hl (by omega) (by omega) v) (by rw [modF_len, hl]) (by simp; omega) (by omega)
    simpa [setL, setF, Nat.add_assoc] using this

def exStoreO (P : Program) (t : TypeId) (x : SV) (oid : Nat) (v : Value) (ch : List Ch) (k : EK) : Prop :=
  match aggOf P t, szOf P t, x with
  | some g, some z, .a (.c (.ptr id b 0)) =>
    match ch[id]? with
    | some (.cells b' ty cs) =>
      match Nat.beq cs.length z with
      | true => (b = b' ∧ wholeC g v z) ∧ k .undef (ch.set id (.whole b' ty g z (.obj oid v))) [id]
      | false => False
    | some (.whole b' ty g' z' _) =>
      match Nat.beq z' z, g', g with
      | true, true, true => (b = b' ∧ wholeC true v z) ∧ k .undef (ch.set id (.whole b' ty true z (.obj oid v))) [id]
      | true, false, false => (b = b' ∧ wholeC false v z) ∧ k .undef (ch.set id (.whole b' ty false z (.obj oid v))) [id]
      | _, _, _ => False
    | _ => False
  | _, _, _ => False
def exStoreA (P : Program) (t : TypeId) (x y : SV) (ch : List Ch) (k : EK) : Prop :=
  match y, szOf P t with
  | .a v, some z =>
    match v.one, Nat.beq v.cells.length z with
    | true, true =>
      match x with
      | .a (.c (.ptr id b off)) =>
        match ch[id]? with
        | some (.cells b' ty cs) => b = b' ∧
          match Nat.ble (off + z) cs.length with
          | true => k .undef (ch.set id (.cells b' ty (setL cs off v.cells))) [id]
          | false => False
        | _ => False
      | .a (.c (.rptr id ao s i c)) =>
        match ch[id]? with
        | some (.row r) =>
          match r.own, Nat.beq s r.s, Nat.ble (c + z) r.s with
          | true, true, true => ao = r.ao ∧ ltN i r.n ∧ k .undef (ch.set id (.row { r with fld := setF r.fld c i v.cells })) [id]
          | _, _, _ => False
        | some (.obj true rs) =>
          match Nat.beq s 1, Nat.beq c 0, v with
          | true, true, .c xc =>
            match asI xc with
            | some a => ∃ (t' : Nat) (y : CD) (so : Nat → Option Addr) (sc : Nat → Nat) (q : Nat), (rs = symRows true t' y so sc ∧ ao = so q ∧ ltN q y.n ∧ ltN i (y.sn q)) ∧ k .undef (ch.set id (.obj true (symRows true t' (setSy y q i a) so sc))) [id]
            | none => False
          | _, _, _ => False
        | _ => False
      | _ => False
    | _, _ => False
  | _, _ => False

def exStore (P : Program) (t : TypeId) (x y : SV) (ch : List Ch) (k : EK) : Prop :=
  match y with
  | .a (.c (.obj oid v)) => exStoreO P t x oid v ch k
  | y => exStoreA P t x y ch k

theorem run_storeAt {P : Program} {t : TypeId} {z : Nat} (hz : szOf P t = some z) {b off : Nat} {ty : TypeId} {cs : Array Value} {w : World} (hg : w.heap[b]? = some (.cells cs ty (0, 0))) {v : SA} (hv : v.one = true) (hl : v.cells.length = z) (hle : off + z ≤ cs.size) :
    (Instr.storeAt t (.pointer (some ⟨b, off, none⟩)) v.den).run P w = .ok () (w.setRow b (setL cs.toList off (v.cells.map SC.den)).toArray) := by
  have hc := SA.cells_den hv
  have hsz : v.den.cells.size = z := by rw [← Array.length_toList, hc, List.length_map, hl]
  have := run_storeCells_at P b off ty v.den.cells.toList 0 cs w hg (by rw [hc]; simp; omega) (by rw [hc]; exact SA.one_all hv)
  simp only [Instr.storeAt, Instr.sureAddr, Sem.run_bind, Sem.run_pure, Result.andThen_ok, storeVar, run_sizeOf' hz, hsz]
  rw [if_neg (by simp), this, hc, Nat.add_zero, setL_take _ _ _ (by simp; omega)]

theorem HS.turnIn {X : Cx} {ch : List Ch} {w w' : World} {id g : Nat} {c d : Ch} (h : HS X ch w) (hid : ch[id]? = some c) (ho : c.own = true) (hg : c.at g)
    (hos : w'.os = w.os) (ht : w'.tape = w.tape) (hout : w'.output = w.output) (hsz : w'.heap.size = w.heap.size) (hk : ∀ k, k ≠ g → w'.heap[k]? = w.heap[k]?)
    (hd : d.sat w') (hda : ∀ b, d.at b → c.at b) : HS X (ch.set id d) w' where
  fr := ⟨hos.trans h.fr.os, ht.trans h.fr.tape, hout.trans h.fr.output, by rw [hsz]; exact h.fr.size, fun k hk0 hM => by
    refine (hk k ?_).trans (h.fr.block k hk0 hM)
    rintro rfl
    rcases h.new id c _ hid ho hg with h1 | h1
    · omega
    · exact hM h1⟩
  sat := fun i e he => by
    rcases get_set he with ⟨rfl, rfl, _⟩ | ⟨hne, he⟩
    · exact hd
    · refine Ch.sat_keep (h.sat i e he) (by rw [hsz]; exact Nat.le_refl _) (fun b ha => hk b ?_)
      rintro rfl
      exact h.dis id i c e _ (fun q => hne q.symm) hid he ho hg ha
  dis := fun i j ci cj b hij hi hj hoi hai haj => by
    rcases get_set hi with ⟨rfl, rfl, _⟩ | ⟨hne, hi'⟩
    · rcases get_set hj with ⟨rfl, _, _⟩ | ⟨hne', hj'⟩
      · exact hij rfl
      · exact h.dis i j c cj b hij hid hj' ho (hda b hai) haj
    · rcases get_set hj with ⟨rfl, rfl, _⟩ | ⟨hne', hj'⟩
      · exact h.dis i j ci c b hij hi' hid hoi hai (hda b haj)
      · exact h.dis i j ci cj b hij hi' hj' hoi hai haj
  new := fun i e b he hoe ha => by
    rcases get_set he with ⟨rfl, rfl, _⟩ | ⟨_, he⟩
    · exact h.new _ c b hid ho (hda b ha)
    · exact h.new i e b he hoe ha
theorem symRow_set_ne {t : Nat} {y : CD} {q i j : Nat} {a : Int} {so : Nat → Option Addr} {sc : Nat → Nat} (h : j ≠ q) : symRow true t (setSy y q i a) so sc j = symRow true t y so sc j := by
  simp only [symRow, setSy, if_neg h]
theorem symRow_at {o : Bool} {t t' : Nat} {y z : CD} {so : Nat → Option Addr} {sc sc' : Nat → Nat} {j b : Nat} (hn : z.sn j = y.sn j) (h : (symRow o t z so sc j).at b) : (symRow o t' y so sc' j).at b := by
  obtain ⟨h1, h2⟩ := h
  refine ⟨?_, h2⟩
  rcases h1 with h1 | h1
  · exact .inl h1
  · right
    have h1' : 0 < z.sn j := h1
    show 0 < y.sn j
    omega
theorem nest_store {w : World} {t : Nat} {y : CD} {so : Nat → Option Addr} {sc : Nat → Nat} (h : Ch.sat w (.obj true (symRows true t y so sc))) {q i : Nat} (hq : q < y.n) (hi : i < y.sn q) :
    ∃ b cs, so q = some ⟨b, 0, none⟩ ∧ w.heap[b]? = some (.cells cs t (0, 0)) ∧ i < cs.size ∧ (Ch.obj true (symRows true t y so sc)).at b ∧
      ∀ (a : Int), Ch.sat (w.setRow b (setL cs.toList i [.int .i64 a]).toArray) (.obj true (symRows true t (setSy y q i a) so sc)) := by
  have hr : (symRow true t y so sc q).sat w := (h.1 _ (symRows_mem hq)).2
  rcases hr.2.2 rfl with ⟨_, h0, _⟩ | ⟨b, cs, hao, hg, hn, hcap, hsz, hcell⟩
  · have : y.sn q = 0 := h0
    omega
  · have hao' : so q = some ⟨b, 0, none⟩ := hao
    have hsz' : cs.size = sc q := by simpa [symRow] using hsz
    have hn' : y.sn q ≤ sc q := hn
    have hatq : (symRow true t y so sc q).at b := ⟨.inl rfl, 0, hao⟩
    refine ⟨b, cs, hao', hg, by omega, ⟨_, symRows_mem hq, hatq⟩, fun a => ?_⟩
    have hd := h.2 rfl
    have get : ∀ (y : CD) (j : Nat) (r : Row), (symRows true t y so sc)[j]? = some r → j < y.n ∧ r = symRow true t y so sc j := fun y j r hj => by
      have hlt := (List.getElem?_eq_some_iff.1 hj).1
      have hlt' : j < y.n := by simpa [symRows] using hlt
      rw [symRows_get hlt'] at hj
      injection hj with hj
      exact ⟨hlt', hj.symm⟩
    refine ⟨fun r hrm => ?_, fun _ j1 j2 p1 p2 b' hne hj1 hj2 ha1 ha2 => ?_⟩
    · obtain ⟨j, hj, rfl⟩ := List.mem_map.1 hrm
      have hj' : j < y.n := List.mem_range.1 hj
      refine ⟨rfl, ?_⟩
      by_cases e : j = q
      · subst e
        refine ⟨rfl, fun ho => (by cases ho), fun _ => .inr ⟨b, _, hao, setRow_heap w b cs _ t (0, 0) hg, hn, hcap, ?_, fun p hp c f hf => ?_⟩⟩
        · simp only [List.size_toArray, setL_len, Array.length_toList]; exact hsz
        · have hp' : p < y.sn j := hp
          match c with
          | 0 =>
            simp only [symRow, List.getElem?_cons_zero, Option.some.injEq] at hf
            subst hf
            show (setL cs.toList i [Value.int .i64 a]).toArray[p * 1 + 0]? = _
            simp only [Nat.mul_one, Nat.add_zero, List.getElem?_toArray, setL, SC.den, setSy, if_true]
            rw [List.getElem?_set]
            by_cases ep : i = p
            · subst ep
              rw [if_pos rfl, if_pos (by simpa using (show i < cs.size by omega)), if_pos rfl]
            · rw [if_neg ep, if_neg (fun q => ep q.symm)]
              have := hcell p hp 0 _ rfl
              simp only [symRow, Nat.mul_one, Nat.add_zero] at this
              rw [Array.getElem?_toList]
              exact this
          | c + 1 => simp [symRow] at hf
      · have hrj : (symRow true t y so sc j).sat w := (h.1 _ (symRows_mem hj')).2
        rw [symRow_set_ne e]
        refine Row.sat_keep hrj (by rw [size_setRow]; exact Nat.le_refl _) fun b' ha => setRow_other _ _ _ _ ?_
        rintro rfl
        exact hd j q _ _ _ e (symRows_get hj') (symRows_get hq) ha hatq
    · obtain ⟨q1, rfl⟩ := get _ _ _ hj1
      obtain ⟨q2, rfl⟩ := get _ _ _ hj2
      exact hd j1 j2 _ _ b' hne (symRows_get q1) (symRows_get q2) (symRow_at (t := t) (z := setSy y q i a) (sc := sc) rfl ha1) (symRow_at (t := t) (z := setSy y q i a) (sc := sc) rfl ha2)
theorem exStoreA_ok {P : Program} {X : Cx} {o : Oper} {t : TypeId} {x y : Operand} {ts : List SV} {ch : List Ch} {k : EK} (ho : o.op = .store t x y) (h : exStoreA P t (ev ts x) (ev ts y) ch k) {a : Act} (hT : Ts ts a) {w : World} (hs : HS X ch w) : EffOk P X o a ch w k := by
  unfold exStoreA at h
  split at h
  · rename_i v z hy hz
    split at h
    · rename_i hone hlen
      have hlen' := Nat.eq_of_beq_eq_true hlen
      have ey : a.eval y = v.den := by rw [ev_den hT, hy]; rfl
      split at h
      · rename_i id b off hx
        have ex : a.eval x = .pointer (some ⟨b, off, none⟩) := by rw [ev_den hT, hx]; rfl
        split at h
        · rename_i b' ty cs hid
          obtain ⟨rfl, h⟩ := h
          split at h
          · rename_i hle
            have hle' := Nat.le_of_ble_eq_true hle
            have hg : w.heap[b]? = some (.cells (cs.map SC.den).toArray ty (0, 0)) := hs.sat id _ hid
            have hr := run_storeAt (P := P) hz hg hone hlen' (by simp; omega)
            refine .inr (.inl ⟨_, _, w.setRow b (setL (List.map SC.den cs).toArray.toList off (List.map SC.den v.cells)).toArray, ?_, hs.turn (g := b) hid rfl rfl rfl rfl rfl (size_setRow _ _ _) (fun k hk => setRow_other _ _ _ _ hk) ?_ ?_ ?_, Agree.set _ _ _, h⟩)
            · simp only [execOp, ho, ex, ey, Sem.run_bind, hr, Result.andThen_ok, Sem.run_pure]
            · show (w.setRow b _).heap[b]? = _
              rw [setRow_heap w b _ _ ty (0, 0) hg, setL_map]
            · intro g hg; exact hg
            · intro g hg; exact hg
          · exact h.elim
        · exact h.elim
      · rename_i id ao s i c hx
        split at h
        · rename_i r hid
          split at h
          · rename_i hown hss hcs
            have hss' := Nat.eq_of_beq_eq_true hss
            have hcs' := Nat.le_of_ble_eq_true hcs
            obtain ⟨rfl, hi, h⟩ := h
            subst hss'
            have hr0 : r.sat w := hs.sat id _ hid
            rcases hr0.2.2 hown with ⟨_, h0, _⟩ | ⟨b, cs, hao, hg, hn, hcap, hsz, hcell⟩
            · omega
            · have ex : a.eval x = .pointer (some ⟨b, i * r.s + c, none⟩) := by rw [ev_den hT, hx]; simp only [SV.den, SA.den, SC.den, rptr_some hao, Nat.zero_add]
              have hfit : i * r.s + c + z ≤ cs.size := by
                rw [hsz]
                have : (i + 1) * r.s ≤ r.cap * r.s := Nat.mul_le_mul_right _ (by omega)
                rw [Nat.add_mul] at this
                omega
              have hr := run_storeAt (P := P) hz hg hone hlen' hfit
              have hat : (Ch.row r).at b := ⟨.inl hown, 0, hao⟩
              refine .inr (.inl ⟨_, _, w.setRow b (setL cs.toList (i * r.s + c) (List.map SC.den v.cells)).toArray, ?_, hs.turn (g := b) hid hown hat rfl rfl rfl (size_setRow _ _ _) (fun k hk => setRow_other _ _ _ _ hk) ?_ ?_ ?_, Agree.set _ _ _, h⟩)
              · simp only [execOp, ho, ex, ey, Sem.run_bind, hr, Result.andThen_ok, Sem.run_pure]
              · refine ⟨(setF_len _ _ _ _).trans hr0.1, fun ho' => ?_, fun _ => .inr ⟨b, _, hao, setRow_heap w b _ _ r.t (0, 0) hg, hn, hcap, ?_, ?_⟩⟩
                · rw [show r.own = false from ho'] at hown; cases hown
                · simp only [List.size_toArray, setL_len, Array.length_toList, hsz]
                · exact rowCells_setL v.cells cs r.fld c hcell hr0.1 (by omega) (by omega)
              · intro g hg; exact hg
              · intro g hg
                obtain ⟨_, off, hg⟩ := hg
                rw [hao] at hg
                injection hg with hg
                injection hg with hg
                exact hg.symm
          · exact h.elim
        · rename_i rs hid
          split at h
          · rename_i _ xc hs1 hc0
            have es := Nat.eq_of_beq_eq_true hs1
            have ec := Nat.eq_of_beq_eq_true hc0
            subst es
            subst ec
            split at h
            · rename_i av hav
              obtain ⟨t', y', so, sc, q, ⟨rfl, rfl, hq, hi⟩, h⟩ := h
              obtain ⟨b, cs, hao, hg, hlt, hat, hsat⟩ := nest_store (hs.sat id _ hid) hq hi
              have hz1 : z = 1 := by rw [← hlen']; rfl
              subst hz1
              have ex : a.eval x = .pointer (some ⟨b, i, none⟩) := by rw [ev_den hT, hx]; simp only [SV.den, SA.den, SC.den, rptr_some hao, Nat.mul_one, Nat.add_zero, Nat.zero_add]
              have hr := run_storeAt (P := P) hz hg hone hlen' (off := i) (by omega)
              have hcv : (SA.c xc).cells.map SC.den = [.int .i64 av] := by simp only [SA.cells, List.map_cons, List.map_nil, asI_den hav]
              rw [hcv] at hr
              refine .inr (.inl ⟨_, _, w.setRow b (setL cs.toList i [.int .i64 av]).toArray, ?_, hs.turnIn (g := b) hid rfl hat rfl rfl rfl (size_setRow _ _ _) (fun k hk => setRow_other _ _ _ _ hk) (hsat av) ?_, Agree.set _ _ _, h⟩)
              · simp only [execOp, ho, ex, ey, Sem.run_bind, hr, Result.andThen_ok, Sem.run_pure]
              · rintro b' ⟨r, hrm, hra⟩
                obtain ⟨j, hj, rfl⟩ := List.mem_map.1 hrm
                exact ⟨_, symRows_mem (List.mem_range.1 hj), symRow_at (t := t') (z := setSy y' q i av) (sc := sc) rfl hra⟩
            · exact h.elim
          · exact h.elim
        · exact h.elim
      · exact h.elim
    · exact h.elim
  · exact h.elim
theorem wholeC_size {g : Bool} {v : Value} {z : Nat} (h : wholeC g v z) : v.cells.size = z ∧ ∀ u ∈ v.cells.toList, u.oneCell' = true := by
  cases g with
  | true => obtain ⟨cs, rfl, h1, h2⟩ := h; exact ⟨h1, h2⟩
  | false =>
    obtain ⟨rfl, h1, h2⟩ := h
    rw [h2]
    exact ⟨rfl, fun u hu => by simp at hu; subst hu; exact h1⟩
theorem run_storeWhole {P : Program} {t : TypeId} {z : Nat} (hz : szOf P t = some z) {b : Nat} {ty : TypeId} {cs : Array Value} {w : World} (hg : w.heap[b]? = some (.cells cs ty (0, 0))) {v : Value} {g : Bool} (hv : wholeC g v z) (hle : cs.size = z) :
    (Instr.storeAt t (.pointer (some ⟨b, 0, none⟩)) v).run P w = .ok () (w.setRow b v.cells) := by
  obtain ⟨h1, h2⟩ := wholeC_size hv
  have := run_storeCells_at P b 0 ty v.cells.toList 0 cs w hg (by simp; omega) h2
  simp only [Instr.storeAt, Instr.sureAddr, Sem.run_bind, Sem.run_pure, Result.andThen_ok, storeVar, run_sizeOf' hz, h1]
  rw [if_neg (by simp), this]
  congr 2
  apply Array.ext'
  simp
  omega
theorem exStoreO_ok {P : Program} {X : Cx} {o : Oper} {t : TypeId} {x y : Operand} {ts : List SV} {ch : List Ch} {k : EK} (ho : o.op = .store t x y) {oid : Nat} {v : Value} (hy : ev ts y = .a (.c (.obj oid v))) (h : exStoreO P t (ev ts x) oid v ch k) {a : Act} (hT : Ts ts a) {w : World} (hs : HS X ch w) : EffOk P X o a ch w k := by
  have ey : a.eval y = v := by rw [ev_den hT, hy]; rfl
  unfold exStoreO at h
  split at h
  · rename_i g z id b hgg hz hx
    have ex : a.eval x = .pointer (some ⟨b, 0, none⟩) := by rw [ev_den hT, hx]; rfl
    have key : ∀ {ty : TypeId} {cs : Array Value} {c : Ch}, ch[id]? = some c → c.own = true → c.at b → (∀ b', c.at b' → b' = b) → w.heap[b]? = some (.cells cs ty (0, 0)) → cs.size = z → wholeC g v z → k .undef (ch.set id (.whole b ty g z (.obj oid v))) [id] → EffOk P X o a ch w k := fun {ty cs c} hid hown hat hat2 hg hle hv h => by
      have hr := run_storeWhole (P := P) hz hg hv hle
      refine .inr (.inl ⟨_, _, w.setRow b v.cells, ?_, hs.turn (g := b) hid hown hat rfl rfl rfl (size_setRow _ _ _) (fun k hk => setRow_other _ _ _ _ hk) ?_ ?_ ?_, Agree.set _ _ _, h⟩)
      · simp only [execOp, ho, ex, ey, Sem.run_bind, hr, Result.andThen_ok, Sem.run_pure]
      · exact ⟨setRow_heap w b _ _ ty (0, 0) hg, hv⟩
      · intro b' hb'
        have : b' = b := hb'
        rw [this]; exact hat
      · exact hat2
    split at h
    · rename_i b' ty cs hid
      split at h
      · rename_i hl
        have hl' := Nat.eq_of_beq_eq_true hl
        obtain ⟨⟨rfl, hv⟩, h⟩ := h
        exact key hid rfl rfl (fun _ q => q) (hs.sat id _ hid) (by simp [hl']) hv h
      · exact h.elim
    · rename_i b' ty g' z' x' hid
      split at h
      · rename_i hl
        have hl' := Nat.eq_of_beq_eq_true hl
        subst hl'
        obtain ⟨⟨rfl, hv⟩, h⟩ := h
        have hsat := hs.sat id _ hid
        exact key hid rfl rfl (fun _ q => q) hsat.1 (wholeC_size hsat.2).1 hv h
      · rename_i hl
        have hl' := Nat.eq_of_beq_eq_true hl
        subst hl'
        obtain ⟨⟨rfl, hv⟩, h⟩ := h
        have hsat := hs.sat id _ hid
        exact key hid rfl rfl (fun _ q => q) hsat.1 (wholeC_size hsat.2).1 hv h
      · exact h.elim
    · exact h.elim
  · exact h.elim
theorem exStore_ok {P : Program} {X : Cx} {o : Oper} {t : TypeId} {x y : Operand} {ts : List SV} {ch : List Ch} {k : EK} (ho : o.op = .store t x y) (h : exStore P t (ev ts x) (ev ts y) ch k) {a : Act} (hT : Ts ts a) {w : World} (hs : HS X ch w) : EffOk P X o a ch w k := by
  unfold exStore at h
  split at h
  · rename_i oid v hy
    exact exStoreO_ok ho hy h hT hs
  · exact exStoreA_ok ho h hT hs
end Go.Proofs.Ytmgjmglmjfjliab

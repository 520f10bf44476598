/-
  A walk by symbols, part 18: slices of structs that hold slices. The inner rows together are one piece of the table.
-/
import Derived.Test.YtmgjmglmjfjliabSx17
namespace Go.Proofs.Ytmgjmglmjfjliab
set_option linter.unusedVariables false
set_option linter.unusedSimpArgs false
open Go.RowKit

/-- Cells, and two rows of numbers. -/
structure AD where
  c : CD
  aN : Nat
  ag : Nat → Int
  hN : Nat
  hg : Nat → Int
def cellFld (id : Nat) (x : CD) (so : Nat → Option Addr) (sc : Nat → Nat) : List (Nat → SC) := [fun i => .sl id (so i) (x.sn i) (sc i), fun i => .bool (x.po i)]

theorem symRows_congr {o : Bool} {t : Nat} {x y : CD} {so so' : Nat → Option Addr} {sc sc' : Nat → Nat} (hn : x.n = y.n) (h : ∀ i, i < x.n → symRow o t x so sc i = symRow o t y so' sc' i) : symRows o t x so sc = symRows o t y so' sc' := by
  simp only [symRows, ← hn]
  exact List.map_congr_left fun i hi => h i (List.mem_range.1 hi)
/-- One more. -/
theorem symRows_push {o : Bool} {t : Nat} {x : CD} {so : Nat → Option Addr} {sc : Nat → Nat} {j : Nat} {a : Option Addr} {c : Nat} :
    symRows o t ⟨j, x.sn, x.sy, x.po⟩ so sc ++ [⟨o, a, t, 1, x.sn j, c, [fun k => .int (x.sy j k)]⟩] = symRows o t ⟨j + 1, x.sn, x.sy, x.po⟩ (fun i => if i < j then so i else a) (fun i => if i < j then sc i else c) := by
  simp only [symRows, List.range_succ, List.map_append, List.map_cons, List.map_nil]
  congr 1
  · refine List.map_congr_left fun i hi => ?_
    have := List.mem_range.1 hi
    simp [symRow, this]
  · simp [symRow]
/-- One other. -/
theorem symRows_set {o : Bool} {t : Nat} {x : CD} {so : Nat → Option Addr} {sc : Nat → Nat} {k : Nat} {a : Option Addr} {m c : Nat} {f : Nat → Int} :
    (symRows o t x so sc).set k ⟨o, a, t, 1, m, c, [fun q => .int (f q)]⟩ = symRows o t ⟨x.n, fun i => if i = k then m else x.sn i, fun i q => if i = k then f q else x.sy i q, x.po⟩ (fun i => if i = k then a else so i) (fun i => if i = k then c else sc i) := by
  refine List.ext_getElem (by simp [symRows]) fun i h1 h2 => ?_
  simp only [List.getElem_set]
  split
  · rename_i e
    subst e
    simp [symRows, symRow]
  · rename_i e
    have e' : ¬ i = k := fun q => e q.symm
    simp [symRows, symRow, e']
theorem symRows_own {o : Bool} {t : Nat} {x : CD} {so : Nat → Option Addr} {sc : Nat → Nat} : ∀ r ∈ symRows o t x so sc, r.own = o := fun r hr => by
  obtain ⟨i, _, rfl⟩ := List.mem_map.1 hr
  rfl
/-- Seen, they are only read. -/
theorem symRows_seen {w : World} {o : Bool} {t : Nat} {x : CD} {so : Nat → Option Addr} {sc : Nat → Nat} (h : ∀ r ∈ symRows o t x so sc, r.sat w) : ∀ r ∈ symRows false 0 x so (fun _ => 0), r.own = false ∧ r.sat w := fun r hr => by
  obtain ⟨i, hi, rfl⟩ := List.mem_map.1 hr
  exact ⟨rfl, seenAs' (h _ (symRows_mem (List.mem_range.1 hi))) rfl rfl⟩

/-! A list that is read: a row, one of a nest's rows, literal cells, nothing. -/
def rdn (ch : List Ch) (x : SC) (K : Nat → (Nat → Int) → Prop) : Prop :=
  match x with
  | .sl id ao n _ =>
    match ch[id]? with
    | some (.row r) => ∃ g0 : Nat → Int, (ao = r.ao ∧ n = r.n ∧ r.fld = [fun i => .int (g0 i)]) ∧ K n g0
    | some (.obj o rs) => ∃ (t : Nat) (y : CD) (so : Nat → Option Addr) (sc : Nat → Nat) (i : Nat), (rs = symRows o t y so sc ∧ ao = so i ∧ n = y.sn i ∧ ltN i y.n) ∧ K n (y.sy i)
    | _ => False
  | .slc id b n _ =>
    match ch[id]? with
    | some (.cells b' _ cs) =>
      match intL cs, Nat.ble n cs.length with
      | some l, true => b = b' ∧ K n fun i => getZ l i
      | _, _ => False
    | _ => False
  | .nil => K 0 fun _ => 0
  | _ => False
theorem rdn_ok {ch : List Ch} {x : SC} {K : Nat → (Nat → Int) → Prop} (h : rdn ch x K) {X : Cx} {w : World} (hs : HS X ch w) :
    ∃ (ao : Option Addr) (n c : Nat) (g0 : Nat → Int), x.den = .slice ao n c ∧ Row.sat w ⟨false, ao, 0, 1, n, 0, [fun i => .int (g0 i)]⟩ ∧ K n g0 := by
  unfold rdn at h
  split at h
  · rename_i id ao n cap
    split at h
    · rename_i r hid
      obtain ⟨g0, ⟨rfl, rfl, hf⟩, hk⟩ := h
      exact ⟨r.ao, r.n, cap, g0, rfl, seenAs' (hs.sat id _ hid) hf rfl, hk⟩
    · rename_i o rs hid
      obtain ⟨t, y, so, sc, i, ⟨rfl, rfl, rfl, hi⟩, hk⟩ := h
      exact ⟨so i, y.sn i, cap, y.sy i, rfl, seenAs' ((hs.seeObj hid _ (symRows_mem hi)).2) rfl rfl, hk⟩
    · exact h.elim
  · rename_i id b n cap
    split at h
    · rename_i b' t cs hid
      split at h
      · rename_i l hl hle
        obtain ⟨rfl, hk⟩ := h
        refine ⟨_, n, cap, _, rfl, cells_seen (hs.sat id _ hid) hl (by have := Nat.le_of_ble_eq_true hle; omega) rfl fun c f hf i hi => ?_, hk⟩
        match c with
        | 0 => simp at hf; subst hf; simp [SC.den]
        | c + 1 => simp at hf
      · exact h.elim
    · exact h.elim
  · exact ⟨none, 0, 0, _, rfl, nil_seen rfl, h⟩
  · exact h.elim

/-! The same pieces, said otherwise: cells and nests too. -/
def ReS1 : Ch → Ch → Prop
  | .cells b t cs, .cells b' t' cs' => b = b' ∧ t = t' ∧ cs.map SC.den = cs'.map SC.den
  | .obj o rs, .obj o' rs' => o = o' ∧ rs = rs'
  | .dead, .obj o' rs' => o' = true ∧ rs' = []
  | c, d => ReL1 c d
def ReS : List Ch → List Ch → Prop
  | [], [] => True
  | c :: l, d :: m => ReS1 c d ∧ ReS l m
  | _, _ => False
theorem ReS1.ok {c d : Ch} (h : ReS1 c d) {w : World} (hs : c.sat w) : d.sat w ∧ (d.own = c.own ∨ ∀ b, ¬ d.at b) ∧ ∀ b, d.at b → c.at b := by
  unfold ReS1 at h
  split at h
  · obtain ⟨rfl, rfl, e⟩ := h
    refine ⟨?_, .inl rfl, fun b hb => hb⟩
    show w.heap[_]? = _
    rw [← e]
    exact hs
  · obtain ⟨rfl, rfl⟩ := h
    exact ⟨hs, .inl rfl, fun b hb => hb⟩
  · obtain ⟨rfl, rfl⟩ := h
    refine ⟨⟨fun r hr => (by cases hr), fun _ i j p q b _ hp => (by simp at hp)⟩, .inr fun b hb => ?_, fun b hb => ?_⟩
    · obtain ⟨r, hr, _⟩ := hb
      cases hr
    · obtain ⟨r, hr, _⟩ := hb
      cases hr
  · exact ReL1.ok h hs
theorem ReS.get : ∀ {l m : List Ch}, ReS l m → ∀ (i : Nat) (d : Ch), m[i]? = some d → ∃ c, l[i]? = some c ∧ ReS1 c d := by
  intro l
  induction l with
  | nil => intro m h i d hd; cases m with | nil => simp at hd | cons _ _ => exact h.elim
  | cons c l ih =>
    intro m h i d hd
    cases m with
    | nil => exact h.elim
    | cons e m =>
      cases i with
      | zero => simp at hd; subst hd; exact ⟨c, rfl, h.1⟩
      | succ i => simpa using ih h.2 i d (by simpa using hd)
theorem HS.reS {X : Cx} {l m : List Ch} {w : World} (h : HS X l w) (hr : ReS l m) : HS X m w where
  fr := h.fr
  sat := fun i d hd => by
    obtain ⟨c, hc, hcd⟩ := hr.get i d hd
    exact (hcd.ok (h.sat i c hc)).1
  dis := fun i j ci cj b hij hi hj ho hai haj => by
    obtain ⟨c, hc, hcd⟩ := hr.get i ci hi
    obtain ⟨c', hc', hcd'⟩ := hr.get j cj hj
    have h1 := hcd.ok (h.sat i c hc)
    have h2 := hcd'.ok (h.sat j c' hc')
    exact h.dis i j c c' b hij hc hc' ((h1.2.1.resolve_right fun q => q b hai) ▸ ho) (h1.2.2 b hai) (h2.2.2 b haj)
  new := fun i d b hd ho ha => by
    obtain ⟨c, hc, hcd⟩ := hr.get i d hd
    have h1 := hcd.ok (h.sat i c hc)
    exact h.new i c b hc ((h1.2.1.resolve_right fun q => q b ha) ▸ ho) (h1.2.2 b ha)
/-- Some pieces, each once, said otherwise. -/
def SelS (ch : List Ch) (l : List Nat) (m : List Ch) : Prop := ReS (selC ch l) m ∧ nodupB l = true
theorem SelS.hs {ch : List Ch} {l : List Nat} {m : List Ch} (h : SelS ch l m) {X : Cx} {w : World} (hs : HS X ch w) : HS X m w := (hs.sel l (nodupB_ok h.2)).reS h.1

/-! A row joins a nest. -/
theorem HS.remix {X : Cx} {ch : List Ch} {w : World} (h : HS X ch w) (a b : Nat) {rs rs' : List Row} {r : Row} (ha : ch[a]? = some (.obj true rs)) (hb : ch[b]? = some (.row r)) (ho : r.own = true) (hab : a ≠ b)
    (hm : ∀ q ∈ rs', q ∈ rs ∨ q = r) (hd : ∀ (i j : Nat) (p q : Row) (k : Nat), i ≠ j → rs'[i]? = some p → rs'[j]? = some q → p.at k → q.at k → False) : HS X ((ch.set b .dead).set a (.obj true rs')) w := by
  have hat : ∀ q ∈ rs', ∀ k, q.at k → (Ch.obj true rs).at k ∨ (Ch.row r).at k := fun q hq k hk => by
    rcases hm q hq with h1 | rfl
    · exact .inl ⟨q, h1, hk⟩
    · exact .inr hk
  have hsat : ∀ q ∈ rs', q.own = true ∧ q.sat w := fun q hq => by
    rcases hm q hq with h1 | rfl
    · exact h.seeObj ha q h1
    · exact ⟨ho, h.sat b _ hb⟩
  have get : ∀ (i : Nat) (c : Ch), ((ch.set b .dead).set a (.obj true rs'))[i]? = some c → (i = a ∧ c = .obj true rs') ∨ c = .dead ∨ (i ≠ a ∧ i ≠ b ∧ ch[i]? = some c) := fun i c hc => by
    rcases get_set hc with ⟨rfl, rfl, _⟩ | ⟨h1, hc⟩
    · exact .inl ⟨rfl, rfl⟩
    · rcases get_set hc with ⟨rfl, rfl, _⟩ | ⟨h2, hc⟩
      · exact .inr (.inl rfl)
      · exact .inr (.inr ⟨h1, h2, hc⟩)
  have apart : ∀ (j : Nat) (cj : Ch) (k : Nat), j ≠ a → j ≠ b → ch[j]? = some cj → (Ch.obj true rs').at k → cj.at k → False := fun j cj k h1 h2 hj hk hjk => by
    obtain ⟨q, hq, hqk⟩ := hk
    rcases hat q hq k hqk with h3 | h3
    · exact h.dis a j _ cj k (fun e => h1 e.symm) ha hj rfl h3 hjk
    · exact h.dis b j _ cj k (fun e => h2 e.symm) hb hj ho h3 hjk
  refine ⟨h.fr, fun i c hc => ?_, fun i j ci cj k hij hi hj hoi hai haj => ?_, fun i c k hc hoc hac => ?_⟩
  · rcases get i c hc with ⟨_, rfl⟩ | rfl | ⟨_, _, hc⟩
    · exact ⟨hsat, fun _ => hd⟩
    · trivial
    · exact h.sat i c hc
  · rcases get i ci hi with ⟨ei, rfl⟩ | rfl | ⟨h1, h2, hi2⟩
    · rcases get j cj hj with ⟨ej, rfl⟩ | rfl | ⟨h3, h4, hj2⟩
      · exact hij (ei.trans ej.symm)
      · exact haj.elim
      · exact apart j cj k h3 h4 hj2 hai haj
    · exact hai.elim
    · rcases get j cj hj with ⟨ej, rfl⟩ | rfl | ⟨h3, h4, hj2⟩
      · exact apart i ci k h1 h2 hi2 haj hai
      · exact haj.elim
      · exact h.dis i j ci cj k hij hi2 hj2 hoi hai haj
  · rcases get i c hc with ⟨rfl, rfl⟩ | rfl | ⟨h1, h2, hc⟩
    · obtain ⟨q, hq, hqk⟩ := hac
      rcases hat q hq k hqk with h3 | h3
      · exact h.new _ _ k ha rfl h3
      · exact h.new _ _ k hb ho h3
    · exact hac.elim
    · exact h.new i c k hc hoc hac
theorem HS.nestApp {X : Cx} {ch : List Ch} {w : World} (h : HS X ch w) (a b : Nat) {rs : List Row} {r : Row} (ha : ch[a]? = some (.obj true rs)) (hb : ch[b]? = some (.row r)) (ho : r.own = true) (hab : a ≠ b) : HS X ((ch.set b .dead).set a (.obj true (rs ++ [r]))) w := by
  have hin := (h.sat a _ ha).2 rfl
  have apart : ∀ (i : Nat) (p : Row) (k : Nat), rs[i]? = some p → p.at k → r.at k → False := fun i p k hp h1 h2 => h.dis a b _ _ k hab ha hb rfl ⟨p, List.mem_of_getElem? hp, h1⟩ h2
  refine h.remix a b ha hb ho hab (fun q hq => ?_) fun i j p q k hij hi hj h1 h2 => ?_
  · rcases List.mem_append.1 hq with hq | hq
    · exact .inl hq
    · exact .inr (by simpa using hq)
  · rcases get_app_one hi with hi2 | ⟨hi0, ep⟩
    · rcases get_app_one hj with hj2 | ⟨_, eq⟩
      · exact hin i j p q k hij hi2 hj2 h1 h2
      · exact apart i p k hi2 h1 (eq ▸ h2)
    · rcases get_app_one hj with hj2 | ⟨hj0, eq⟩
      · exact apart j q k hj2 h2 (ep ▸ h1)
      · exact hij (hi0.trans hj0.symm)
theorem HS.nestCons {X : Cx} {ch : List Ch} {w : World} (h : HS X ch w) (a b : Nat) {rs : List Row} {r : Row} (ha : ch[a]? = some (.obj true rs)) (hb : ch[b]? = some (.row r)) (ho : r.own = true) (hab : a ≠ b) : HS X ((ch.set b .dead).set a (.obj true (r :: rs))) w := by
  have hin := (h.sat a _ ha).2 rfl
  have apart : ∀ (i : Nat) (p : Row) (k : Nat), rs[i]? = some p → p.at k → r.at k → False := fun i p k hp h1 h2 => h.dis a b _ _ k hab ha hb rfl ⟨p, List.mem_of_getElem? hp, h1⟩ h2
  refine h.remix a b ha hb ho hab (fun q hq => ?_) fun i j p q k hij hi hj h1 h2 => ?_
  · rcases List.mem_cons.1 hq with hq | hq
    · exact .inr hq
    · exact .inl hq
  · cases i with
    | zero =>
      cases j with
      | zero => exact hij rfl
      | succ j =>
        simp at hi hj
        subst hi
        exact apart j q k hj h2 h1
    | succ i =>
      cases j with
      | zero =>
        simp at hi hj
        subst hj
        exact apart i p k hi h1 h2
      | succ j => exact hin i j p q k (by omega) (by simpa using hi) (by simpa using hj) h1 h2
theorem HS.nestSet {X : Cx} {ch : List Ch} {w : World} (h : HS X ch w) (a b k : Nat) {rs : List Row} {r : Row} (ha : ch[a]? = some (.obj true rs)) (hb : ch[b]? = some (.row r)) (ho : r.own = true) (hab : a ≠ b) : HS X ((ch.set b .dead).set a (.obj true (rs.set k r))) w := by
  have hin := (h.sat a _ ha).2 rfl
  have apart : ∀ (i : Nat) (p : Row) (k : Nat), rs[i]? = some p → p.at k → r.at k → False := fun i p k hp h1 h2 => h.dis a b _ _ k hab ha hb rfl ⟨p, List.mem_of_getElem? hp, h1⟩ h2
  refine h.remix a b ha hb ho hab (fun q hq => ?_) fun i j p q k' hij hi hj h1 h2 => ?_
  · exact (List.mem_or_eq_of_mem_set hq)
  · rcases get_set hi with ⟨ei, ep, _⟩ | ⟨hi0, hi2⟩
    · rcases get_set hj with ⟨ej, _, _⟩ | ⟨hj0, hj2⟩
      · exact hij (ei.trans ej.symm)
      · exact apart j q k' hj2 h2 (ep ▸ h1)
    · rcases get_set hj with ⟨ej, eq, _⟩ | ⟨hj0, hj2⟩
      · exact apart i p k' hi2 h1 (eq ▸ h2)
      · exact hin i j p q k' hij hi2 hj2 h1 h2
/-- A callee has turned one of a nest's rows. -/
theorem HS.nestTurn {X : Cx} {ch : List Ch} {w w' : World} (h : HS X ch w) {a i : Nat} {rs : List Row} {r r' : Row} (ha : ch[a]? = some (.obj true rs)) (hi : rs[i]? = some r) (h' : HS ⟨w, (Ch.row r).at⟩ [.row r'] w') (ho : r'.own = true) (hat : ∀ b, r'.at b → r.at b) :
    HS X (ch.set a (.obj true (rs.set i r'))) w' := by
  have hin := (h.sat a _ ha).2 rfl
  have hr : r ∈ rs := List.mem_of_getElem? hi
  have hat' : ∀ b, (Ch.obj true (rs.set i r')).at b → (Ch.obj true rs).at b := fun b ⟨q, hq, hqb⟩ => by
    rcases List.mem_or_eq_of_mem_set hq with h1 | rfl
    · exact ⟨q, h1, hqb⟩
    · exact ⟨r, hr, hat b hqb⟩
  refine h.swap1 ha rfl ⟨⟨h'.fr.os, h'.fr.tape, h'.fr.output, h'.fr.size, fun k hk hM => h'.fr.block k hk fun hm => hM ⟨r, hr, hm⟩⟩, fun j c hc => ?_, fun p q cp cq b hpq hp hq _ _ _ => ?_, fun j c b hc _ hb => ?_⟩ hat'
  · obtain ⟨_, rfl⟩ := one_get hc
    refine ⟨fun q hq => ?_, fun _ p q cp cq b hpq hp hq h1 h2 => ?_⟩
    · obtain ⟨m, hm⟩ := List.getElem?_of_mem hq
      rcases get_set hm with ⟨rfl, rfl, _⟩ | ⟨hne, hm⟩
      · exact ⟨ho, h'.sat 0 _ rfl⟩
      · obtain ⟨q1, q2⟩ := h.seeObj ha q (List.mem_of_getElem? hm)
        refine ⟨q1, Row.sat_keep q2 h'.fr.size fun b hb => h'.fr.block b (Row.sat_lt q2 hb) fun hrb => ?_⟩
        exact hin m i q r b hne hm hi hb hrb
    · rcases get_set hp with ⟨e1, e2, _⟩ | ⟨hp0, hp2⟩
      · rcases get_set hq with ⟨e3, _, _⟩ | ⟨hq0, hq2⟩
        · exact hpq (e1.trans e3.symm)
        · exact hin i q r cq b (fun e => hq0 e.symm) hi hq2 (hat b (e2 ▸ h1)) h2
      · rcases get_set hq with ⟨e3, e4, _⟩ | ⟨hq0, hq2⟩
        · exact hin p i cp r b hp0 hp2 hi h1 (hat b (e4 ▸ h2))
        · exact hin p q cp cq b hpq hp2 hq2 h1 h2
  · obtain ⟨rfl, _⟩ := one_get hp
    obtain ⟨rfl, _⟩ := one_get hq
    exact absurd rfl hpq
  · obtain ⟨_, rfl⟩ := one_get hc
    exact .inr (hat' b hb)

/-! Three rows and a nest are one piece; and back. -/
theorem HS.pack4 {X : Cx} {a b c : Row} {rs : List Row} {w : World} (h : HS X [.row a, .row b, .row c, .obj true rs] w) (ha : a.own = true) (hb : b.own = true) (hc : c.own = true) : HS X [.obj true (a :: b :: c :: rs)] w := by
  have h1 := h.nestCons 3 2 (rs := rs) (r := c) rfl rfl hc (by decide)
  have h2 := h1.nestCons 3 1 (rs := c :: rs) (r := b) rfl rfl hb (by decide)
  have h3 := h2.nestCons 3 0 (rs := b :: c :: rs) (r := a) rfl rfl ha (by decide)
  exact h3.sel [3] (by simp)
theorem HS.open4 {X : Cx} {ch : List Ch} {w : World} (h : HS X ch w) {id : Nat} {a b c : Row} {rs : List Row} (hid : ch[id]? = some (.obj true (a :: b :: c :: rs))) : HS ⟨w, (Ch.obj true (a :: b :: c :: rs)).at⟩ [.row a, .row b, .row c, .obj true rs] w := by
  have hs := h.sat id _ hid
  have ho : ∀ r ∈ a :: b :: c :: rs, r.own = true ∧ r.sat w := hs.1
  have hd := hs.2 rfl
  have at3 : ∀ (r : Row) (k : Nat), r ∈ rs → ∃ m : Nat, (a :: b :: c :: rs)[m + 3]? = some r := fun r k hr => by
    obtain ⟨m, hm⟩ := List.getElem?_of_mem hr
    exact ⟨m, by simpa using hm⟩
  have one : ∀ (i : Nat) (p : Ch), [Ch.row a, .row b, .row c, .obj true rs][i]? = some p → (i = 0 ∧ p = .row a) ∨ (i = 1 ∧ p = .row b) ∨ (i = 2 ∧ p = .row c) ∨ (i = 3 ∧ p = .obj true rs) := fun i p hp => by
    match i with
    | 0 => simp at hp; simp [hp]
    | 1 => simp at hp; simp [hp]
    | 2 => simp at hp; simp [hp]
    | 3 => simp at hp; simp [hp]
    | i + 4 => simp at hp
  have mem : ∀ (i : Nat) (p : Ch) (k : Nat), [Ch.row a, .row b, .row c, .obj true rs][i]? = some p → p.at k → ∃ (m : Nat) (r : Row), (a :: b :: c :: rs)[m]? = some r ∧ r.at k ∧ (i ≤ 2 → m = i) ∧ (i = 3 → 3 ≤ m) := fun i p k hp hk => by
    rcases one i p hp with ⟨rfl, rfl⟩ | ⟨rfl, rfl⟩ | ⟨rfl, rfl⟩ | ⟨rfl, rfl⟩
    · exact ⟨0, a, rfl, hk, fun _ => rfl, fun h => by omega⟩
    · exact ⟨1, b, rfl, hk, fun _ => rfl, fun h => by omega⟩
    · exact ⟨2, c, rfl, hk, fun _ => rfl, fun h => by omega⟩
    · obtain ⟨r, hr, hrk⟩ := hk
      obtain ⟨m, hm⟩ := at3 r k hr
      exact ⟨m + 3, r, hm, hrk, fun h => by omega, fun _ => by omega⟩
  refine ⟨⟨rfl, rfl, rfl, Nat.le_refl _, fun _ _ _ => rfl⟩, fun i p hp => ?_, fun i j p q k hij hi hj _ hp hq => ?_, fun i p k hi _ hk => .inr ?_⟩
  · rcases one i p hp with ⟨rfl, rfl⟩ | ⟨rfl, rfl⟩ | ⟨rfl, rfl⟩ | ⟨rfl, rfl⟩
    · exact (ho a (by simp)).2
    · exact (ho b (by simp)).2
    · exact (ho c (by simp)).2
    · exact ⟨fun r hr => ho r (by simp [hr]), fun _ i j p q k hij hi hj h1 h2 => hd (i + 3) (j + 3) p q k (by omega) (by simpa using hi) (by simpa using hj) h1 h2⟩
  · obtain ⟨m, r, hm, hr, m1, m2⟩ := mem i p k hi hp
    obtain ⟨m', r', hm', hr', m1', m2'⟩ := mem j q k hj hq
    refine hd m m' r r' k (fun e => hij ?_) hm hm' hr hr'
    have hi4 : i < 4 := by have := (List.getElem?_eq_some_iff.1 hi).1; simpa using this
    have hj4 : j < 4 := by have := (List.getElem?_eq_some_iff.1 hj).1; simpa using this
    omega
  · obtain ⟨m, r, hm, hr, _, _⟩ := mem i p k hi hk
    exact ⟨r, List.mem_of_getElem? hm, hr⟩
/-- A row reads the same where its fields do. -/
theorem Row.reF {w : World} {o : Bool} {ao : Option Addr} {t s n cap : Nat} {fs gs : List (Nat → SC)} (h : Row.sat w ⟨o, ao, t, s, n, cap, fs⟩) (hf : FEq n fs gs) : Row.sat w ⟨o, ao, t, s, n, cap, gs⟩ :=
  (ReL1.ok (c := .row ⟨o, ao, t, s, n, cap, fs⟩) (d := .row ⟨o, ao, t, s, n, cap, gs⟩) ⟨rfl, rfl, rfl, rfl, rfl, rfl, hf⟩ h).1
end Go.Proofs.Ytmgjmglmjfjliab

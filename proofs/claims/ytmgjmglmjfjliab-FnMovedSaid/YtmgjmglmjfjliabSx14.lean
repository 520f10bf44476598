/-
  A walk by symbols, part 14: a whole value and its rows as one piece of the table.
-/
import Derived.Test.YtmgjmglmjfjliabSx13
namespace Go.Proofs.Ytmgjmglmjfjliab
set_option linter.unusedVariables false
set_option linter.unusedSimpArgs false
open Go.RowKit

theorem map_get {α β : Type} {f : α → β} {l : List α} {i : Nat} {y : β} (h : (l.map f)[i]? = some y) : ∃ x, l[i]? = some x ∧ y = f x := by
  simp only [List.getElem?_map] at h
  cases hi : l[i]? with
  | none => simp [hi] at h
  | some x => simp [hi] at h; exact ⟨x, rfl, h.symm⟩
theorem mem0 {α : Type} {a : α} {l : List α} : a ∈ a :: l := by simp
theorem memS {α : Type} {a b : α} {l : List α} (h : a ∈ l) : a ∈ b :: l := List.mem_cons_of_mem _ h
theorem rows_seen {w : World} (rs : List Row) (h : ∀ r ∈ rs, r.own = false ∧ r.sat w) : ∀ r ∈ rs, r.own = false ∧ r.sat w := h
theorem one_get {α : Type} {x y : α} {i : Nat} (h : [x][i]? = some y) : i = 0 ∧ y = x := by
  cases i with
  | zero => simp at h; exact ⟨rfl, h.symm⟩
  | succ i => simp at h

/-- Rows that stand apart, all the call's own, are one piece. -/
theorem HS.pack {X : Cx} {rs : List Row} {w : World} (h : HS X (rs.map Ch.row) w) (ho : ∀ r ∈ rs, r.own = true) : HS X [.obj true rs] w := by
  have at' : ∀ {r : Row}, r ∈ rs → ∃ i : Nat, (rs.map Ch.row)[i]? = some (.row r) := fun {r} hr => by
    obtain ⟨i, hi, rfl⟩ := List.getElem_of_mem hr
    exact ⟨i, by simp [hi]⟩
  refine ⟨h.fr, fun i c hc => ?_, fun i j ci cj b hij hi hj _ _ _ => ?_, fun i c b hc _ ha => ?_⟩
  · obtain ⟨_, rfl⟩ := one_get hc
    refine ⟨fun r hr => ⟨ho r hr, ?_⟩, fun _ i j p q b hij hi hj ha hb => ?_⟩
    · obtain ⟨i, hi⟩ := at' hr
      exact h.sat i _ hi
    · exact h.dis i j (.row p) (.row q) b hij (by simp [hi]) (by simp [hj]) (ho p (List.mem_of_getElem? hi)) ha hb
  · exact absurd ((one_get hi).1.trans (one_get hj).1.symm) hij
  · obtain ⟨_, rfl⟩ := one_get hc
    obtain ⟨r, hr, ha⟩ := ha
    obtain ⟨i, hi⟩ := at' hr
    exact h.new i _ b hi (ho r hr) ha
/-- One own piece, as rows, for a callee that may write it. -/
theorem HS.open {X : Cx} {ch : List Ch} {w : World} (h : HS X ch w) {id : Nat} {rs : List Row} (hid : ch[id]? = some (.obj true rs)) : HS ⟨w, (Ch.obj true rs).at⟩ (rs.map Ch.row) w := by
  have hs := h.sat id _ hid
  refine ⟨⟨rfl, rfl, rfl, Nat.le_refl _, fun _ _ _ => rfl⟩, fun i c hc => ?_, fun i j ci cj b hij hi hj _ ha hb => ?_, fun i c b hc _ ha => .inr ?_⟩
  · obtain ⟨r, hr, rfl⟩ := map_get hc
    exact (hs.1 r (List.mem_of_getElem? hr)).2
  · obtain ⟨p, hp, rfl⟩ := map_get hi
    obtain ⟨q, hq, rfl⟩ := map_get hj
    exact hs.2 rfl i j p q b hij hp hq ha hb
  · obtain ⟨r, hr, rfl⟩ := map_get hc
    exact ⟨r, List.mem_of_getElem? hr, ha⟩
theorem HS.seeObj {X : Cx} {ch : List Ch} {w : World} (h : HS X ch w) {id : Nat} {o : Bool} {rs : List Row} (hid : ch[id]? = some (.obj o rs)) : ∀ r ∈ rs, r.own = o ∧ r.sat w := (h.sat id _ hid).1
/-- Pieces that are only read. -/
theorem HS.objs {w : World} (M : Nat → Prop) (os : List (List Row)) (h : ∀ rs ∈ os, ∀ r ∈ rs, r.own = false ∧ r.sat w) : HS ⟨w, M⟩ (os.map (Ch.obj false)) w := by
  refine ⟨⟨rfl, rfl, rfl, Nat.le_refl _, fun _ _ _ => rfl⟩, fun i c hc => ?_, fun i j ci cj b _ hi _ ho _ _ => ?_, fun i c b hc ho _ => ?_⟩
  · obtain ⟨rs, hr, rfl⟩ := map_get hc
    exact ⟨h rs (List.mem_of_getElem? hr), fun q => (by cases q)⟩
  · obtain ⟨rs, hr, rfl⟩ := map_get hi
    cases ho
  · obtain ⟨rs, hr, rfl⟩ := map_get hc
    cases ho
theorem seen_nil {w : World} : ∀ rs ∈ ([] : List (List Row)), ∀ r ∈ rs, r.own = false ∧ r.sat w := fun rs h => (by cases h)
theorem seen_cons {w : World} {rs : List Row} {os : List (List Row)} (h : ∀ r ∈ rs, r.own = false ∧ r.sat w) (h2 : ∀ rs ∈ os, ∀ r ∈ rs, r.own = false ∧ r.sat w) : ∀ rs' ∈ rs :: os, ∀ r ∈ rs', r.own = false ∧ r.sat w := fun rs' hm => by
  rcases List.mem_cons.1 hm with rfl | hm
  · exact h
  · exact h2 rs' hm
/-- A callee that turns one own piece. -/
theorem smTurnO {P : Program} {f : FuncId} (hc : ∀ args w, (callFunc f args).run P w = .ok (.enter f args) w) {S : Sm}
    (h : ∀ (args : List SV) (ch : List Ch) (k : EK) (w : World) (X : Cx), S args ch k → HS X ch w → ∃ (v : SV) (id : Nat) (rs rs' : List Row), ch[id]? = some (.obj true rs) ∧ k v (ch.set id (.obj true rs')) [id] ∧ (∀ r ∈ rs', r.own = true) ∧ (∀ b, (Ch.obj true rs').at b → (Ch.obj true rs).at b) ∧
      Calls P f (args.map SV.den).toArray w fun e w' => e = .returned v.den ∧ HS ⟨w, (Ch.obj true rs).at⟩ (rs'.map Ch.row) w') : SmOK P f S :=
  ⟨hc, fun X args ch k w hS hs => by
    obtain ⟨v, id, rs, rs', hid, hk, ho, hat, hcall⟩ := h args ch k w X hS hs
    exact Calls.mono hcall fun e w' ⟨he, hn⟩ => ⟨v, _, [id], he, hs.swap1 hid rfl (hn.pack ho) hat, Agree.set _ _ _, hk⟩⟩
/-- A summary of a function that makes memory at most; its answer is one of several. -/
theorem smV {P : Program} {f : FuncId} (hc : ∀ args w, (callFunc f args).run P w = .ok (.enter f args) w) {S : Sm}
    (h : ∀ (args : List SV) (ch : List Ch) (k : EK) (w : World) (X : Cx), S args ch k → HS X ch w → Calls P f (args.map SV.den).toArray w fun e w' => ∃ v : SV, e = .returned v.den ∧ Below w.heap.size w w' ∧ k v ch []) : SmOK P f S :=
  ⟨hc, fun X args ch k w hS hs => Calls.mono (h args ch k w X hS hs) fun e w' ⟨v, he, hb, hk⟩ => ⟨v, ch, [], he, hs.keep hb, Agree.refl _, hk⟩⟩
theorem at_nil {b : Nat} (h : (Ch.obj true []).at b) : (Ch.obj true []).at b := h
theorem at_cons {r r' : Row} {rs rs' : List Row} (h1 : r'.own = r.own) (h2 : r'.ao = r.ao) (h3 : r'.n = r.n) (h : ∀ b, (Ch.obj true rs').at b → (Ch.obj true rs).at b) : ∀ b, (Ch.obj true (r' :: rs')).at b → (Ch.obj true (r :: rs)).at b := fun b hb => by
  obtain ⟨q, hq, ha⟩ := hb
  rcases List.mem_cons.1 hq with rfl | hq
  · exact ⟨r, by simp, by obtain ⟨h4, off, h5⟩ := ha; exact ⟨by rw [← h1, ← h3]; exact h4, off, by rw [← h2]; exact h5⟩⟩
  · obtain ⟨p, hp, hpa⟩ := h b ⟨q, hq, ha⟩
    exact ⟨p, List.mem_cons_of_mem _ hp, hpa⟩

/-- Literal cells, seen as a row of ints that is only read. -/
theorem cells_seen {w : World} {b : Nat} {t : TypeId} {cs : List SC} {l : List Int} (h : Ch.sat w (.cells b t cs)) (hl : intL cs = some l) {s n : Nat} (hn : n * s ≤ cs.length) {F : List (Nat → SC)} (hF : F.length = s)
    (hf : ∀ (c : Nat) (f : Nat → SC), F[c]? = some f → ∀ i, i < n → (f i).den = .int .i64 (getZ l (s * i + c))) : Row.sat w ⟨false, some ⟨b, 0, none⟩, 0, s, n, 0, F⟩ := by
  have hb : w.heap[b]? = some (.cells (cs.map SC.den).toArray t (0, 0)) := h
  refine ⟨hF, fun _ hn0 => ⟨b, 0, rfl, (Array.getElem?_eq_some_iff.1 hb).1, fun i hi c f hfc => ?_⟩, fun ho => (by cases ho)⟩
  have hc : c < s := by rw [← hF]; exact (List.getElem?_eq_some_iff.1 hfc).1
  have hlt : i * s + c < cs.length := by
    have : (i + 1) * s ≤ n * s := Nat.mul_le_mul_right _ hi
    rw [Nat.add_mul] at this
    omega
  have hx := (intL_get hl).2 (i * s + c) _ (List.getElem?_eq_getElem hlt)
  rw [hf c f hfc i hi, Nat.mul_comm s i, ← hx]
  simp [World.cell?, hb, hlt]
/-- What a slice argument reads as: how many elements, the ints of their cells. -/
def rd1 (ch : List Ch) (x : SC) (K : Nat → (Nat → Int) → Prop) : Prop :=
  match x with
  | .sl id ao n _ =>
    match ch[id]? with
    | some (.row r) => ∃ g0 : Nat → Int, (ao = r.ao ∧ n = r.n ∧ r.fld = [fun i => .int (g0 i)]) ∧ K n g0
    | _ => False
  | .slc id b n _ =>
    match ch[id]? with
    | some (.cells b' _ cs) =>
      match intL cs, Nat.ble n cs.length with
      | some l, true => b = b' ∧ K n fun i => getZ l i
      | _, _ => False
    | _ => False
  | .nil => K 0 fun _ => 0
  | _ => False
def rd2 (ch : List Ch) (x : SC) (K : Nat → (Nat → Int) → (Nat → Int) → Prop) : Prop :=
  match x with
  | .sl id ao n _ =>
    match ch[id]? with
    | some (.row r) => ∃ g0 g1 : Nat → Int, (ao = r.ao ∧ n = r.n ∧ r.fld = [fun i => .int (g0 i), fun i => .int (g1 i)]) ∧ K n g0 g1
    | _ => False
  | .slc id b n _ =>
    match ch[id]? with
    | some (.cells b' _ cs) =>
      match intL cs, Nat.ble (n * 2) cs.length with
      | some l, true => b = b' ∧ K n (fun i => getZ l (2 * i)) fun i => getZ l (2 * i + 1)
      | _, _ => False
    | _ => False
  | .nil => K 0 (fun _ => 0) fun _ => 0
  | _ => False
theorem nil_seen {w : World} {s : Nat} {F : List (Nat → SC)} (hF : F.length = s) : Row.sat w ⟨false, none, 0, s, 0, 0, F⟩ := ⟨hF, fun _ h => absurd h (Nat.lt_irrefl 0), fun ho => (by cases ho)⟩
theorem seenAs' {w : World} {r : Row} (h : r.sat w) {F : List (Nat → SC)} {s : Nat} (hf : r.fld = F) (hl : F.length = s) : Row.sat w ⟨false, r.ao, 0, s, r.n, 0, F⟩ := by
  have h2 := Row.see h
  have hs : r.s = s := by rw [← hl, ← hf]; exact h.1.symm
  subst hf
  rw [← hs]
  exact h2
theorem rd1_ok {ch : List Ch} {x : SC} {K : Nat → (Nat → Int) → Prop} (h : rd1 ch x K) {X : Cx} {w : World} (hs : HS X ch w) :
    ∃ (ao : Option Addr) (n c : Nat) (g0 : Nat → Int), x.den = .slice ao n c ∧ Row.sat w ⟨false, ao, 0, 1, n, 0, [fun i => .int (g0 i)]⟩ ∧ K n g0 := by
  unfold rd1 at h
  split at h
  · rename_i id ao n cap
    split at h
    · rename_i r hid
      obtain ⟨g0, ⟨rfl, rfl, hf⟩, hk⟩ := h
      exact ⟨r.ao, r.n, cap, g0, rfl, seenAs' (hs.sat id _ hid) hf rfl, hk⟩
    · exact h.elim
  · rename_i id b n cap
    split at h
    · rename_i b' t cs hid
      split at h
      · rename_i l hl hle
        obtain ⟨rfl, hk⟩ := h
        refine ⟨_, n, cap, _, rfl, cells_seen (hs.sat id _ hid) hl (by have := Nat.le_of_ble_eq_true hle; omega) rfl fun c f hf i hi => ?_, hk⟩
        cases c with
        | zero => simp at hf; subst hf; simp [SC.den]
        | succ c => simp at hf
      · exact h.elim
    · exact h.elim
  · exact ⟨none, 0, 0, _, rfl, nil_seen rfl, h⟩
  · exact h.elim
theorem rd2_ok {ch : List Ch} {x : SC} {K : Nat → (Nat → Int) → (Nat → Int) → Prop} (h : rd2 ch x K) {X : Cx} {w : World} (hs : HS X ch w) :
    ∃ (ao : Option Addr) (n c : Nat) (g0 g1 : Nat → Int), x.den = .slice ao n c ∧ Row.sat w ⟨false, ao, 0, 2, n, 0, [fun i => .int (g0 i), fun i => .int (g1 i)]⟩ ∧ K n g0 g1 := by
  unfold rd2 at h
  split at h
  · rename_i id ao n cap
    split at h
    · rename_i r hid
      obtain ⟨g0, g1, ⟨rfl, rfl, hf⟩, hk⟩ := h
      exact ⟨r.ao, r.n, cap, g0, g1, rfl, seenAs' (hs.sat id _ hid) hf rfl, hk⟩
    · exact h.elim
  · rename_i id b n cap
    split at h
    · rename_i b' t cs hid
      split at h
      · rename_i l hl hle
        obtain ⟨rfl, hk⟩ := h
        refine ⟨_, n, cap, _, _, rfl, cells_seen (hs.sat id _ hid) hl (by have := Nat.le_of_ble_eq_true hle; omega) rfl fun c f hf i hi => ?_, hk⟩
        match c with
        | 0 => simp at hf; subst hf; simp [SC.den]
        | 1 => simp at hf; subst hf; simp [SC.den]
        | c + 2 => simp at hf
      · exact h.elim
    · exact h.elim
  · exact ⟨none, 0, 0, _, _, rfl, nil_seen rfl, h⟩
  · exact h.elim
end Go.Proofs.Ytmgjmglmjfjliab

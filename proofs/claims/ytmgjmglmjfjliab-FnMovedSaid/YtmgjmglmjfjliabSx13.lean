/-
  A walk by symbols, part 13: what a call hands back, said otherwise.
-/
import Derived.Test.YtmgjmglmjfjliabSx12
namespace Go.Proofs.Ytmgjmglmjfjliab
set_option linter.unusedVariables false
set_option linter.unusedSimpArgs false
open Go.RowKit

def CEq1 (i : Nat) : List (Nat → SC) → List SC → (List SC → Prop) → Prop
  | [], l, k => k l
  | f :: fs, x :: l, k => x.den = (f i).den ∧ CEq1 i fs l k
  | _ :: _, [], _ => False
/-- Cells, one element behind the other, read as fields; k: how many elements. -/
def CEq (fs : List (Nat → SC)) : Nat → Nat → List SC → (Nat → Prop) → Prop
  | _, i, [], k => k i
  | 0, _, _ :: _, _ => False
  | m + 1, i, x :: l, k => CEq1 i fs (x :: l) fun l' => CEq fs m (i + 1) l' k
theorem CEq1.get {i : Nat} : ∀ {fs : List (Nat → SC)} {l : List SC} {k : List SC → Prop}, CEq1 i fs l k → fs.length ≤ l.length ∧ k (l.drop fs.length) ∧ ∀ (c : Nat) (f : Nat → SC), fs[c]? = some f → ∃ x, l[c]? = some x ∧ x.den = (f i).den := by
  intro fs
  induction fs with
  | nil => intro l k h; exact ⟨by simp, by simpa [CEq1] using h, fun c f hf => by simp at hf⟩
  | cons g fs ih =>
    intro l k h
    cases l with
    | nil => exact h.elim
    | cons x l =>
      obtain ⟨h1, h2⟩ := h
      obtain ⟨h3, h4, h5⟩ := ih h2
      refine ⟨by simpa using h3, by simpa using h4, fun c f hf => ?_⟩
      cases c with
      | zero => simp at hf; subst hf; exact ⟨x, rfl, h1⟩
      | succ c => simpa using h5 c f (by simpa using hf)
theorem CEq.get {fs : List (Nat → SC)} {k : Nat → Prop} : ∀ {m i : Nat} {l : List SC}, CEq fs m i l k → ∃ n, k (i + n) ∧ l.length = n * fs.length ∧ ∀ j, j < n → ∀ (c : Nat) (f : Nat → SC), fs[c]? = some f → ∃ x, l[j * fs.length + c]? = some x ∧ x.den = (f (i + j)).den := by
  intro m
  induction m with
  | zero =>
    intro i l h
    cases l with
    | nil => exact ⟨0, by simpa [CEq] using h, by simp, fun j hj => by omega⟩
    | cons x l => exact h.elim
  | succ m ih =>
    intro i l h
    cases l with
    | nil => exact ⟨0, by simpa [CEq] using h, by simp, fun j hj => by omega⟩
    | cons x l =>
      obtain ⟨h1, h2, h3⟩ := CEq1.get h
      obtain ⟨n, h0, h4, h5⟩ := ih h2
      refine ⟨n + 1, by rw [← Nat.add_assoc, Nat.add_right_comm]; exact h0, ?_, fun j hj c f hf => ?_⟩
      · simp only [List.length_drop] at h4
        rw [Nat.succ_mul]
        omega
      · cases j with
        | zero => obtain ⟨x, hx, hd⟩ := h3 c f hf; exact ⟨x, by simpa using hx, by simpa using hd⟩
        | succ j =>
          obtain ⟨x, hx, hd⟩ := h5 j (by omega) c f hf
          rw [List.getElem?_drop] at hx
          refine ⟨x, ?_, ?_⟩
          · rw [← hx, Nat.succ_mul]
            congr 1
            omega
          · rw [hd]
            congr 2
            omega
def ReL1 : Ch → Ch → Prop
  | .row r, .row r' => r.own = r'.own ∧ r.ao = r'.ao ∧ r.t = r'.t ∧ r.s = r'.s ∧ r.n = r'.n ∧ r.cap = r'.cap ∧ FEq r.n r.fld r'.fld
  | .cells b t cs, .row r' => true = r'.own ∧ some ⟨b, 0, none⟩ = r'.ao ∧ t = r'.t ∧ Nat.beq r'.fld.length r'.s = true ∧ CEq r'.fld cs.length 0 cs fun n => n = r'.n ∧ n = r'.cap ∧ Nat.ble n 1048576 = true
  | .dead, .row r' => true = r'.own ∧ none = r'.ao ∧ 0 = r'.n ∧ 0 = r'.cap ∧ Nat.beq r'.fld.length r'.s = true
  | .dead, .dead => True
  | _, _ => False
/-- The same pieces, said otherwise. -/
def ReL : List Ch → List Ch → Prop
  | [], [] => True
  | c :: l, d :: m => ReL1 c d ∧ ReL l m
  | _, _ => False
theorem FEq.get' {n : Nat} : ∀ {fs gs : List (Nat → SC)}, FEq n fs gs → ∀ (c : Nat) (g : Nat → SC), gs[c]? = some g → ∃ f : Nat → SC, fs[c]? = some f ∧ ∀ i, i < n → (f i).den = (g i).den := fun {fs gs} h c g hg => by
  have hc : c < fs.length := by rw [← h.len]; exact (List.getElem?_eq_some_iff.1 hg).1
  exact ⟨_, List.getElem?_eq_getElem hc, h.get c _ g (List.getElem?_eq_getElem hc) hg⟩
theorem ReL1.ok {c d : Ch} (h : ReL1 c d) {w : World} (hs : c.sat w) : d.sat w ∧ (d.own = c.own ∨ ∀ b, ¬ d.at b) ∧ ∀ b, d.at b → c.at b := by
  cases c with
  | row r =>
    cases d with
    | row r' =>
      obtain ⟨o, ao, t, s, n, cap, fs⟩ := r
      obtain ⟨o', ao', t', s', n', cap', gs⟩ := r'
      obtain ⟨h1, h2, h3, h4, h5, h6, hf⟩ := h
      simp only at h1 h2 h3 h4 h5 h6 hf
      subst h1 h2 h3 h4 h5 h6
      refine ⟨?_, .inl rfl, fun b hb => hb⟩
      have hs : Row.sat w ⟨o, ao, t, s, n, cap, fs⟩ := hs
      refine ⟨hf.len.trans hs.1, fun ho hn => ?_, fun ho => ?_⟩
      · obtain ⟨b, off, e1, e2, e3⟩ := hs.2.1 ho hn
        refine ⟨b, off, e1, e2, fun i hi c g hg => ?_⟩
        obtain ⟨f, hf1, hf2⟩ := hf.get' c g hg
        rw [e3 i hi c f hf1, hf2 i hi]
      · rcases hs.2.2 ho with h1 | ⟨b, cs, e1, e2, e3, e4, e5, e6⟩
        · exact .inl h1
        · refine .inr ⟨b, cs, e1, e2, e3, e4, e5, fun i hi c g hg => ?_⟩
          obtain ⟨f, hf1, hf2⟩ := hf.get' c g hg
          rw [e6 i hi c f hf1, hf2 i hi]
    | cells b t cs => exact h.elim
    | dead => exact h.elim
    | obj o rs => exact h.elim
    | whole b t g z x => exact h.elim
  | cells b t cs =>
    cases d with
    | row r' =>
      obtain ⟨o', ao', t', s', n', cap', gs⟩ := r'
      obtain ⟨h1, h2, h3, h4, hf⟩ := h
      simp only at h1 h2 h3 h4 hf
      obtain ⟨n0, ⟨h5, h6, h7⟩, hl, hg⟩ := hf.get
      rw [Nat.zero_add] at h5 h6 h7
      have h4 := Nat.eq_of_beq_eq_true h4
      subst h1 h2 h3 h4 h5 h6
      have hm := Nat.le_of_ble_eq_true h7
      have hb : w.heap[b]? = some (.cells (cs.map SC.den).toArray t (0, 0)) := hs
      refine ⟨⟨rfl, fun ho => (by cases ho), fun _ => .inr ⟨b, _, rfl, hb, Nat.le_refl _, by show _ ≤ maxLen; simp only [maxLen]; omega, by simp [hl], fun i hi c f hf' => ?_⟩⟩, .inl rfl, fun b' hb' => ?_⟩
      · obtain ⟨x, hx, hd⟩ := hg i hi c f hf'
        simp only [List.getElem?_toArray, List.getElem?_map]
        show Option.map SC.den cs[i * gs.length + c]? = _
        rw [hx, Option.map_some, hd, Nat.zero_add]
      · obtain ⟨_, off, ha⟩ := hb'
        injection ha with ha
        injection ha with ha
        exact ha.symm
    | cells b t cs => exact h.elim
    | dead => exact h.elim
    | obj o rs => exact h.elim
    | whole b t g z x => exact h.elim
  | dead =>
    cases d with
    | dead => exact ⟨trivial, .inl rfl, fun _ h => h⟩
    | row r' =>
      obtain ⟨o', ao', t', s', n', cap', gs⟩ := r'
      obtain ⟨h1, h2, h3, h4, h5⟩ := h
      simp only at h1 h2 h3 h4 h5
      have h5 := Nat.eq_of_beq_eq_true h5
      subst h1 h2 h3 h4 h5
      exact ⟨⟨rfl, fun ho => (by cases ho), fun _ => .inl ⟨rfl, rfl, rfl⟩⟩, Or.inr (fun b hb => (by obtain ⟨_, off, hb⟩ := hb; cases hb)), fun b hb => (by obtain ⟨_, off, hb⟩ := hb; cases hb)⟩
    | cells b t cs => exact h.elim
    | obj o rs => exact h.elim
    | whole b t g z x => exact h.elim
  | obj o rs => cases d <;> exact h.elim
  | whole b t g z x => cases d <;> exact h.elim
theorem ReL.get : ∀ {l m : List Ch}, ReL l m → ∀ (i : Nat) (d : Ch), m[i]? = some d → ∃ c, l[i]? = some c ∧ ReL1 c d := by
  intro l
  induction l with
  | nil => intro m h i d hd; cases m with | nil => simp at hd | cons _ _ => exact h.elim
  | cons c l ih =>
    intro m h i d hd
    cases m with
    | nil => exact h.elim
    | cons e m =>
      cases i with
      | zero => simp at hd; subst hd; exact ⟨c, rfl, h.1⟩
      | succ i => simpa using ih h.2 i d (by simpa using hd)
theorem HS.reL {X : Cx} {l m : List Ch} {w : World} (h : HS X l w) (hr : ReL l m) : HS X m w where
  fr := h.fr
  sat := fun i d hd => by
    obtain ⟨c, hc, hcd⟩ := hr.get i d hd
    exact (hcd.ok (h.sat i c hc)).1
  dis := fun i j ci cj b hij hi hj ho hai haj => by
    obtain ⟨c, hc, hcd⟩ := hr.get i ci hi
    obtain ⟨c', hc', hcd'⟩ := hr.get j cj hj
    have h1 := hcd.ok (h.sat i c hc)
    have h2 := hcd'.ok (h.sat j c' hc')
    exact h.dis i j c c' b hij hc hc' ((h1.2.1.resolve_right fun q => q b hai) ▸ ho) (h1.2.2 b hai) (h2.2.2 b haj)
  new := fun i d b hd ho ha => by
    obtain ⟨c, hc, hcd⟩ := hr.get i d hd
    have h1 := hcd.ok (h.sat i c hc)
    exact h.new i c b hc ((h1.2.1.resolve_right fun q => q b ha) ▸ ho) (h1.2.2 b ha)
/-- The pieces that a value's slices name; none: a nil slice. -/
def oidC : SC → List (Option Nat)
  | .sl id _ _ _ => [some id]
  | .slc id _ _ _ => [some id]
  | .nil => [none]
  | _ => []
def oidL : List SC → List (Option Nat)
  | [] => []
  | x :: r => oidC x ++ oidL r
def oidA : SA → List (Option Nat)
  | .c x => oidC x
  | .agg xs => oidL xs
def oidT : List SA → List (Option Nat)
  | [] => []
  | x :: r => oidA x ++ oidT r
def oidOf : SV → List (Option Nat)
  | .a x => oidA x
  | .tup xs => oidT xs
  | .undef => []
def somesL : List (Option Nat) → List Nat
  | [] => []
  | some i :: r => i :: somesL r
  | none :: r => somesL r
def selO (ch : List Ch) (l : List (Option Nat)) : List Ch := l.map fun o => match o with
  | some i => ch.getD i .dead
  | none => .dead
theorem somesL_mem {l : List (Option Nat)} {i : Nat} {a : Nat} (h : l[i]? = some (some a)) : a ∈ somesL l := by
  induction l generalizing i with
  | nil => simp at h
  | cons o l ih =>
    cases i with
    | zero => simp at h; subst h; simp [somesL]
    | succ i => simp at h; cases o with | none => exact ih h | some b => exact List.mem_cons_of_mem _ (ih h)
theorem somesL_inj {l : List (Option Nat)} (hl : (somesL l).Nodup) : ∀ {i j a : Nat}, l[i]? = some (some a) → l[j]? = some (some a) → i = j := by
  induction l with
  | nil => intro i j a h; simp at h
  | cons o l ih =>
    intro i j a hi hj
    have hl' : (somesL l).Nodup := by cases o with | none => exact hl | some b => exact (List.nodup_cons.1 hl).2
    cases i with
    | zero =>
      cases j with
      | zero => rfl
      | succ j =>
        simp at hi hj
        subst hi
        exact absurd (somesL_mem hj) (List.nodup_cons.1 hl).1
    | succ i =>
      cases j with
      | zero =>
        simp at hi hj
        subst hj
        exact absurd (somesL_mem hi) (List.nodup_cons.1 hl).1
      | succ j => simp at hi hj; rw [ih hl' hi hj]
theorem HS.selO {X : Cx} {ch : List Ch} {w : World} (h : HS X ch w) (l : List (Option Nat)) (hl : (somesL l).Nodup) : HS X (selO ch l) w := by
  have get : ∀ (i : Nat) (c : Ch), (Go.Proofs.Ytmgjmglmjfjliab.selO ch l)[i]? = some c → c = .dead ∨ ∃ j, l[i]? = some (some j) ∧ ch[j]? = some c := fun i c hc => by
    simp only [Go.Proofs.Ytmgjmglmjfjliab.selO, List.getElem?_map] at hc
    cases hi : l[i]? with
    | none => simp [hi] at hc
    | some o =>
      cases o with
      | none => simp [hi] at hc; exact .inl hc.symm
      | some j =>
        simp only [hi, Option.map_some, Option.some.injEq, List.getD_eq_getElem?_getD] at hc
        cases hj : ch[j]? with
        | none => simp [hj] at hc; exact .inl hc.symm
        | some d => simp [hj] at hc; subst hc; exact .inr ⟨j, rfl, hj⟩
  refine ⟨h.fr, fun i c hc => ?_, fun i j ci cj b hij hi hj ho hai haj => ?_, fun i c b hc ho ha => ?_⟩
  · rcases get i c hc with rfl | ⟨j, _, hj⟩
    · trivial
    · exact h.sat j c hj
  · rcases get i ci hi with rfl | ⟨i', hi1, hi2⟩
    · exact hai.elim
    · rcases get j cj hj with rfl | ⟨j', hj1, hj2⟩
      · exact haj.elim
      · exact h.dis i' j' ci cj b (fun e => hij (somesL_inj hl hi1 (e ▸ hj1))) hi2 hj2 ho hai haj
  · rcases get i c hc with rfl | ⟨j, _, hj⟩
    · exact ha.elim
    · exact h.new j c b hj ho ha
/-- The value, and the pieces that its slices name, one behind the other, said otherwise. -/
def OutR (v : SV) (ch : List Ch) (V : Value) (rows : List Ch) : Prop := v.den = V ∧ ReL (selO ch (oidOf v)) rows ∧ nodupB (somesL (oidOf v)) = true
theorem OutR.hs {v : SV} {ch : List Ch} {V : Value} {rows : List Ch} (h : OutR v ch V rows) {X : Cx} {w : World} (hs : HS X ch w) : HS X rows w := (hs.selO _ (nodupB_ok h.2.2)).reL h.2.1
end Go.Proofs.Ytmgjmglmjfjliab

/-
  A walk by symbols, part 15: a callee that turns one own piece and makes others; cursors over bytes.
-/
import Derived.Test.YtmgjmglmjfjliabSx14
namespace Go.Proofs.Ytmgjmglmjfjliab
set_option linter.unusedVariables false
set_option linter.unusedSimpArgs false
open Go.RowKit

theorem get_app {α : Type} {l m : List α} {x : α} {i : Nat} (h : (l ++ m)[i]? = some x) : (i < l.length ∧ l[i]? = some x) ∨ (l.length ≤ i ∧ m[i - l.length]? = some x) := by
  rw [List.getElem?_append] at h
  split at h
  · exact .inl ⟨by assumption, h⟩
  · exact .inr ⟨by omega, h⟩

/-- A callee has turned one of the caller's own pieces, and made others. -/
theorem HS.swapApp {X : Cx} {ch : List Ch} {w w' : World} (h : HS X ch w) {id : Nat} {c d : Ch} {new : List Ch} (hid : ch[id]? = some c) (ho : c.own = true) (h' : HS ⟨w, c.at⟩ (d :: new) w') (hd : ∀ b, d.at b → c.at b)
    (hall : ∀ e ∈ new, e.own = true ∨ e = .dead) : HS X (ch.set id d ++ new) w' := by
  have h1 : HS X (ch.set id d) w' := h.swap1 hid ho ⟨h'.fr, fun i e he => by
    obtain ⟨rfl, rfl⟩ := one_get he
    exact h'.sat 0 _ rfl, fun i j ci cj b hij hi hj => by
    obtain ⟨rfl, rfl⟩ := one_get hi
    obtain ⟨rfl, rfl⟩ := one_get hj
    exact absurd rfl hij, fun i e b he => by
    obtain ⟨rfl, rfl⟩ := one_get he
    exact h'.new 0 _ b rfl⟩ hd
  have hn : ∀ (i : Nat) (e : Ch) (b : Nat), new[i]? = some e → e.at b → w.heap.size ≤ b ∨ c.at b := fun i e b he ha => by
    rcases hall e (List.mem_of_getElem? he) with q | rfl
    · exact h'.new (i + 1) e b he q ha
    · exact ha.elim
  have apart : ∀ (i j : Nat) (ci cj : Ch) (b : Nat), (ch.set id d)[i]? = some ci → new[j]? = some cj → (ci.own = true ∨ cj.own = true) → ci.at b → cj.at b → False := fun i j ci cj b hi hj hor hai haj => by
    rcases get_set hi with ⟨rfl, rfl, _⟩ | ⟨hne, hi⟩
    · rcases hor with q | q
      · exact h'.dis 0 (j + 1) _ cj b (by omega) rfl hj q hai haj
      · exact h'.dis (j + 1) 0 cj _ b (by omega) hj rfl q haj hai
    · rcases hn j cj b hj haj with q | q
      · have := Ch.sat_lt (h.sat i ci hi) hai
        omega
      · exact h.dis id i c ci b (fun e => hne e.symm) hid hi ho q hai
  refine ⟨h1.fr, fun i e he => ?_, fun i j ci cj b hij hi hj hoi hai haj => ?_, fun i e b he hoe hae => ?_⟩
  · rcases get_app he with ⟨_, he⟩ | ⟨_, he⟩
    · exact h1.sat i e he
    · exact h'.sat (i - (ch.set id d).length + 1) e he
  · rcases get_app hi with ⟨li, hi⟩ | ⟨li, hi⟩ <;> rcases get_app hj with ⟨lj, hj⟩ | ⟨lj, hj⟩
    · exact h1.dis i j ci cj b hij hi hj hoi hai haj
    · exact apart _ _ ci cj b hi hj (.inl hoi) hai haj
    · exact apart _ _ cj ci b hj hi (.inr hoi) haj hai
    · exact h'.dis (i - (ch.set id d).length + 1) (j - (ch.set id d).length + 1) ci cj b (by omega) hi hj hoi hai haj
  · rcases get_app he with ⟨_, he⟩ | ⟨_, he⟩
    · exact h1.new i e b he hoe hae
    · rcases hn _ e b he hae with q | q
      · exact .inl (Nat.le_trans h.fr.size q)
      · exact h.new id c b hid ho q

/-- A callee that turns one own piece and makes others. -/
theorem smTurnN {P : Program} {f : FuncId} (hc : ∀ args w, (callFunc f args).run P w = .ok (.enter f args) w) {S : Sm}
    (h : ∀ (args : List SV) (ch : List Ch) (k : EK) (w : World) (X : Cx), S args ch k → HS X ch w → ∃ (id : Nat) (c : Ch), ch[id]? = some c ∧ c.own = true ∧
      Calls P f (args.map SV.den).toArray w fun e w' => ∃ (v : SV) (d : Ch) (new : List Ch), e = .returned v.den ∧ HS ⟨w, c.at⟩ (d :: new) w' ∧ (∀ b, d.at b → c.at b) ∧ ownAll new = true ∧ k v (ch.set id d ++ new) [id]) : SmOK P f S :=
  ⟨hc, fun X args ch k w hS hs => by
    obtain ⟨id, c, hid, ho, hcall⟩ := h args ch k w X hS hs
    refine Calls.mono hcall fun e w' ⟨v, d, new, he, hn, hat, hall, hk⟩ => ⟨v, _, [id], he, hs.swapApp hid ho hn hat (ownAll_ok hall), fun i e hi hne => ?_, hk⟩
    have hl := (List.getElem?_eq_some_iff.1 hi).1
    rw [List.getElem?_append_left (by simpa using hl), List.getElem?_set_ne (fun q => hne (by simp [q]))]
    exact hi⟩

/-- A cursor's piece and the bytes under it, seen alone. -/
theorem HS.cur {X : Cx} {ch : List Ch} {w : World} (h : HS X ch w) {id j b : Nat} {t : TypeId} {a : Nat} {ao : Option Addr} {n cap : Nat} {ic hc : SC} {i z : Int} {r : Row} {g : Nat → Int}
    (hid : ch[id]? = some (.cells b t [.sl a ao n cap, ic, hc])) (hj : ch[j]? = some (.row r)) (hi : asI ic = some i) (hz : asI hc = some z) (hao : ao = r.ao) (hn : n = r.n) (hf : r.fld = [fun i => .u8 (g i)]) :
    HS ⟨w, (Ch.cells b t [.sl a ao n cap, ic, hc]).at⟩ [.cells b t [.sl 1 ao n cap, .int i, .int z], .row ⟨false, ao, 0, 1, n, 0, [fun i => .u8 (g i)]⟩] w := by
  have h1 : Ch.sat w (.cells b t [.sl a ao n cap, ic, hc]) := h.sat id _ hid
  have h2 : r.sat w := h.sat j _ hj
  subst hao hn
  have hr : Row.sat w ⟨false, r.ao, 0, 1, r.n, 0, [fun i => .u8 (g i)]⟩ := seenAs' h2 hf rfl
  have hne : id ≠ j := by rintro rfl; rw [hid] at hj; cases hj
  have far : ∀ q, (Row.at ⟨false, r.ao, 0, 1, r.n, 0, [fun i => .u8 (g i)]⟩ q) → q ≠ b := fun q hq e => by
    subst e
    refine h.dis id j _ _ q hne hid hj rfl rfl ?_
    obtain ⟨h3, off, h4⟩ := hq
    refine ⟨.inr ?_, off, h4⟩
    rcases h3 with h3 | h3
    · cases h3
    · exact h3
  refine ⟨⟨rfl, rfl, rfl, Nat.le_refl _, fun _ _ _ => rfl⟩, fun m c hm => ?_, fun m m' c c' q hmm hm hm' ho ha ha' => ?_, fun m c q hm ho ha => ?_⟩
  · match m, hm with
    | 0, hm =>
      simp only [List.getElem?_cons_zero, Option.some.injEq] at hm
      subst hm
      have e : [SC.sl a r.ao r.n cap, ic, hc].map SC.den = [SC.sl 1 r.ao r.n cap, .int i, .int z].map SC.den := by
        simp only [List.map_cons, List.map_nil]
        rw [asI_den hi, asI_den hz]
        rfl
      simp only [Ch.sat] at h1 ⊢
      rw [← e]
      exact h1
    | 1, hm =>
      simp at hm
      subst hm
      exact hr
    | m + 2, hm => simp at hm
  · match m, hm, m', hm' with
    | 0, hm, 0, hm' => exact absurd rfl hmm
    | 0, hm, 1, hm' =>
      simp at hm hm'
      subst hm hm'
      exact far q ha' ha
    | 1, hm, _, hm' =>
      simp at hm
      subst hm
      cases ho
    | 0, hm, m + 2, hm' => simp at hm'
    | m + 2, hm, _, hm' => simp at hm
  · match m, hm with
    | 0, hm =>
      simp at hm
      subst hm
      exact .inr ha
    | 1, hm =>
      simp at hm
      subst hm
      cases ho
    | m + 2, hm => simp at hm
theorem HS.head {X : Cx} {l : List Ch} {c d : Ch} {w : World} (h : HS X (c :: l) w) (hsat : Ch.sat w d) (ho : d.own = c.own) (hat : ∀ b, d.at b → c.at b) : HS X (d :: l) w where
  fr := h.fr
  sat := fun i e he => by
    cases i with
    | zero => simp at he; subst he; exact hsat
    | succ i => exact h.sat (i + 1) e he
  dis := fun i j ci cj b hij hi hj hoi hai haj => by
    cases i with
    | zero =>
      simp at hi; subst hi
      cases j with
      | zero => exact absurd rfl hij
      | succ j => exact h.dis 0 (j + 1) c cj b hij rfl hj (by rw [← ho]; exact hoi) (hat b hai) haj
    | succ i =>
      cases j with
      | zero => simp at hj; subst hj; exact h.dis (i + 1) 0 ci c b hij hi rfl hoi hai (hat b haj)
      | succ j => exact h.dis (i + 1) (j + 1) ci cj b hij hi hj hoi hai haj
  new := fun i e b he hoe hae => by
    cases i with
    | zero => simp at he; subst he; exact h.new 0 c b rfl (by rw [← ho]; exact hoe) (hat b hae)
    | succ i => exact h.new (i + 1) e b he hoe hae
/-- The cursor's piece under the caller's own numbers. -/
theorem HS.recur {X : Cx} {l : List Ch} {b : Nat} {t : TypeId} {a a' : Nat} {ao : Option Addr} {n cap : Nat} {i z : Int} {w : World} (h : HS X (.cells b t [.sl a ao n cap, .int i, .int z] :: l) w) : HS X (.cells b t [.sl a' ao n cap, .int i, .int z] :: l) w :=
  h.head (show Ch.sat w (.cells b t [.sl a ao n cap, .int i, .int z]) from h.sat 0 _ rfl) rfl fun _ h => h

/-! Pieces that are nothing yet; cells under other numbers; the loop that a summary is for. -/
theorem HS.addNil {X : Cx} {ch : List Ch} {w : World} (h : HS X ch w) (r : Row) (ho : r.own = true) (ha : r.ao = none) (hn : r.n = 0) (hc : r.cap = 0) (hl : r.fld.length = r.s) : HS X (ch ++ [.row r]) w :=
  h.add (Below.refl _ _) _ ⟨hl, fun q => (by rw [ho] at q; cases q), fun _ => .inl ⟨ha, hn, hc⟩⟩ fun b hb => by
    obtain ⟨_, off, hb⟩ := hb
    rw [ha] at hb
    cases hb
theorem HS.recell {X : Cx} {ch : List Ch} {w : World} (h : HS X ch w) (id : Nat) {b : Nat} {t : TypeId} {cs : List SC} (hid : ch[id]? = some (.cells b t cs)) (cs' : List SC) (e : cs.map SC.den = cs'.map SC.den) : HS X (ch.set id (.cells b t cs')) w where
  fr := h.fr
  sat := fun i d hd => by
    rcases get_set hd with ⟨rfl, rfl, _⟩ | ⟨_, hd⟩
    · have := h.sat _ _ hid
      show w.heap[b]? = _
      rw [← e]
      exact this
    · exact h.sat i d hd
  dis := fun i j ci cj b' hij hi hj ho hai haj => by
    rcases get_set hi with ⟨rfl, rfl, _⟩ | ⟨_, hi'⟩
    · rcases get_set hj with ⟨rfl, rfl, _⟩ | ⟨_, hj'⟩
      · exact hij rfl
      · exact h.dis _ j _ cj b' hij hid hj' rfl hai haj
    · rcases get_set hj with ⟨rfl, rfl, _⟩ | ⟨_, hj'⟩
      · exact h.dis i _ ci _ b' hij hi' hid ho hai haj
      · exact h.dis i j ci cj b' hij hi' hj' ho hai haj
  new := fun i d b' hd ho ha => by
    rcases get_set hd with ⟨rfl, rfl, _⟩ | ⟨_, hd⟩
    · exact h.new _ _ b' hid rfl ha
    · exact h.new i d b' hd ho ha
theorem first_loop {P : Program} {X : Cx} {fn : Func} {key : Nat} {rest : List Nat} {S : LSm} (hl : (loopsF fn).map firstReg = key :: rest) (hne : key ∉ rest) (h : LoopOK P X (theLoop fn 0) S) :
    ∀ c, fn.body = some c → LoopsOK P X [(key, S)] c := by
  intro c hc
  refine loopsOK_of c fun b hb T hT => ?_
  have e : loopsF fn = loopsIn c := by simp [loopsF, hc]
  rw [← e] at hb
  match hf : loopsF fn with
  | [] => rw [hf] at hb; cases hb
  | d :: ds =>
    rw [hf] at hb hl
    simp only [List.map_cons, List.cons.injEq] at hl
    have ht : theLoop fn 0 = d := by simp [theLoop, hf]
    rw [ht] at h
    rcases List.mem_cons.1 hb with rfl | hb
    · simp only [lookL, hl.1, Nat.beq_refl, Option.some.injEq] at hT
      subst hT
      exact h
    · have hm : firstReg b ∈ rest := by rw [← hl.2]; exact List.mem_map.2 ⟨b, hb, rfl⟩
      simp only [lookL] at hT
      split at hT
      · rename_i hq
        have := Nat.eq_of_beq_eq_true hq
        rw [← this] at hm
        exact absurd hm hne
      · cases hT
theorem body_loop {P : Program} {X : Cx} {c d : Code} {key : Nat} {S : LSm} (hd : loopsIn c = [d]) (hk : firstReg d = key) (h : LoopOK P X d S) : LoopsOK P X [(key, S)] c := by
  refine loopsOK_of c fun b hb T hT => ?_
  rw [hd] at hb
  have hbd : b = d := by simpa using hb
  subst hbd
  simp only [lookL, hk, Nat.beq_refl, Option.some.injEq] at hT
  subst hT
  exact h

/-! Slices of elements of four cells; tables of pieces that are only read. -/
abbrev get4 (l : List Int) (c i : Nat) : Int := getZ l (4 * i + c)
def rd4 (ch : List Ch) (x : SC) (K : Nat → (Nat → Int) → (Nat → Int) → (Nat → Int) → (Nat → Int) → Prop) : Prop :=
  match x with
  | .sl id ao n _ =>
    match ch[id]? with
    | some (.row r) => ∃ g0 g1 g2 g3 : Nat → Int, (ao = r.ao ∧ n = r.n ∧ r.fld = [fun i => .int (g0 i), fun i => .int (g1 i), fun i => .int (g2 i), fun i => .int (g3 i)]) ∧ K n g0 g1 g2 g3
    | _ => False
  | .slc id b n _ =>
    match ch[id]? with
    | some (.cells b' _ cs) =>
      match intL cs, Nat.ble (n * 4) cs.length with
      | some l, true => b = b' ∧ K n (fun i => get4 l 0 i) (fun i => get4 l 1 i) (fun i => get4 l 2 i) fun i => get4 l 3 i
      | _, _ => False
    | _ => False
  | .nil => K 0 (fun _ => 0) (fun _ => 0) (fun _ => 0) fun _ => 0
  | _ => False
theorem rd4_ok {ch : List Ch} {x : SC} {K : Nat → (Nat → Int) → (Nat → Int) → (Nat → Int) → (Nat → Int) → Prop} (h : rd4 ch x K) {X : Cx} {w : World} (hs : HS X ch w) :
    ∃ (ao : Option Addr) (n c : Nat) (g0 g1 g2 g3 : Nat → Int), x.den = .slice ao n c ∧ Row.sat w ⟨false, ao, 0, 4, n, 0, [fun i => .int (g0 i), fun i => .int (g1 i), fun i => .int (g2 i), fun i => .int (g3 i)]⟩ ∧ K n g0 g1 g2 g3 := by
  unfold rd4 at h
  split at h
  · rename_i id ao n cap
    split at h
    · rename_i r hid
      obtain ⟨g0, g1, g2, g3, ⟨rfl, rfl, hf⟩, hk⟩ := h
      exact ⟨r.ao, r.n, cap, g0, g1, g2, g3, rfl, seenAs' (hs.sat id _ hid) hf rfl, hk⟩
    · exact h.elim
  · rename_i id b n cap
    split at h
    · rename_i b' t cs hid
      split at h
      · rename_i l hl hle
        obtain ⟨rfl, hk⟩ := h
        refine ⟨_, n, cap, _, _, _, _, rfl, cells_seen (hs.sat id _ hid) hl (by have := Nat.le_of_ble_eq_true hle; omega) rfl fun c f hf i hi => ?_, hk⟩
        match c with
        | 0 => simp at hf; subst hf; simp [SC.den, get4]
        | 1 => simp at hf; subst hf; simp [SC.den, get4]
        | 2 => simp at hf; subst hf; simp [SC.den, get4]
        | 3 => simp at hf; subst hf; simp [SC.den, get4]
        | c + 4 => simp at hf
      · exact h.elim
    · exact h.elim
  · exact ⟨none, 0, 0, _, _, _, _, rfl, nil_seen rfl, h⟩
  · exact h.elim
theorem HS.seenAll {w : World} (M : Nat → Prop) (cs : List Ch) (h : ∀ c ∈ cs, c.own = false ∧ c.sat w) : HS ⟨w, M⟩ cs w where
  fr := ⟨rfl, rfl, rfl, Nat.le_refl _, fun _ _ _ => rfl⟩
  sat := fun i c hc => (h c (List.mem_of_getElem? hc)).2
  dis := fun i j ci cj b _ hi _ ho => by rw [(h ci (List.mem_of_getElem? hi)).1] at ho; cases ho
  new := fun i c b hc ho => by rw [(h c (List.mem_of_getElem? hc)).1] at ho; cases ho
theorem seenC_nil {w : World} : ∀ c ∈ ([] : List Ch), c.own = false ∧ c.sat w := fun c h => (by cases h)
theorem seenC_row {w : World} {r : Row} {cs : List Ch} (ho : r.own = false) (h : r.sat w) (h2 : ∀ c ∈ cs, c.own = false ∧ c.sat w) : ∀ c ∈ Ch.row r :: cs, c.own = false ∧ c.sat w := fun c hm => by
  rcases List.mem_cons.1 hm with rfl | hm
  · exact ⟨ho, h⟩
  · exact h2 c hm
theorem seenC_obj {w : World} {rs : List Row} {cs : List Ch} (h : ∀ r ∈ rs, r.own = false ∧ r.sat w) (h2 : ∀ c ∈ cs, c.own = false ∧ c.sat w) : ∀ c ∈ Ch.obj false rs :: cs, c.own = false ∧ c.sat w := fun c hm => by
  rcases List.mem_cons.1 hm with rfl | hm
  · exact ⟨rfl, h, fun q => (by cases q)⟩
  · exact h2 c hm
/-- Two loops, each with its summary. -/
theorem two_loops {P : Program} {X : Cx} {fn : Func} {k0 k1 : Nat} {S0 S1 : LSm} (hl : (loopsF fn).map firstReg = [k0, k1]) (hne : k0 ≠ k1) (h0 : LoopOK P X (theLoop fn 0) S0) (h1 : LoopOK P X (theLoop fn 1) S1) :
    ∀ c, fn.body = some c → LoopsOK P X [(k0, S0), (k1, S1)] c := by
  intro c hc
  refine loopsOK_of c fun b hb T hT => ?_
  have e : loopsF fn = loopsIn c := by simp [loopsF, hc]
  rw [← e] at hb
  match hf : loopsF fn with
  | [] => rw [hf] at hb; cases hb
  | [d] => rw [hf] at hl; simp at hl
  | d :: d' :: ds =>
    rw [hf] at hb hl
    simp only [List.map_cons, List.cons.injEq] at hl
    obtain ⟨hd, hd', hn⟩ := hl
    have hds : ds = [] := by cases ds with
      | nil => rfl
      | cons x xs => simp at hn
    subst hds
    have ht : theLoop fn 0 = d := by simp [theLoop, hf]
    have ht' : theLoop fn 1 = d' := by simp [theLoop, hf]
    rw [ht] at h0
    rw [ht'] at h1
    have hb' : b = d ∨ b = d' := by simpa using hb
    rcases hb' with rfl | rfl
    · simp only [lookL, hd, Nat.beq_refl, Option.some.injEq] at hT
      subst hT
      exact h0
    · have hq : Nat.beq k0 k1 = false := by
        cases h : Nat.beq k0 k1
        · rfl
        · exact absurd (Nat.eq_of_beq_eq_true h) hne
      simp only [lookL, hd', hq, Nat.beq_refl, Option.some.injEq] at hT
      subst hT
      exact h1
end Go.Proofs.Ytmgjmglmjfjliab

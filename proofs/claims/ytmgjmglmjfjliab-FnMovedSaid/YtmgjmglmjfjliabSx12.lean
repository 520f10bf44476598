/-
  A walk by symbols, part 12: loops by a relation, results that hold memory, pieces picked out.
-/
import Derived.Test.YtmgjmglmjfjliabSx11
namespace Go.Proofs.Ytmgjmglmjfjliab
set_option linter.unusedVariables false
set_option linter.unusedSimpArgs false
open Go.RowKit

/-- The state behind a round fits the relation. -/
def Next (X : Cx) (J : List SV → List Ch → Prop) (ts : List SV) (ch : List Ch) : Prop :=
  ∃ ts' ch', J ts' ch' ∧ ts.map SV.den = ts'.map SV.den ∧ ∀ w, HS X ch w → HS X ch' w

theorem Next.mk {X : Cx} {J : List SV → List Ch → Prop} {ts : List SV} {ch : List Ch} (f : (Nat → Value) → List SV) (ch' : List Ch) (h : J (f fun d => (ts.getD d .undef).den) ch')
    (ht : ts.map SV.den = (f fun d => (ts.getD d .undef).den).map SV.den) (hc : ∀ w, HS X ch w → HS X ch' w) : Next X J ts ch := ⟨_, ch', h, ht, hc⟩

/-- What follows a round: the next one, or the way out. -/
def loopK (N : List SV → List Ch → Prop) (k : CK) : CK := fun e ts ch =>
  match e with
  | .normal => N ts ch
  | e => k e ts ch

theorem loop_ok {P : Program} (hm : P.follows .mixedOrders = true) {X : Cx} {E : Env} (hb : TbOK P E.tb) {b : Code} (hL : LoopsOK P X E.L b) (fuel : Nat) (n : Nat) (I : Nat → List SV → List Ch → Prop) {k : CK}
    (body : ∀ j ts ch, I j ts ch → j ≤ n → exCode P E fuel b ts ch (loopK (fun ts' ch' => j < n ∧ Next X (I (j + 1)) ts' ch') (fun e ts' ch' => Next X (k e) ts' ch')))
    {ts : List SV} {ch : List Ch} (h0 : Next X (I 0) ts ch) {a : Act} {w : World} (hT : Ts ts a) (hd : a.defers = []) (hs : HS X ch w) : (Code.loop b).wp P (Kh X k) a w := by
  refine wp_loop_rounds (n + 1) ?_
  have out : ∀ {e : Exit} {a' : Act} {w' : World}, (∃ ts ch, Ts ts a' ∧ a'.defers = [] ∧ HS X ch w' ∧ Next X (k e) ts ch) → ∃ ts ch, Ts ts a' ∧ a'.defers = [] ∧ HS X ch w' ∧ k e ts ch := by
    rintro e a' w' ⟨ts', ch', hT', hd', hs', ts2, ch2, hk, hts, hch⟩
    exact ⟨ts2, ch2, by show a'.tmps = _; rw [show a'.tmps = _ from hT', hts], hd', hch w' hs', hk⟩
  have key : ∀ (m j : Nat) (ts : List SV) (ch : List Ch) (a : Act) (w : World), j + m = n → I j ts ch → Ts ts a → a.defers = [] → HS X ch w → Code.rounds P b (Kh X k) (m + 1) a w := by
    intro m
    induction m with
    | zero =>
      intro j ts ch a w hj hI hT hd hs
      rw [rounds_succ]
      refine wp_mono (code_ok hm hb fuel b ts ch _ a w hL (body j ts ch hI (by omega)) hT hd hs) fun e a' w' hq => ?_
      cases e with
      | normal => obtain ⟨ts', ch', _, _, _, hk, _⟩ := hq; omega
      | exit id => exact out hq
      | ret => exact out hq
      | goto l => exact hq.elim
      | panic c => exact hq.elim
      | outgrown => exact hq.elim
    | succ m ih =>
      intro j ts ch a w hj hI hT hd hs
      rw [rounds_succ]
      refine wp_mono (code_ok hm hb fuel b ts ch _ a w hL (body j ts ch hI (by omega)) hT hd hs) fun e a' w' hq => ?_
      cases e with
      | normal =>
        obtain ⟨ts', ch', hT', hd', hs', _, ts2, ch2, hJ, hts, hch⟩ := hq
        exact ih (j + 1) ts2 ch2 a' w' (by omega) hJ (by show a'.tmps = _; rw [show a'.tmps = _ from hT', hts]) hd' (hch w' hs')
      | exit id => exact out hq
      | ret => exact out hq
      | goto l => exact hq.elim
      | panic c => exact hq.elim
      | outgrown => exact hq.elim
  obtain ⟨ts2, ch2, hJ, hts, hch⟩ := h0
  exact key n 0 ts2 ch2 a w (by omega) hJ (by show a.tmps = _; rw [show a.tmps = _ from hT, hts]) hd (hch w hs)

/-- Fields that read the same below n. -/
def FEq (n : Nat) : List (Nat → SC) → List (Nat → SC) → Prop
  | [], [] => True
  | f :: fs, g :: gs => (∀ i, ltN i n → (f i).den = (g i).den) ∧ FEq n fs gs
  | _, _ => False
theorem FEq.len {n : Nat} : ∀ {fs gs : List (Nat → SC)}, FEq n fs gs → gs.length = fs.length := by
  intro fs
  induction fs with
  | nil => intro gs h; cases gs with | nil => rfl | cons g gs => exact h.elim
  | cons f fs ih => intro gs h; cases gs with | nil => exact h.elim | cons g gs => simp [ih h.2]
theorem FEq.get {n : Nat} : ∀ {fs gs : List (Nat → SC)}, FEq n fs gs → ∀ (c : Nat) (f g : Nat → SC), fs[c]? = some f → gs[c]? = some g → ∀ i, i < n → (f i).den = (g i).den := by
  intro fs
  induction fs with
  | nil => intro gs h c f g hf; simp at hf
  | cons f0 fs ih =>
    intro gs h c f g hf hg
    cases gs with
    | nil => exact h.elim
    | cons g0 gs =>
      cases c with
      | zero =>
        simp only [List.getElem?_cons_zero, Option.some.injEq] at hf hg
        subst hf
        subst hg
        exact h.1
      | succ c => exact ih h.2 c f g (by simpa using hf) (by simpa using hg)
theorem HS.re {X : Cx} {ch : List Ch} {w : World} (h : HS X ch w) (id : Nat) (r : Row) (hid : ch[id]? = some (.row r)) (fld : List (Nat → SC)) (hf : FEq r.n r.fld fld) : HS X (ch.set id (.row { r with fld := fld })) w :=
  h.congr id r hid fld hf.len fun c f g h1 h2 i hi => hf.get c f g h1 h2 i hi

/-- A row, as one that is only read. -/
def Row.seen (r : Row) : Row := ⟨false, r.ao, 0, r.s, r.n, 0, r.fld⟩
theorem Row.see {w : World} {r : Row} (h : r.sat w) : r.seen.sat w := by
  refine ⟨h.1, fun _ hn => ?_, fun ho => (by cases ho)⟩
  obtain ⟨b, off, hao, hb, _⟩ := Row.read h hn
  refine ⟨b, off, hao, hb, fun i hi c f hf => ?_⟩
  obtain ⟨b', off', hao', _, hc⟩ := Row.read h hi
  rw [hao] at hao'
  injection hao' with hao'
  injection hao' with h1 h2
  subst h1
  subst h2
  exact hc c f hf
/-- The table of rows that are only read. -/
theorem HS.rows {w : World} (M : Nat → Prop) (rs : List Row) (h : ∀ r ∈ rs, r.own = false ∧ r.sat w) : HS ⟨w, M⟩ (rs.map Ch.row) w := by
  have get : ∀ (i : Nat) (c : Ch), (rs.map Ch.row)[i]? = some c → ∃ r ∈ rs, c = .row r := fun i c hc => by
    simp only [List.getElem?_map] at hc
    cases hi : rs[i]? with
    | none => simp [hi] at hc
    | some r => simp [hi] at hc; exact ⟨r, List.mem_of_getElem? hi, hc.symm⟩
  refine ⟨⟨rfl, rfl, rfl, Nat.le_refl _, fun _ _ _ => rfl⟩, fun i c hc => ?_, fun i j ci cj b _ hi _ ho _ _ => ?_, fun i c b hc ho _ => ?_⟩
  · obtain ⟨r, hr, rfl⟩ := get i c hc
    exact (h r hr).2
  · obtain ⟨r, hr, rfl⟩ := get i ci hi
    rw [show (Ch.row r).own = r.own from rfl, (h r hr).1] at ho
    cases ho
  · obtain ⟨r, hr, rfl⟩ := get i c hc
    rw [show (Ch.row r).own = r.own from rfl, (h r hr).1] at ho
    cases ho

theorem sel_low (f : Nat → Int) (i j : Nat) : selI i j (f j) (lowI i j (f i) 0) = lowI i (j + 1) (f i) 0 := by
  simp only [selI, lowI]
  by_cases e : i = j
  · rw [if_pos e, if_pos (by omega), e]
  · rw [if_neg e]
    by_cases l : i < j
    · rw [if_pos l, if_pos (by omega)]
    · rw [if_neg l, if_neg (by omega)]
/-- The loops of a piece of code. -/
def loopsIn : Code → List Code
  | .loop b => b :: loopsIn b
  | .seq a b => loopsIn a ++ loopsIn b
  | .cond _ a b => loopsIn a ++ loopsIn b
  | .block _ b => loopsIn b
  | _ => []
def loopsF (f : Func) : List Code :=
  match f.body with
  | some c => loopsIn c
  | none => []
def theLoop (f : Func) (i : Nat) : Code := (loopsF f).getD i .skip
theorem loopsOK_of {P : Program} {X : Cx} {L : List (Nat × LSm)} : ∀ c : Code, (∀ b ∈ loopsIn c, ∀ S, lookL L (firstReg b) = some S → LoopOK P X b S) → LoopsOK P X L c := by
  intro c
  induction c with
  | loop b ih =>
    intro h
    refine ⟨?_, ih fun d hd => h d (by simp [loopsIn, hd])⟩
    cases hl : lookL L (firstReg b) with
    | none => trivial
    | some S => exact h b (by simp [loopsIn]) S hl
  | seq a b iha ihb => intro h; exact ⟨iha fun d hd => h d (by simp [loopsIn, hd]), ihb fun d hd => h d (by simp [loopsIn, hd])⟩
  | cond c a b iha ihb => intro h; exact ⟨iha fun d hd => h d (by simp [loopsIn, hd]), ihb fun d hd => h d (by simp [loopsIn, hd])⟩
  | block id b ih => intro h; exact ih h
  | _ => intro _; trivial
theorem one_loop {P : Program} {X : Cx} {fn : Func} {key : Nat} {S : LSm} (hlen : (loopsF fn).length = 1) (hk : firstReg (theLoop fn 0) = key) (h : LoopOK P X (theLoop fn 0) S) :
    ∀ c, fn.body = some c → LoopsOK P X [(key, S)] c := by
  intro c hc
  refine loopsOK_of c fun b hb T hl => ?_
  have e : loopsF fn = loopsIn c := by simp [loopsF, hc]
  rw [← e] at hb
  match hf : loopsF fn, hlen with
  | [d], _ =>
    rw [hf] at hb
    have hbd : b = d := by simpa using hb
    have ht : theLoop fn 0 = d := by simp [theLoop, hf]
    subst hbd
    rw [ht] at hk h
    simp only [lookL, hk, Nat.beq_refl, Option.some.injEq] at hl
    subst hl
    exact h

/-- Some pieces of a table, each once. -/
def selC (ch : List Ch) (l : List Nat) : List Ch := l.map fun i => ch.getD i .dead
theorem HS.sel {X : Cx} {ch : List Ch} {w : World} (h : HS X ch w) (l : List Nat) (hl : l.Nodup) : HS X (selC ch l) w := by
  have get : ∀ (i : Nat) (c : Ch), (selC ch l)[i]? = some c → c = .dead ∨ ∃ j, l[i]? = some j ∧ ch[j]? = some c := fun i c hc => by
    simp only [selC, List.getElem?_map] at hc
    cases hi : l[i]? with
    | none => simp [hi] at hc
    | some j =>
      simp only [hi, Option.map_some, Option.some.injEq, List.getD_eq_getElem?_getD] at hc
      cases hj : ch[j]? with
      | none => simp [hj] at hc; exact .inl hc.symm
      | some d => simp [hj] at hc; subst hc; exact .inr ⟨j, rfl, hj⟩
  refine ⟨h.fr, fun i c hc => ?_, fun i j ci cj b hij hi hj ho hai haj => ?_, fun i c b hc ho ha => ?_⟩
  · rcases get i c hc with rfl | ⟨j, _, hj⟩
    · trivial
    · exact h.sat j c hj
  · rcases get i ci hi with rfl | ⟨i', hi1, hi2⟩
    · exact hai.elim
    · rcases get j cj hj with rfl | ⟨j', hj1, hj2⟩
      · exact haj.elim
      · refine h.dis i' j' ci cj b (fun e => hij ?_) hi2 hj2 ho hai haj
        subst e
        obtain ⟨h1, h2⟩ := List.getElem?_eq_some_iff.1 hi1
        obtain ⟨h3, h4⟩ := List.getElem?_eq_some_iff.1 hj1
        have hp := List.pairwise_iff_getElem.1 hl
        rcases Nat.lt_trichotomy i j with hlt | heq | hgt
        · exact absurd (h2.trans h4.symm) (hp i j h1 h3 hlt)
        · exact heq
        · exact absurd (h4.trans h2.symm) (hp j i h3 h1 hgt)
  · rcases get i c hc with rfl | ⟨j, _, hj⟩
    · exact ha.elim
    · exact h.new j c b hj ho ha

/-- New pieces of a callee join the caller's table. -/
theorem HS.join {X : Cx} {ch new : List Ch} {w w' : World} (h : HS X ch w) (h' : HS ⟨w, fun _ => False⟩ new w') (hall : ∀ c ∈ new, c.own = true ∨ c = .dead) : HS X (ch ++ new) w' := by
  have hb : Below w.heap.size w w' := h'.below
  have hk := h.keep hb
  have lt : ∀ (i : Nat) (c : Ch) (b : Nat), ch[i]? = some c → c.at b → b < w.heap.size := fun i c b hc ha => Ch.sat_lt (h.sat i c hc) ha
  have ge : ∀ (i : Nat) (c : Ch) (b : Nat), new[i]? = some c → c.at b → w.heap.size ≤ b := fun i c b hc ha => by
    rcases hall c (List.mem_of_getElem? hc) with ho | rfl
    · rcases h'.new i c b hc ho ha with h1 | h1
      · exact h1
      · exact h1.elim
    · exact ha.elim
  have get : ∀ (i : Nat) (c : Ch), (ch ++ new)[i]? = some c → ch[i]? = some c ∨ (ch.length ≤ i ∧ new[i - ch.length]? = some c) := fun i c hc => by
    rw [List.getElem?_append] at hc
    split at hc
    · exact .inl hc
    · exact .inr ⟨by omega, hc⟩
  refine ⟨hk.fr, fun i c hc => ?_, fun i j ci cj b hij hi hj ho hai haj => ?_, fun i c b hc ho ha => ?_⟩
  · rcases get i c hc with hc | ⟨_, hc⟩
    · exact hk.sat i c hc
    · exact h'.sat _ c hc
  · rcases get i ci hi with hi | ⟨hi0, hi⟩
    · rcases get j cj hj with hj | ⟨_, hj⟩
      · exact h.dis i j ci cj b hij hi hj ho hai haj
      · have := lt i ci b hi hai
        have := ge _ cj b hj haj
        omega
    · rcases get j cj hj with hj | ⟨hj0, hj⟩
      · have := lt j cj b hj haj
        have := ge _ ci b hi hai
        omega
      · exact h'.dis _ _ ci cj b (by omega) hi hj ho hai haj
  · rcases get i c hc with hc | ⟨_, hc⟩
    · exact h.new i c b hc ho ha
    · exact .inl (Nat.le_trans h.fr.size (ge _ c b hc ha))

/-- All pieces are the call's own, or forgotten. -/
def ownAll (new : List Ch) : Bool := new.all fun c => match c with | .dead => true | c => c.own
theorem ownAll_ok {new : List Ch} (h : ownAll new = true) : ∀ c ∈ new, c.own = true ∨ c = .dead := fun c hc => by
  have := List.all_eq_true.1 h c hc
  cases c with
  | dead => exact .inr rfl
  | cells b t cs => exact .inl rfl
  | row r => exact .inl this
  | obj o rs => exact .inl this
  | whole b t g z x => exact .inl rfl

/-- A summary of a function that makes memory and hands it back. -/
theorem smN {P : Program} {f : FuncId} (hc : ∀ args w, (callFunc f args).run P w = .ok (.enter f args) w) {S : Sm}
    (h : ∀ (args : List SV) (ch : List Ch) (k : EK) (w : World) (X : Cx), S args ch k → HS X ch w → Calls P f (args.map SV.den).toArray w fun e w' => ∃ v new, e = .returned v.den ∧ HS ⟨w, fun _ => False⟩ new w' ∧ ownAll new = true ∧ k v (ch ++ new) []) : SmOK P f S :=
  ⟨hc, fun X args ch k w hS hs => Calls.mono (h args ch k w X hS hs) fun _ _ ⟨v, _, he, hn, ho, hk⟩ => ⟨v, _, [], he, hs.join hn (ownAll_ok ho), Agree.app _ _, hk⟩⟩

/-- A callee has turned some of the caller's own pieces, and made others. -/
theorem HS.swap {X : Cx} {ch : List Ch} {w w' : World} (h : HS X ch w) {M : Nat → Prop} {ids : List Nat} {ch' : List Ch} (h' : HS ⟨w, M⟩ ch' w')
    (hM : ∀ b, M b → ∃ i ∈ ids, ∃ c, ch[i]? = some c ∧ c.own = true ∧ c.at b) {out : List Ch} (hlen : out.length = ch.length)
    (hout : ∀ (i : Nat) (d : Ch), out[i]? = some d → (i ∉ ids ∧ ch[i]? = some d) ∨ (i ∈ ids ∧ Ch.sat w' d ∧ ∃ c, ch[i]? = some c ∧ c.own = true ∧ ∀ b, d.at b → c.at b)) : HS X out w' := by
  have keep : ∀ (i : Nat) (c : Ch), i ∉ ids → ch[i]? = some c → ∀ b, c.at b → w'.heap[b]? = w.heap[b]? := fun i c hi hc b ha =>
    h'.fr.block b (Ch.sat_lt (h.sat i c hc) ha) fun hm => by
      obtain ⟨j, hj, d, hd, hod, had⟩ := hM b hm
      exact h.dis j i d c b (fun e => hi (e ▸ hj)) hd hc hod had ha
  have old : ∀ (i : Nat) (d : Ch), out[i]? = some d → ∃ c, ch[i]? = some c ∧ (d.own = true → c.own = true) ∧ ∀ b, d.at b → c.at b := fun i d hd => by
    rcases hout i d hd with ⟨_, h1⟩ | ⟨_, _, c, h1, h2, h3⟩
    · exact ⟨d, h1, fun e => e, fun _ e => e⟩
    · exact ⟨c, h1, fun _ => h2, h3⟩
  refine ⟨⟨h'.fr.os.trans h.fr.os, h'.fr.tape.trans h.fr.tape, h'.fr.output.trans h.fr.output, Nat.le_trans h.fr.size h'.fr.size, fun k hk hkM => ?_⟩, fun i d hd => ?_, fun i j ci cj b hij hi hj ho hai haj => ?_, fun i c b hc ho ha => ?_⟩
  · refine (h'.fr.block k (Nat.lt_of_lt_of_le hk h.fr.size) fun hm => ?_).trans (h.fr.block k hk hkM)
    obtain ⟨j, _, c, hc, hoc, hac⟩ := hM k hm
    rcases h.new j c k hc hoc hac with h1 | h1
    · omega
    · exact hkM h1
  · rcases hout i d hd with ⟨hi, h1⟩ | ⟨_, h1, _⟩
    · exact Ch.sat_keep (h.sat i d h1) h'.fr.size (keep i d hi h1)
    · exact h1
  · obtain ⟨c1, h1, h2, h3⟩ := old i ci hi
    obtain ⟨c2, h4, h5, h6⟩ := old j cj hj
    exact h.dis i j c1 c2 b hij h1 h4 (h2 ho) (h3 b hai) (h6 b haj)
  · obtain ⟨c1, h1, h2, h3⟩ := old i c hc
    exact h.new i c1 b h1 (h2 ho) (h3 b ha)
/-- .. one of them. -/
theorem HS.swap1 {X : Cx} {ch : List Ch} {w w' : World} (h : HS X ch w) {id : Nat} {c d : Ch} (hid : ch[id]? = some c) (ho : c.own = true) (h' : HS ⟨w, c.at⟩ [d] w') (hd : ∀ b, d.at b → c.at b) : HS X (ch.set id d) w' := by
  refine h.swap (ids := [id]) h' (fun b hb => ⟨id, by simp, c, hid, ho, hb⟩) (by simp) fun i e he => ?_
  rcases get_set he with ⟨rfl, rfl, _⟩ | ⟨hne, he⟩
  · exact .inr ⟨by simp, h'.sat 0 _ rfl, c, hid, ho, hd⟩
  · exact .inl ⟨by simp [hne], he⟩
/-- .. two of them. -/
theorem HS.swap2 {X : Cx} {ch : List Ch} {w w' : World} (h : HS X ch w) {i1 i2 : Nat} {c1 c2 d1 d2 : Ch} (h1 : ch[i1]? = some c1) (h2 : ch[i2]? = some c2) (hne : i1 ≠ i2) (o1 : c1.own = true) (o2 : c2.own = true) {ch' : List Ch}
    (h' : HS ⟨w, fun b => c1.at b ∨ c2.at b⟩ ch' w') (s1 : Ch.sat w' d1) (s2 : Ch.sat w' d2) (hd1 : ∀ b, d1.at b → c1.at b) (hd2 : ∀ b, d2.at b → c2.at b) : HS X ((ch.set i1 d1).set i2 d2) w' := by
  refine h.swap (ids := [i1, i2]) h' (fun b hb => ?_) (by simp) fun i e he => ?_
  · rcases hb with hb | hb
    · exact ⟨i1, by simp, c1, h1, o1, hb⟩
    · exact ⟨i2, by simp, c2, h2, o2, hb⟩
  · rcases get_set he with ⟨rfl, rfl, _⟩ | ⟨hn2, he⟩
    · exact .inr ⟨by simp, s2, c2, h2, o2, hd2⟩
    · rcases get_set he with ⟨rfl, rfl, _⟩ | ⟨hn1, he⟩
      · exact .inr ⟨by simp, s1, c1, h1, o1, hd1⟩
      · exact .inl ⟨by simp [hn1, hn2], he⟩
/-- A table of own rows that stand apart. -/
theorem HS.owns {w : World} {X : Cx} {ch : List Ch} (h : HS X ch w) (l : List Nat) (hl : l.Nodup) (M : Nat → Prop) (hM : ∀ (i : Nat) (c : Ch) (b : Nat), (selC ch l)[i]? = some c → c.own = true → c.at b → M b) : HS ⟨w, M⟩ (selC ch l) w := by
  have := h.sel l hl
  exact ⟨⟨rfl, rfl, rfl, Nat.le_refl _, fun _ _ _ => rfl⟩, this.sat, this.dis, fun i c b hc ho ha => .inr (hM i c b hc ho ha)⟩

/-- A callee walked in place. -/
def inlM (P : Program) (E : Env) (n : Nat) (fn : Func) : Sm := fun args ch k => exFn P E n fn args ch fun v ch' => k v ch' (List.range ch.length)
theorem inlM_ok {P : Program} (hm : P.follows .mixedOrders = true) {E : Env} (hb : TbOK P E.tb) {n : Nat} {f : FuncId} {fn : Func} (hf : P.funcs[f]? = some fn) (hc : ∀ args w, (callFunc f args).run P w = .ok (.enter f args) w)
    (hL : ∀ X c, fn.body = some c → LoopsOK P X E.L c) : SmOK P f (inlM P E n fn) :=
  ⟨hc, fun X args ch k w hS hs => fn_ok hm hb hf (hL X) hS hs fun v ch' w' hk hs' => ⟨v, ch', _, rfl, hs', fun i c hi hn => absurd (List.mem_range.2 (List.getElem?_eq_some_iff.1 hi).1) hn, hk⟩⟩

/-- The pieces that a value's slices name. -/
def idsC : SC → List Nat
  | .sl id _ _ _ => [id]
  | .slc id _ _ _ => [id]
  | _ => []
def idsL : List SC → List Nat
  | [] => []
  | x :: r => idsC x ++ idsL r
def idsA : SA → List Nat
  | .c x => idsC x
  | .agg xs => idsL xs
def idsT : List SA → List Nat
  | [] => []
  | x :: r => idsA x ++ idsT r
def idsOf : SV → List Nat
  | .a x => idsA x
  | .tup xs => idsT xs
  | .undef => []
def memB (n : Nat) : List Nat → Bool
  | [] => false
  | m :: r => Nat.beq n m || memB n r
def nodupB : List Nat → Bool
  | [] => true
  | n :: r => !memB n r && nodupB r
theorem memB_ok {n : Nat} {l : List Nat} (h : memB n l = false) : n ∉ l := by
  induction l with
  | nil => simp
  | cons m r ih =>
    simp only [memB, Bool.or_eq_false_iff] at h
    intro hm
    rcases List.mem_cons.1 hm with rfl | hm
    · rw [Nat.beq_refl] at h; cases h.1
    · exact ih h.2 hm
theorem nodupB_ok {l : List Nat} (h : nodupB l = true) : l.Nodup := by
  induction l with
  | nil => exact List.nodup_nil
  | cons n r ih =>
    simp only [nodupB, Bool.and_eq_true, Bool.not_eq_true'] at h
    exact List.nodup_cons.2 ⟨memB_ok h.1, ih h.2⟩
/-- The value, and the pieces that its slices name, one behind the other. -/
def OutIs (v : SV) (ch : List Ch) (V : Value) (rows : List Ch) : Prop := v.den = V ∧ selC ch (idsOf v) = rows ∧ nodupB (idsOf v) = true
theorem OutIs.hs {v : SV} {ch : List Ch} {V : Value} {rows : List Ch} (h : OutIs v ch V rows) {X : Cx} {w : World} (hs : HS X ch w) : HS X rows w := by
  have := hs.sel _ (nodupB_ok h.2.2)
  rwa [h.2.1] at this

theorem Agree.sets {ch : List Ch} {id : Nat} {c : Ch} : Agree ch (ch.set id c) [id] := Agree.set ch id c
end Go.Proofs.Ytmgjmglmjfjliab

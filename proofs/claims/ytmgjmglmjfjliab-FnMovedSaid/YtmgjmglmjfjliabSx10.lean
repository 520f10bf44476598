/-
  A walk by symbols, part 10: regions, in order and drawn.
-/
import Derived.Test.YtmgjmglmjfjliabSx9
namespace Go.Proofs.Ytmgjmglmjfjliab
set_option linter.unusedVariables false
set_option linter.unusedSimpArgs false
open Go.RowKit

def putT (ts : List SV) (d : Option Tmp) (v : SV) : List SV :=
  match d with
  | some d => ts.set d v
  | none => ts
theorem Ts.put {ts : List SV} {a : Act} (h : Ts ts a) (d : Option Tmp) (v : SV) : Ts (putT ts d v) (a.put d v.den) := by
  cases d with
  | none => exact h
  | some d =>
    show (a.tmps.setIfInBounds d v.den) = ((ts.set d v).map SV.den).toArray
    rw [show a.tmps = _ from h]
    simp [List.map_set]
theorem put_defers {a : Act} (h : a.defers = []) (d : Option Tmp) (v : Value) : (a.put d v).defers = [] := by
  cases d <;> exact h

/-- A slot that holds a known Bool. -/
def litT (ts : List SV) (d : Nat) (b : Bool) : List SV := ts.set d (.a (.c (.lit b)))
theorem Ts.lit {ts : List SV} {a : Act} (h : Ts ts a) {d : Nat} {b : Bool} (hd : ts[d]? = some (.a (.c (.bool b)))) : Ts (litT ts d b) a := by
  show a.tmps = _
  rw [show a.tmps = _ from h]
  congr 1
  apply List.ext_getElem?
  intro i
  simp only [litT, List.getElem?_map, List.getElem?_set]
  split
  · rename_i e
    subst e
    split <;> first | (rw [hd]; rfl) | (rw [List.getElem?_eq_none (by omega)]; done) | (rw [List.getElem?_eq_none (by omega)]; rfl)
  · rfl

inductive Gd where
  | run
  | skip
  | ask (d : Nat) (b want : Bool)
  | bad
def same : Bool → Bool → Gd
  | true, true => .run
  | false, false => .run
  | _, _ => .skip
def guardOf (all : List Oper) (ts : List SV) : Option (Nat × Bool) → Gd
  | none => .run
  | some (j, want) =>
    match all[j]? with
    | some oj =>
      match oj.dst with
      | some d =>
        match ts[d]? with
        | some (.a (.c (.lit b))) => same b want
        | some (.a (.c (.bool b))) => .ask d b want
        | some (.a (.c (.val _))) => .bad
        | some (.a (.c (.obj _ _))) => .bad
        | _ => .skip
      | none => .skip
    | none => .skip

theorem yielded_eq {all : List Oper} {ts : List SV} {a : Act} (h : Ts ts a) {j d : Nat} {oj : Oper} (hj : all[j]? = some oj) (hd : oj.dst = some d) :
    yielded all.toArray a.tmps j = match (ts[d]?).map SV.den with | some (.bool b) => some b | _ => none := by
  unfold yielded
  rw [show a.tmps = _ from h]
  simp only [List.getElem?_toArray, hj, Option.bind_some, hd, List.getElem?_map]
  cases Option.map SV.den ts[d]? with
  | none => rfl
  | some v => cases v <;> rfl

theorem guard_run {all : List Oper} {ts : List SV} {a : Act} (h : Ts ts a) {o : Oper} (hg : guardOf all ts o.guard = .run) : Region.wanted o (yielded all.toArray a.tmps) = true := by
  unfold Region.wanted
  unfold guardOf at hg
  split at hg
  · rename_i e; rw [e]
  · rename_i j want e
    rw [e]
    simp only
    split at hg
    · rename_i oj hj
      split at hg
      · rename_i d hd
        rw [yielded_eq h hj hd]
        split at hg
        · rename_i b hb
          rw [hb]
          cases b <;> cases want <;> first | rfl | cases hg
        · cases hg
        · cases hg
        · cases hg
        · cases hg
      · cases hg
    · cases hg
theorem guard_skip {all : List Oper} {ts : List SV} {a : Act} (h : Ts ts a) {o : Oper} (hg : guardOf all ts o.guard = .skip) : Region.wanted o (yielded all.toArray a.tmps) = false := by
  unfold Region.wanted
  unfold guardOf at hg
  split at hg
  · cases hg
  · rename_i j want e
    rw [e]
    simp only
    split at hg
    · rename_i oj hj
      split at hg
      · rename_i d hd
        rw [yielded_eq h hj hd]
        split at hg
        · rename_i b hb
          rw [hb]
          cases b <;> cases want <;> first | rfl | cases hg
        · cases hg
        · cases hg
        · cases hg
        · rename_i h1 h2 h3 h4
          cases hs : ts[d]? with
          | none => rfl
          | some v =>
            simp only [Option.map_some]
            cases v with
            | a x =>
              cases x with
              | c y => cases y <;> first | rfl | exact absurd hs (h1 _) | exact absurd hs (h2 _) | exact absurd hs (h3 _) | exact absurd hs (h4 _ _)
              | agg xs => rfl
            | tup vs => rfl
            | undef => rfl
      · rename_i hd
        simp [yielded, hj, hd]
    · rename_i hj
      simp [yielded, hj]
theorem guard_ask {all : List Oper} {ts : List SV} {a : Act} (h : Ts ts a) {o : Oper} {d : Nat} {b want : Bool} (hg : guardOf all ts o.guard = .ask d b want) :
    ts[d]? = some (.a (.c (.bool b))) ∧ Region.wanted o (yielded all.toArray a.tmps) = (b == want) := by
  unfold Region.wanted
  unfold guardOf at hg
  split at hg
  · cases hg
  · rename_i j want' e
    rw [e]
    simp only
    split at hg
    · rename_i oj hj
      split at hg
      · rename_i d' hd
        rw [yielded_eq h hj hd]
        split at hg
        · rename_i b' hb
          cases b' <;> cases want' <;> cases hg
        · rename_i b' hb
          injection hg with h1 h2 h3
          subst h1
          subst h2
          subst h3
          refine ⟨hb, ?_⟩
          rw [hb]
          cases b' <;> cases want' <;> rfl
        · cases hg
        · cases hg
        · cases hg
      · cases hg
    · cases hg

def isCalm : Op → Bool
  | .alloc _ => false
  | .box _ _ => false
  | .store _ _ _ => false
  | .makeSlice _ _ _ => false
  | .buildSlice _ _ _ => false
  | .slice _ _ _ _ _ => false
  | .call c => match c.callee with | .builtin .len => true | .builtin .min => true | _ => false
  | _ => true

def exOne (P : Program) (tb : List (FuncId × Sm)) (o : Oper) (ts : List SV) (ch : List Ch) (k : EK) : Prop :=
  match isCalm o.op with
  | true => exCalm P o.op ts ch fun v => k v ch []
  | false => exEff P tb o.op ts ch k
theorem one_ok {P : Program} {X : Cx} {tb : List (FuncId × Sm)} (hb : TbOK P tb) {o : Oper} {ts : List SV} {ch : List Ch} {k : EK} (h : exOne P tb o ts ch k) {a : Act} (hT : Ts ts a) {w : World} (hs : HS X ch w) : EffOk P X o a ch w k := by
  unfold exOne at h
  split at h
  · obtain ⟨v, h, hv⟩ := calm_ok h
    exact .inl ⟨v, ch, [], w, hv a hT w hs.all, hs, Agree.refl _, h⟩
  · exact eff_ok hb h hT hs

/-- A region in the order of the text. -/
def exOps (P : Program) (tb : List (FuncId × Sm)) (all : List Oper) : List Oper → List SV → List Ch → (List SV → List Ch → Prop) → Prop
  | [], ts, ch, k => k ts ch
  | o :: rest, ts, ch, k =>
    match guardOf all ts o.guard with
    | .run => exOne P tb o ts ch fun v ch' _ => exOps P tb all rest (putT ts o.dst v) ch' k
    | .skip => exOps P tb all rest (putT ts o.dst .undef) ch k
    | .ask d b want =>
      (b = want → exOne P tb o (litT ts d want) ch fun v ch' _ => exOps P tb all rest (putT (litT ts d want) o.dst v) ch' k) ∧
      (b = !want → exOps P tb all rest (putT (litT ts d (!want)) o.dst .undef) ch k)
    | .bad => False

theorem ops_ok {P : Program} {X : Cx} {tb : List (FuncId × Sm)} (hb : TbOK P tb) {all : List Oper} {Q : Exit → Act → World → Prop} : ∀ (l : List Oper) (ts : List SV) (ch : List Ch) (k : List SV → List Ch → Prop) (a : Act) (w : World),
    exOps P tb all l ts ch k → Ts ts a → a.defers = [] → HS X ch w →
    (∀ ts' ch' a' w', k ts' ch' → Ts ts' a' → a'.defers = [] → HS X ch' w' → Q .normal a' w') → wpList P all.toArray Q l a w := by
  intro l
  induction l with
  | nil => intro ts ch k a w h hT hd hs hq; exact hq ts ch a w h hT hd hs
  | cons o rest ih =>
    intro ts ch k a w h hT hd hs hq
    have one : ∀ {ts'}, Ts ts' a → exOne P tb o ts' ch (fun v ch' _ => exOps P tb all rest (putT ts' o.dst v) ch' k) → o.wp P a w (wpList P all.toArray Q rest) Q := fun hT' h' =>
      (one_ok hb h' hT' hs).wp fun v ch' _ w' hs' _ h2 => ih _ ch' k _ w' h2 (hT'.put _ _) (put_defers hd _ _) hs' hq
    simp only [exOps] at h
    unfold wpList
    split at h
    · rename_i hg
      rw [if_pos (guard_run hT hg)]
      exact .inl (one hT h)
    · rename_i hg
      rw [if_neg (by rw [guard_skip hT hg]; exact Bool.false_ne_true)]
      exact ih _ ch k _ w h (hT.put _ .undef) (put_defers hd _ _) hs hq
    · rename_i d b want hg
      obtain ⟨h1, h2⟩ := guard_ask hT hg
      by_cases e : b = want
      · subst e
        rw [if_pos (by rw [h2]; simp)]
        exact .inl (one (hT.lit h1) (h.1 rfl))
      · have e' : b = !want := by cases b <;> cases want <;> simp_all
        subst e'
        rw [if_neg (by rw [h2]; cases want <;> simp)]
        exact ih _ ch k _ w (h.2 rfl) ((hT.lit h1).put _ .undef) (put_defers hd _ _) hs hq
    · exact h.elim

/-! drawn regions -/
def readyL (all : List Oper) (listed : List Bool) : List Nat :=
  (List.range all.length).filter fun i => !listed.getD i true && match all[i]? with
    | some o => o.after.toList.all fun e => !Region.binds .any e || listed.getD e.on false
    | none => false
theorem readyL_eq (all : List Oper) (listed : List Bool) : Region.ready .any all.toArray listed.toArray = readyL all listed := by
  unfold Region.ready readyL
  simp only [List.size_toArray, List.getElem?_toArray, Array.getD_eq_getD_getElem?, List.getD_eq_getElem?_getD, Array.all_toList]
  congr 1
  funext i
  cases all[i]? <;> rfl
def freeL (all : List Oper) (listed : List Bool) (i : Nat) : Bool :=
  match all[i]? with
  | none => false
  | some oi => (List.range all.length).all fun j => Nat.beq j i || listed.getD j true || match all[j]? with
    | some oj => oj.after.toList.any (fun e => Region.binds .any e && Nat.beq e.on i) || oi.apart all.toArray oj
    | none => true
theorem freeL_eq (all : List Oper) (listed : List Bool) (i : Nat) : Region.free .any all.toArray listed.toArray i = freeL all listed i := by
  unfold Region.free freeL
  simp only [List.size_toArray, List.getElem?_toArray, Array.getD_eq_getD_getElem?, List.getD_eq_getElem?_getD, Array.any_toList]
  have hb : ∀ m n : Nat, Nat.beq m n = (m == n) := fun m n => by rw [Bool.eq_iff_iff, Nat.beq_eq]; simp
  simp only [hb]
  cases all[i]? <;> rfl
def noSelL (all : List Oper) : Bool := all.all fun o => match o.op with | .select .. => false | _ => true
theorem noSelL_eq (all : List Oper) : Region.noSelect all.toArray = noSelL all := by
  unfold Region.noSelect noSelL
  simp only [List.all_toArray]
  congr 1

def maskFrom (D : List Nat) : Nat → List Ch → List Ch
  | _, [] => []
  | i, c :: r => (match D.any (Nat.beq i) with | true => .dead | false => c) :: maskFrom D (i + 1) r
def mask (D : List Nat) (ch : List Ch) : List Ch :=
  match D with
  | [] => ch
  | D => maskFrom D 0 ch
theorem maskFrom_len (D : List Nat) : ∀ (ch : List Ch) (i : Nat), (maskFrom D i ch).length = ch.length := by
  intro ch
  induction ch with
  | nil => intro i; rfl
  | cons c r ih => intro i; simp [maskFrom, ih]
theorem maskFrom_get (D : List Nat) : ∀ (ch : List Ch) (i j : Nat) (c : Ch), (maskFrom D i ch)[j]? = some c → c = .dead ∨ (ch[j]? = some c ∧ D.any (Nat.beq (i + j)) = false) := by
  intro ch
  induction ch with
  | nil => intro i j c h; simp [maskFrom] at h
  | cons d r ih =>
    intro i j c h
    cases j with
    | zero =>
      simp only [maskFrom, List.getElem?_cons_zero, Option.some.injEq] at h
      split at h
      · exact .inl h.symm
      · rename_i hf; exact .inr ⟨by simp [h], hf⟩
    | succ j =>
      simp only [maskFrom, List.getElem?_cons_succ] at h
      rcases ih (i + 1) j c h with h | ⟨h1, h2⟩
      · exact .inl h
      · exact .inr ⟨by simpa using h1, by rw [show i + (j + 1) = i + 1 + j by omega]; exact h2⟩
theorem mask_get {D : List Nat} {ch : List Ch} {j : Nat} {c : Ch} (h : (mask D ch)[j]? = some c) : c = .dead ∨ (ch[j]? = some c ∧ D.any (Nat.beq j) = false) := by
  unfold mask at h
  split at h
  · exact .inr ⟨h, rfl⟩
  · have := maskFrom_get D ch 0 j c h
    rwa [Nat.zero_add] at this
theorem mask_len (D : List Nat) (ch : List Ch) : (mask D ch).length = ch.length := by
  unfold mask
  split
  · rfl
  · exact maskFrom_len _ _ _

/-- What the drawn region leans on is still so. -/
def Leans (ch0 ch : List Ch) (D : List Nat) : Prop := ∀ (i : Nat) (c : Ch), ch0[i]? = some c → c = .dead ∨ (ch[i]? = some c ∧ D.any (Nat.beq i) = false)
theorem Leans.sat {ch0 ch : List Ch} {D : List Nat} (h : Leans ch0 ch D) {X : Cx} {w : World} (hs : HS X ch w) : Sat ch0 w := fun i c hc => by
  rcases h i c hc with rfl | ⟨h1, _⟩
  · trivial
  · exact hs.sat i c h1
def modsOk (D : List Nat) (n0 : Nat) (mods : List Nat) : Bool := mods.all fun m => D.any (Nat.beq m) || Nat.ble n0 m
/-- .. or, if that is not known by number: what the region leans on stands there still. -/
def okMods (D : List Nat) (ch0 ch' : List Ch) (mods : List Nat) : Prop :=
  match modsOk D ch0.length mods with
  | true => True
  | false => mask D (ch'.take ch0.length) = ch0
theorem Leans.step {ch0 ch ch' : List Ch} {D mods : List Nat} (h : Leans ch0 ch D) (ha : Agree ch ch' mods) (hm : modsOk D ch0.length mods = true) : Leans ch0 ch' D := fun i c hc => by
  rcases h i c hc with rfl | ⟨h1, h2⟩
  · exact .inl rfl
  · refine .inr ⟨ha i c h1 (fun hi => ?_), h2⟩
    have := List.all_eq_true.1 hm i hi
    rw [h2, Bool.false_or] at this
    have h3 := Nat.le_of_ble_eq_true this
    have h4 := (List.getElem?_eq_some_iff.1 hc).1
    omega

theorem Leans.next {ch0 ch ch' : List Ch} {D mods : List Nat} (h : Leans ch0 ch D) (ha : Agree ch ch' mods) (hm : okMods D ch0 ch' mods) : Leans ch0 ch' D := by
  unfold okMods at hm
  split at hm
  · rename_i e; exact h.step ha e
  · intro i c hc
    have hc' := hc
    rw [← hm] at hc'
    rcases mask_get hc' with h1 | ⟨h1, h2⟩
    · exact .inl h1
    · refine .inr ⟨?_, h2⟩
      have hi := (List.getElem?_eq_some_iff.1 hc).1
      rwa [List.getElem?_take_of_lt hi] at h1

def allOf (f : Nat → Prop) : List Nat → Prop
  | [] => True
  | [i] => f i
  | i :: r => f i ∧ allOf f r
theorem allOf_mem {f : Nat → Prop} : ∀ {l : List Nat}, allOf f l → ∀ i ∈ l, f i := by
  intro l
  induction l with
  | nil => intro _ i hi; cases hi
  | cons j r ih =>
    intro h i hi
    cases r with
    | nil => simp at hi; subst hi; exact h
    | cons k r =>
      rcases List.mem_cons.1 hi with rfl | hi
      · exact h.1
      · exact ih h.2 i hi

/-! A condition S on the world, held until an operation comes up that all loads are behind. -/
section
variable {P : Program} {ops : Array Oper} {Q : Exit → Act → World → Prop} {md : Region.Mode} {S : World → Prop} {N : Nat → Bool}
def wpAnyG (P : Program) (md : Region.Mode) (ops : Array Oper) (Q : Exit → Act → World → Prop) (S : World → Prop) (N : Nat → Bool) : Nat → Array Bool → Act → World → Prop
  | 0, listed, a, w => Region.ready md ops listed = [] ∧ Q .normal a w
  | fuel + 1, listed, a, w =>
    (Region.ready md ops listed = [] → Q .normal a w) ∧
    ∀ i ∈ Region.ready md ops listed, wpOp P ops Q i (fun a' w' => (N i = true ∧ wpAny P md ops Q fuel (listed.setIfInBounds i true) a' w') ∨ (S w' ∧ wpAnyG P md ops Q S N fuel (listed.setIfInBounds i true) a' w')) a w
theorem wpAny_of_G : ∀ (fuel : Nat) (listed : Array Bool) (a : Act) (w : World), wpAnyG P md ops Q S N fuel listed a w → wpAny P md ops Q fuel listed a w
  | 0, _, _, _, h => h
  | fuel + 1, _, _, _, h => ⟨h.1, fun i hi => wpOp_mono (fun a' w' h' => h'.elim (fun h'' => h''.2) fun h'' => wpAny_of_G fuel _ a' w' h''.2) (h.2 i hi)⟩
theorem wpAnyG_first {i : Nat} {oi : Oper} {v : Value} (hi : ops[i]? = some oi) (hsel : ∀ (j : Nat) (o : Oper) cs b, ops[j]? = some o → o.op ≠ .select cs b)
    (hQ : ∀ c a w, Q (.panic c) (a.put oi.dst v) w → Q (.panic c) a w)
    (hN : ∀ (j : Nat) (oj : Oper), ops[j]? = some oj → N j = true → j ≠ i → ∃ e ∈ oj.after, Region.binds md e = true ∧ e.on = i) :
    ∀ (fuel : Nat) (listed : Array Bool) (a : Act) (w : World),
      (∀ j oj, ops[j]? = some oj → j ≠ i → listed.getD j true = false → (∀ e ∈ oj.after, Region.binds md e = true → e.on ≠ i) → oi.apart ops oj = true) →
      i ∈ Region.ready md ops listed → YieldsIf P ops S oi v a → S w →
      wpAnyG P md ops Q S N fuel (listed.setIfInBounds i true) (a.put oi.dst v) w → wpAnyG P md ops Q S N (fuel + 1) listed a w := by
  intro fuel
  induction fuel with
  | zero =>
    intro listed a w _ hr hy hS H
    refine ⟨fun h => (by rw [h] at hr; cases hr), fun j hj => ?_⟩
    by_cases hji : j = i
    · subst hji; exact hy.wpOp hi hS (.inr ⟨hS, H⟩)
    · have := ready_mono hj hji
      rw [H.1] at this
      cases this
  | succ fuel ih =>
    intro listed a w hfree hr hy hS H
    refine ⟨fun h => (by rw [h] at hr; cases hr), fun j hj => ?_⟩
    by_cases hji : j = i
    · subst hji; exact hy.wpOp hi hS (.inr ⟨hS, H⟩)
    · have h1 := H.2 j (ready_mono hj hji)
      obtain ⟨hjun, oj, hoj, hall⟩ := mem_ready.1 hj
      have hnot : ∀ e ∈ oj.after, Region.binds md e = true → e.on ≠ i := fun e he hb heq => by
        have h1 := hall e he hb
        have h0 := (mem_ready.1 hr).1
        rw [heq] at h1
        rcases Nat.lt_or_ge i listed.size with h' | h'
        · simp [h'] at h0 h1; rw [h0] at h1; cases h1
        · simp [Array.getElem?_eq_none h'] at h1
      have h2 := wpOp_putIf hoj (hfree j oj hoj hji hjun hnot) (fun cs b => hsel i oi cs b hi) (fun cs b => hsel j oj cs b hoj) hQ hy h1
      have hfree' : ∀ k ok, ops[k]? = some ok → k ≠ i → (listed.setIfInBounds j true).getD k true = false →
          (∀ e ∈ ok.after, Region.binds md e = true → e.on ≠ i) → oi.apart ops ok = true := fun k ok hk hki hun hno => by
        refine hfree k ok hk hki ?_ hno
        by_cases hjk : j = k
        · subst hjk; exact hjun
        · rw [getD_set_ne true hjk] at hun; exact hun
      refine wpOp_mono (fun a' w' h3 => ?_) h2
      rcases h3.2 with ⟨hn, _⟩ | ⟨hS', h4⟩
      · obtain ⟨e, he, hb, heq⟩ := hN j oj hoj hn hji
        exact absurd heq (hnot e he hb)
      · refine .inr ⟨hS', ih (listed.setIfInBounds j true) a' w' hfree' (ready_mono hr (Ne.symm hji)) h3.1 hS' ?_⟩
        rw [Array.setIfInBounds_comm _ _ hji]
        exact h4
theorem wpAnyG_pure {i : Nat} {oi : Oper} {v : Value} (hi : ops[i]? = some oi) (hsel : ∀ (j : Nat) (o : Oper) cs b, ops[j]? = some o → o.op ≠ .select cs b)
    (hQ : ∀ c a w, Q (.panic c) (a.put oi.dst v) w → Q (.panic c) a w) :
    ∀ (fuel : Nat) (listed : Array Bool) (a : Act) (w : World),
      (∀ j oj, ops[j]? = some oj → j ≠ i → listed.getD j true = false → (∀ e ∈ oj.after, Region.binds md e = true → e.on ≠ i) → oi.apart ops oj = true) →
      i ∈ Region.ready md ops listed → Yields P ops oi v a → S w →
      wpAnyG P md ops Q S N fuel (listed.setIfInBounds i true) (a.put oi.dst v) w → wpAnyG P md ops Q S N (fuel + 1) listed a w := by
  intro fuel
  induction fuel with
  | zero =>
    intro listed a w _ hr hy hS H
    refine ⟨fun h => (by rw [h] at hr; cases hr), fun j hj => ?_⟩
    by_cases hji : j = i
    · subst hji; exact hy.wpOp hi (.inr ⟨hS, H⟩)
    · have := ready_mono hj hji
      rw [H.1] at this
      cases this
  | succ fuel ih =>
    intro listed a w hfree hr hy hS H
    refine ⟨fun h => (by rw [h] at hr; cases hr), fun j hj => ?_⟩
    by_cases hji : j = i
    · subst hji; exact hy.wpOp hi (.inr ⟨hS, H⟩)
    · have h1 := H.2 j (ready_mono hj hji)
      obtain ⟨hjun, oj, hoj, hall⟩ := mem_ready.1 hj
      have hnot : ∀ e ∈ oj.after, Region.binds md e = true → e.on ≠ i := fun e he hb heq => by
        have h1 := hall e he hb
        have h0 := (mem_ready.1 hr).1
        rw [heq] at h1
        rcases Nat.lt_or_ge i listed.size with h' | h'
        · simp [h'] at h0 h1; rw [h0] at h1; cases h1
        · simp [Array.getElem?_eq_none h'] at h1
      have h2 := wpOp_put hoj (hfree j oj hoj hji hjun hnot) (fun cs b => hsel i oi cs b hi) (fun cs b => hsel j oj cs b hoj) hQ hy h1
      have hfree' : ∀ k ok, ops[k]? = some ok → k ≠ i → (listed.setIfInBounds j true).getD k true = false →
          (∀ e ∈ ok.after, Region.binds md e = true → e.on ≠ i) → oi.apart ops ok = true := fun k ok hk hki hun hno => by
        refine hfree k ok hk hki ?_ hno
        by_cases hjk : j = k
        · subst hjk; exact hjun
        · rw [getD_set_ne true hjk] at hun; exact hun
      refine wpOp_mono (fun a' w' h3 => ?_) h2
      rcases h3.2 with ⟨hn, h4⟩ | ⟨hS', h4⟩
      · refine .inl ⟨hn, wpAny_first hi hsel hQ fuel _ a' w' hfree' (ready_mono hr (Ne.symm hji)) h3.1 ?_⟩
        rw [Array.setIfInBounds_comm _ _ hji]
        exact h4
      · refine .inr ⟨hS', ih (listed.setIfInBounds j true) a' w' hfree' (ready_mono hr (Ne.symm hji)) h3.1 hS' ?_⟩
        rw [Array.setIfInBounds_comm _ _ hji]
        exact h4
theorem wpAnyG_all {rs : List Nat} {fuel : Nat} {listed : Array Bool} {a : Act} {w : World} (hr : Region.ready md ops listed = rs) (hne : rs ≠ [])
    (h : ∀ i ∈ rs, wpOp P ops Q i (fun a' w' => (N i = true ∧ wpAny P md ops Q fuel (listed.setIfInBounds i true) a' w') ∨ (S w' ∧ wpAnyG P md ops Q S N fuel (listed.setIfInBounds i true) a' w')) a w) : wpAnyG P md ops Q S N (fuel + 1) listed a w :=
  ⟨fun h0 => absurd (hr ▸ h0) hne, hr ▸ h⟩
theorem wpAnyG_done {listed : Array Bool} {a : Act} {w : World} (hr : Region.ready md ops listed = []) (h : Q .normal a w) :
    ∀ fuel, wpAnyG P md ops Q S N fuel listed a w
  | 0 => ⟨hr, h⟩
  | _ + 1 => ⟨fun _ => h, by rw [hr]; simp⟩
end

/-- All loads of the region are behind it. -/
def waitsB (all : List Oper) (j : Nat) : Bool :=
  match all[j]? with
  | none => false
  | some oj => (List.range all.length).all fun i => Nat.beq i j || match all[i]? with
    | some oi => !isLoad oi.op || oj.after.toList.any (fun e => Region.binds .any e && Nat.beq e.on i)
    | none => true
theorem waitsB_ok {all : List Oper} {j i : Nat} {oi : Oper} (hi : all[i]? = some oi) (hl : isLoad oi.op = true) (j' : Nat) (oj : Oper) (hj : all.toArray[j']? = some oj) (h : waitsB all j' = true) (hne : j' ≠ i) :
    ∃ e ∈ oj.after, Region.binds .any e = true ∧ e.on = i := by
  simp only [List.getElem?_toArray] at hj
  unfold waitsB at h
  simp only [hj, List.all_eq_true, List.mem_range] at h
  have h1 := h i (List.getElem?_eq_some_iff.1 hi).1
  simp only [hi, hl, Bool.not_true, Bool.false_or, Bool.or_eq_true, Nat.beq_eq] at h1
  rcases h1 with h1 | h1
  · exact absurd h1.symm hne
  · obtain ⟨e, he, hb⟩ := List.any_eq_true.1 h1
    simp only [Bool.and_eq_true, Nat.beq_eq] at hb
    exact ⟨e, by simpa using he, hb.1, hb.2⟩
/-- What a calm operation may lean on. -/
def calmCh (c0 : Option (List Ch)) (ch : List Ch) (o : Op) : List Ch :=
  match isLoad o, c0 with
  | true, some c => c
  | _, _ => ch
def liveC (c : List Ch) (id : Nat) : Bool :=
  match c[id]? with
  | some .dead => false
  | some _ => true
  | none => false
/-- May it be taken first? -/
def mayLean (c0 : Option (List Ch)) (x : SV) : Bool :=
  match c0 with
  | none => false
  | some c =>
    match x with
    | .a (.c (.ptr id _ _)) => liveC c id
    | .a (.c (.rptr id _ _ _ _)) => liveC c id
    | .a (.c (.sl id _ _ _)) => liveC c id
    | .a (.c (.slc id _ _ _)) => liveC c id
    | _ => true
def mayPick (c0 : Option (List Ch)) (ts : List SV) (o : Op) : Bool :=
  match o with
  | .load _ x => mayLean c0 (ev ts x)
  | _ => true
def pickC (c0 : Option (List Ch)) (all : List Oper) (ts : List SV) (listed : List Bool) : List Nat → Option (Nat × Oper)
  | [] => none
  | i :: r =>
    match all[i]? with
    | some o =>
      match freeL all listed i, isCalm o.op, guardOf all ts o.guard with
      | true, _, .skip => some (i, o)
      | true, true, _ =>
        match mayPick c0 ts o.op with
        | true => some (i, o)
        | false => pickC c0 all ts listed r
      | _, _, _ => pickC c0 all ts listed r
    | none => pickC c0 all ts listed r
theorem pickC_load {all : List Oper} {ts : List SV} {listed : List Bool} {i : Nat} {o : Oper} : ∀ {rs : List Nat}, pickC none all ts listed rs = some (i, o) → guardOf all ts o.guard = .skip ∨ isLoad o.op = false := by
  intro rs
  induction rs with
  | nil => intro h; cases h
  | cons j r ih =>
    intro h
    simp only [pickC] at h
    split at h
    · rename_i o' ho
      split at h
      · rename_i hg
        injection h with h
        injection h with h1 h2
        subst h2
        exact .inl hg
      · split at h
        · rename_i hm
          injection h with h
          injection h with h1 h2
          subst h2
          refine .inr ?_
          unfold isLoad
          split
          · rename_i e
            rw [e] at hm
            simp [mayPick, mayLean] at hm
          · rfl
        · exact ih h
      · exact ih h
    · exact ih h
theorem pickC_ok {c0 : Option (List Ch)} {all : List Oper} {ts : List SV} {listed : List Bool} {i : Nat} {o : Oper} : ∀ {rs : List Nat}, pickC c0 all ts listed rs = some (i, o) → i ∈ rs ∧ all[i]? = some o ∧ freeL all listed i = true := by
  intro rs
  induction rs with
  | nil => intro h; cases h
  | cons j r ih =>
    intro h
    simp only [pickC] at h
    split at h
    · rename_i o' ho
      split at h
      · injection h with h
        injection h with h1 h2
        subst h1
        subst h2
        exact ⟨by simp, ho, by assumption⟩
      · split at h
        · injection h with h
          injection h with h1 h2
          subst h1
          subst h2
          exact ⟨by simp, ho, by assumption⟩
        · obtain ⟨h1, h2⟩ := ih h
          exact ⟨by simp [h1], h2⟩
      · obtain ⟨h1, h2⟩ := ih h
        exact ⟨by simp [h1], h2⟩
    · obtain ⟨h1, h2⟩ := ih h
      exact ⟨by simp [h1], h2⟩
def nextC (all : List Oper) (i : Nat) (c0 : Option (List Ch)) : Option (List Ch) :=
  match waitsB all i with
  | true => none
  | false => c0
def keepC (D : List Nat) (c0 : Option (List Ch)) (ch' : List Ch) (mods : List Nat) : Prop :=
  match c0 with
  | none => True
  | some c => okMods D c ch' mods
def exDraw (P : Program) (tb : List (FuncId × Sm)) (all : List Oper) (D : List Nat) (c0 : Option (List Ch)) : Nat → List Bool → List SV → List Ch → (List SV → List Ch → Prop) → Prop
  | 0, listed, ts, ch, k => match readyL all listed with | [] => k ts ch | _ => False
  | n + 1, listed, ts, ch, k =>
    match readyL all listed with
    | [] => k ts ch
    | r :: rs =>
      match pickC c0 all ts listed (r :: rs) with
      | some (i, o) =>
        match guardOf all ts o.guard with
        | .run => exCalm P o.op ts (calmCh c0 ch o.op) fun v => exDraw P tb all D c0 n (listed.set i true) (putT ts o.dst v) ch k
        | .skip => exDraw P tb all D c0 n (listed.set i true) (putT ts o.dst .undef) ch k
        | .ask d b want =>
          (b = want → exCalm P o.op (litT ts d want) (calmCh c0 ch o.op) fun v => exDraw P tb all D c0 n (listed.set i true) (putT (litT ts d want) o.dst v) ch k) ∧
          (b = !want → exDraw P tb all D c0 n (listed.set i true) (putT (litT ts d (!want)) o.dst .undef) ch k)
        | .bad => False
      | none => allOf (fun i =>
          match all[i]? with
          | some o =>
            match guardOf all ts o.guard with
            | .run => exOne P tb o ts ch fun v ch' mods => keepC D (nextC all i c0) ch' mods ∧ exDraw P tb all D (nextC all i c0) n (listed.set i true) (putT ts o.dst v) ch' k
            | .skip => exDraw P tb all D c0 n (listed.set i true) (putT ts o.dst .undef) ch k
            | .ask d b want =>
              (b = want → exOne P tb o (litT ts d want) ch fun v ch' mods => keepC D (nextC all i c0) ch' mods ∧ exDraw P tb all D (nextC all i c0) n (listed.set i true) (putT (litT ts d want) o.dst v) ch' k) ∧
              (b = !want → exDraw P tb all D c0 n (listed.set i true) (putT (litT ts d (!want)) o.dst .undef) ch k)
            | .bad => False
          | none => False) (r :: rs)

theorem Ch.sat_nil (w : World) : Sat [] w := fun i c h => by simp at h
theorem drawN_ok {P : Program} {X : Cx} {tb : List (FuncId × Sm)} (hb : TbOK P tb) {all : List Oper} (hsel : noSelL all = true) {D : List Nat} {Q : Exit → Act → World → Prop} (hQ : ∀ c a w, Q (.panic c) a w → False) :
    ∀ (n : Nat) (listed : List Bool) (ts : List SV) (ch : List Ch) (k : List SV → List Ch → Prop) (a : Act) (w : World),
    exDraw P tb all D none n listed ts ch k → Ts ts a → a.defers = [] → HS X ch w →
    (∀ ts' ch' a' w', k ts' ch' → Ts ts' a' → a'.defers = [] → HS X ch' w' → Q .normal a' w') → wpAny P .any all.toArray Q n listed.toArray a w := by
  intro n
  induction n with
  | zero =>
    intro listed ts ch k a w h hT hd hs hq
    simp only [exDraw] at h
    split at h
    · rename_i hr
      exact wpAny_done (by rw [readyL_eq, hr]) (hq ts ch a w h hT hd hs) 0
    · exact h.elim
  | succ n ih =>
    intro listed ts ch k a w h hT hd hs hq
    simp only [exDraw] at h
    split at h
    · rename_i hr
      exact wpAny_done (by rw [readyL_eq, hr]) (hq ts ch a w h hT hd hs) (n + 1)
    · rename_i r rs hr
      have hset : ∀ i, (listed.set i true).toArray = listed.toArray.setIfInBounds i true := fun i => by simp
      split at h
      · rename_i i o hp
        obtain ⟨hmem, hi, hfree⟩ := pickC_ok hp
        have hcc : calmCh none ch o.op = ch := by unfold calmCh; split <;> simp_all
        have hnl := pickC_load hp
        simp only [hcc] at h
        have take : ∀ {v : Value}, Yields P all.toArray o v a → wpAny P .any all.toArray Q n (listed.toArray.setIfInBounds i true) (a.put o.dst v) w →
            wpAny P .any all.toArray Q (n + 1) listed.toArray a w := fun hy h' =>
          wpAny_take (by simpa using hi) (by rw [noSelL_eq]; exact hsel) (by rw [freeL_eq]; exact hfree) (by rw [readyL_eq, hr]; simpa using hmem) (fun c a' w' hq' => (hQ c _ w' hq').elim) hy h'
        split at h
        · rename_i hg
          obtain ⟨v, h, hv⟩ := calm_pure h (hnl.resolve_left (by rw [hg]; intro q; cases q))
          exact take (.inl ⟨guard_run hT hg, fun w' => hv a hT w hs.all w'⟩) (by rw [← hset]; exact ih _ _ ch k _ w h (hT.put _ _) (put_defers hd _ _) hs hq)
        · rename_i hg
          exact take (v := Go.undef) (.inr ⟨guard_skip hT hg, rfl⟩) (by rw [← hset]; exact ih _ _ ch k _ w h (hT.put _ .undef) (put_defers hd _ _) hs hq)
        · rename_i d b want hg
          obtain ⟨h1, h2⟩ := guard_ask hT hg
          by_cases e : b = want
          · subst e
            obtain ⟨v, h, hv⟩ := calm_pure (h.1 rfl) (hnl.resolve_left (by rw [hg]; intro q; cases q))
            exact take (.inl ⟨by rw [h2]; simp, fun w' => hv a (hT.lit h1) w hs.all w'⟩) (by rw [← hset]; exact ih _ _ ch k _ w h ((hT.lit h1).put _ _) (put_defers hd _ _) hs hq)
          · have e' : b = !want := by cases b <;> cases want <;> simp_all
            subst e'
            exact take (v := Go.undef) (.inr ⟨by rw [h2]; cases want <;> rfl, rfl⟩) (by rw [← hset]; exact ih _ _ ch k _ w (h.2 rfl) ((hT.lit h1).put _ .undef) (put_defers hd _ _) hs hq)
        · exact h.elim
      · refine wpAny_all (rs := r :: rs) (by rw [readyL_eq, hr]) (by simp) fun i hi => ?_
        have h' := allOf_mem h i hi
        unfold wpOp
        split at h'
        · rename_i o ho
          simp only [List.getElem?_toArray, ho]
          have hnx : nextC all i none = none := by unfold nextC; split <;> rfl
          have one : ∀ {ts'}, Ts ts' a → (exOne P tb o ts' ch fun v ch' mods => keepC D (nextC all i none) ch' mods ∧ exDraw P tb all D (nextC all i none) n (listed.set i true) (putT ts' o.dst v) ch' k) →
              o.wp P a w (wpAny P .any all.toArray Q n (listed.toArray.setIfInBounds i true)) Q := fun hT' h1 =>
            (one_ok hb h1 hT' hs).wp fun v ch' mods w' hs' hag ⟨hm, h2⟩ => by
              rw [hnx] at h2
              rw [← hset]
              exact ih _ _ ch' k _ w' h2 (hT'.put _ _) (put_defers hd _ _) hs' hq
          split at h'
          · rename_i hg
            rw [if_pos (guard_run hT hg)]
            exact .inl (one hT h')
          · rename_i hg
            rw [if_neg (by rw [guard_skip hT hg]; exact Bool.false_ne_true), ← hset]
            exact ih _ _ ch k _ w h' (hT.put _ .undef) (put_defers hd _ _) hs hq
          · rename_i d b want hg
            obtain ⟨h1, h2⟩ := guard_ask hT hg
            by_cases e : b = want
            · subst e
              rw [if_pos (by rw [h2]; simp)]
              exact .inl (one (hT.lit h1) (h'.1 rfl))
            · have e' : b = !want := by cases b <;> cases want <;> simp_all
              subst e'
              rw [if_neg (by rw [h2]; cases want <;> simp), ← hset]
              exact ih _ _ ch k _ w (h'.2 rfl) ((hT.lit h1).put _ .undef) (put_defers hd _ _) hs hq
          · exact h'.elim
        · exact h'.elim

theorem draw_ok {P : Program} {X : Cx} {tb : List (FuncId × Sm)} (hb : TbOK P tb) {all : List Oper} (hsel : noSelL all = true) {D : List Nat} {ch0 : List Ch} {Q : Exit → Act → World → Prop} (hQ : ∀ c a w, Q (.panic c) a w → False) :
    ∀ (n : Nat) (listed : List Bool) (ts : List SV) (ch : List Ch) (k : List SV → List Ch → Prop) (a : Act) (w : World),
    exDraw P tb all D (some ch0) n listed ts ch k → Ts ts a → a.defers = [] → HS X ch w → Leans ch0 ch D →
    (∀ ts' ch' a' w', k ts' ch' → Ts ts' a' → a'.defers = [] → HS X ch' w' → Q .normal a' w') → wpAnyG P .any all.toArray Q (Sat ch0) (waitsB all) n listed.toArray a w := by
  intro n
  induction n with
  | zero =>
    intro listed ts ch k a w h hT hd hs hl hq
    simp only [exDraw] at h
    split at h
    · rename_i hr
      exact wpAnyG_done (by rw [readyL_eq, hr]) (hq ts ch a w h hT hd hs) 0
    · exact h.elim
  | succ n ih =>
    intro listed ts ch k a w h hT hd hs hl hq
    simp only [exDraw] at h
    split at h
    · rename_i hr
      exact wpAnyG_done (by rw [readyL_eq, hr]) (hq ts ch a w h hT hd hs) (n + 1)
    · rename_i r rs hr
      have hset : ∀ i, (listed.set i true).toArray = listed.toArray.setIfInBounds i true := fun i => by simp
      split at h
      · rename_i i o hp
        obtain ⟨hmem, hi, hfree⟩ := pickC_ok hp
        have take : ∀ {v : Value}, ((Region.wanted o (yielded all.toArray a.tmps) = true ∧ (isLoad o.op = true → ∀ w', Sat ch0 w' → (execOp a.eval o).run P w' = .ok (.value v) w') ∧ (isLoad o.op = false → ∀ w', (execOp a.eval o).run P w' = .ok (.value v) w')) ∨ (Region.wanted o (yielded all.toArray a.tmps) = false ∧ v = Go.undef)) →
            wpAnyG P .any all.toArray Q (Sat ch0) (waitsB all) n (listed.toArray.setIfInBounds i true) (a.put o.dst v) w →
            wpAnyG P .any all.toArray Q (Sat ch0) (waitsB all) (n + 1) listed.toArray a w := fun {v} hy h' => by
          have hS := Region.noSelect_spec (show Region.noSelect all.toArray = true by rw [noSelL_eq]; exact hsel)
          have hF := Region.free_spec (md := .any) (by simpa using hi) (show Region.free .any all.toArray listed.toArray i = true by rw [freeL_eq]; exact hfree)
          have hR : i ∈ Region.ready .any all.toArray listed.toArray := by rw [readyL_eq, hr]; exact hmem
          cases hld : isLoad o.op with
          | true => exact wpAnyG_first (by simpa using hi) hS (fun c a' w' hq' => (hQ c _ w' hq').elim) (fun j oj hj hN hne => waitsB_ok (j := j) hi hld j oj hj hN hne) n _ a w hF hR (hy.imp (fun ⟨h1, h2, _⟩ => ⟨h1, h2 hld⟩) id) (hl.sat hs) h'
          | false => exact wpAnyG_pure (by simpa using hi) hS (fun c a' w' hq' => (hQ c _ w' hq').elim) n _ a w hF hR (hy.imp (fun ⟨h1, _, h2⟩ => ⟨h1, h2 hld⟩) id) (hl.sat hs) h'
        have calm : ∀ {ts'} {K : SV → Prop}, Ts ts' a → exCalm P o.op ts' (calmCh (some ch0) ch o.op) K → ∃ v, K v ∧ (isLoad o.op = true → ∀ w', Sat ch0 w' → (execOp a.eval o).run P w' = .ok (.value v.den) w') ∧ (isLoad o.op = false → ∀ w', (execOp a.eval o).run P w' = .ok (.value v.den) w') := fun {ts' K} hT' h => by
          cases hld : isLoad o.op with
          | true =>
            have e : calmCh (some ch0) ch o.op = ch0 := by unfold calmCh; rw [hld]
            rw [e] at h
            obtain ⟨v, h, hv⟩ := calm_ok h
            exact ⟨v, h, ⟨fun _ w' hw' => hv a hT' w' hw', fun q => (by cases q)⟩⟩
          | false =>
            have e : calmCh (some ch0) ch o.op = ch := by unfold calmCh; rw [hld]
            rw [e] at h
            obtain ⟨v, h, hv⟩ := calm_pure h hld
            exact ⟨v, h, ⟨fun q => (by cases q), fun _ w' => hv a hT' w hs.all w'⟩⟩
        split at h
        · rename_i hg
          obtain ⟨v, h, hv⟩ := calm hT h
          exact take (.inl ⟨guard_run hT hg, hv⟩) (by rw [← hset]; exact ih _ _ ch k _ w h (hT.put _ _) (put_defers hd _ _) hs hl hq)
        · rename_i hg
          exact take (v := Go.undef) (.inr ⟨guard_skip hT hg, rfl⟩) (by rw [← hset]; exact ih _ _ ch k _ w h (hT.put _ .undef) (put_defers hd _ _) hs hl hq)
        · rename_i d b want hg
          obtain ⟨h1, h2⟩ := guard_ask hT hg
          by_cases e : b = want
          · subst e
            obtain ⟨v, h, hv⟩ := calm (hT.lit h1) (h.1 rfl)
            exact take (.inl ⟨by rw [h2]; simp, hv⟩) (by rw [← hset]; exact ih _ _ ch k _ w h ((hT.lit h1).put _ _) (put_defers hd _ _) hs hl hq)
          · have e' : b = !want := by cases b <;> cases want <;> simp_all
            subst e'
            exact take (v := Go.undef) (.inr ⟨by rw [h2]; cases want <;> rfl, rfl⟩) (by rw [← hset]; exact ih _ _ ch k _ w (h.2 rfl) ((hT.lit h1).put _ .undef) (put_defers hd _ _) hs hl hq)
        · exact h.elim
      · refine wpAnyG_all (rs := r :: rs) (by rw [readyL_eq, hr]) (by simp) fun i hi => ?_
        have h' := allOf_mem h i hi
        unfold wpOp
        split at h'
        · rename_i o ho
          simp only [List.getElem?_toArray, ho]
          have one : ∀ {ts'}, Ts ts' a → (exOne P tb o ts' ch fun v ch' mods => keepC D (nextC all i (some ch0)) ch' mods ∧ exDraw P tb all D (nextC all i (some ch0)) n (listed.set i true) (putT ts' o.dst v) ch' k) →
              o.wp P a w (fun a' w' => (waitsB all i = true ∧ wpAny P .any all.toArray Q n (listed.toArray.setIfInBounds i true) a' w') ∨ (Sat ch0 w' ∧ wpAnyG P .any all.toArray Q (Sat ch0) (waitsB all) n (listed.toArray.setIfInBounds i true) a' w')) Q := fun hT' h1 =>
            (one_ok hb h1 hT' hs).wp fun v ch' mods w' hs' hag ⟨hm, h2⟩ => by
              rw [← hset]
              cases hwt : waitsB all i with
              | true =>
                have hnx : nextC all i (some ch0) = none := by unfold nextC; rw [hwt]
                rw [hnx] at h2
                exact .inl ⟨rfl, drawN_ok hb hsel hQ n _ _ ch' k _ w' h2 (hT'.put _ _) (put_defers hd _ _) hs' hq⟩
              | false =>
                have hnx : nextC all i (some ch0) = some ch0 := by unfold nextC; rw [hwt]
                rw [hnx] at h2 hm
                have hl' := hl.next hag hm
                exact .inr ⟨hl'.sat hs', ih _ _ ch' k _ w' h2 (hT'.put _ _) (put_defers hd _ _) hs' hl' hq⟩
          have same : ∀ {a'}, wpAnyG P .any all.toArray Q (Sat ch0) (waitsB all) n (listed.toArray.setIfInBounds i true) a' w →
              (waitsB all i = true ∧ wpAny P .any all.toArray Q n (listed.toArray.setIfInBounds i true) a' w) ∨ (Sat ch0 w ∧ wpAnyG P .any all.toArray Q (Sat ch0) (waitsB all) n (listed.toArray.setIfInBounds i true) a' w) := fun hh => .inr ⟨hl.sat hs, hh⟩
          split at h'
          · rename_i hg
            rw [if_pos (guard_run hT hg)]
            exact .inl (one hT h')
          · rename_i hg
            rw [if_neg (by rw [guard_skip hT hg]; exact Bool.false_ne_true)]
            exact same (by rw [← hset]; exact ih _ _ ch k _ w h' (hT.put _ .undef) (put_defers hd _ _) hs hl hq)
          · rename_i d b want hg
            obtain ⟨h1, h2⟩ := guard_ask hT hg
            by_cases e : b = want
            · subst e
              rw [if_pos (by rw [h2]; simp)]
              exact .inl (one (hT.lit h1) (h'.1 rfl))
            · have e' : b = !want := by cases b <;> cases want <;> simp_all
              subst e'
              rw [if_neg (by rw [h2]; cases want <;> simp)]
              exact same (by rw [← hset]; exact ih _ _ ch k _ w (h'.2 rfl) ((hT.lit h1).put _ .undef) (put_defers hd _ _) hs hl hq)
          · exact h'.elim
        · exact h'.elim
/-! A drawn region whose orders all come to the same table, numbers aside: the walk goes on from one of them. -/
def SC.ren (f : Nat → Nat) : SC → SC
  | .ptr id b off => .ptr (f id) b off
  | .rptr id ao s i c => .rptr (f id) ao s i c
  | .sl id ao n cap => .sl (f id) ao n cap
  | .slc id b n cap => .slc (f id) b n cap
  | .obj id v => .obj (f id) v
  | x => x
theorem SC.ren_den (f : Nat → Nat) (x : SC) : (x.ren f).den = x.den := by cases x <;> rfl
def SA.ren (f : Nat → Nat) : SA → SA
  | .c x => .c (x.ren f)
  | .agg xs => .agg (xs.map (SC.ren f))
theorem SC.ren_map (f : Nat → Nat) (xs : List SC) : (xs.map (SC.ren f)).map SC.den = xs.map SC.den := by
  simp [Function.comp_def, SC.ren_den]
theorem SA.ren_den (f : Nat → Nat) (x : SA) : (x.ren f).den = x.den := by
  cases x with
  | c x => exact SC.ren_den f x
  | agg xs => simp only [SA.ren, SA.den, SC.ren_map]
def SV.ren (f : Nat → Nat) : SV → SV
  | .a x => .a (x.ren f)
  | .tup vs => .tup (vs.map (SA.ren f))
  | .undef => .undef
theorem SV.ren_den (f : Nat → Nat) (x : SV) : (x.ren f).den = x.den := by
  cases x with
  | a x => exact SA.ren_den f x
  | tup vs => simp [SV.ren, SV.den, Function.comp_def, SA.ren_den]
  | undef => rfl
def Ch.ren (f : Nat → Nat) : Ch → Ch
  | .cells b t cs => .cells b t (cs.map (SC.ren f))
  | .row r => .row ⟨r.own, r.ao, r.t, r.s, r.n, r.cap, r.fld.map fun g i => (g i).ren f⟩
  | .dead => .dead
  | .obj o rs => .obj o rs
  | .whole b t g z x => .whole b t g z (x.ren f)
theorem Ch.ren_own (f : Nat → Nat) (c : Ch) : (c.ren f).own = c.own := by cases c <;> rfl
theorem Ch.ren_at (f : Nat → Nat) (c : Ch) (b : Nat) : (c.ren f).at b ↔ c.at b := by cases c <;> exact Iff.rfl
theorem Ch.ren_sat (f : Nat → Nat) {c : Ch} {w : World} (h : c.sat w) : (c.ren f).sat w := by
  cases c with
  | cells b t cs =>
    show w.heap[b]? = _
    rw [SC.ren_map]
    exact h
  | row r =>
    have hr : r.sat w := h
    have get : ∀ (c : Nat) (g : Nat → SC), (r.fld.map fun g i => (g i).ren f)[c]? = some g → ∃ g0 : Nat → SC, r.fld[c]? = some g0 ∧ ∀ i, (g i).den = (g0 i).den := fun c g hg => by
      simp only [List.getElem?_map] at hg
      cases hc : r.fld[c]? with
      | none => simp [hc] at hg
      | some g0 =>
        simp only [hc, Option.map_some, Option.some.injEq] at hg
        exact ⟨g0, rfl, fun i => by rw [← hg]; exact SC.ren_den f _⟩
    refine ⟨by simpa using hr.1, fun ho hn => ?_, fun ho => ?_⟩
    · obtain ⟨b, off, h1, h2, h3⟩ := hr.2.1 ho hn
      refine ⟨b, off, h1, h2, fun i hi c g hg => ?_⟩
      obtain ⟨g0, h4, h5⟩ := get c g hg
      rw [h5 i]
      exact h3 i hi c g0 h4
    · rcases hr.2.2 ho with h1 | ⟨b, cs, h1, h2, h3, h4, h5, h6⟩
      · exact .inl h1
      · refine .inr ⟨b, cs, h1, h2, h3, h4, h5, fun i hi c g hg => ?_⟩
        obtain ⟨g0, h7, h8⟩ := get c g hg
        rw [h8 i]
        exact h6 i hi c g0 h7
  | dead => trivial
  | obj o rs => exact h
  | whole b t g z x =>
    refine ⟨?_, ?_⟩
    · rw [SC.ren_den]; exact h.1
    · rw [SC.ren_den]; exact h.2
theorem HS.ren {X : Cx} {ch : List Ch} {w : World} (h : HS X ch w) (f : Nat → Nat) : HS X (ch.map (Ch.ren f)) w := by
  have get : ∀ (i : Nat) (c : Ch), (ch.map (Ch.ren f))[i]? = some c → ∃ d, ch[i]? = some d ∧ c = d.ren f := fun i c hc => by
    simp only [List.getElem?_map] at hc
    cases hi : ch[i]? with
    | none => simp [hi] at hc
    | some d => simp [hi] at hc; exact ⟨d, rfl, hc.symm⟩
  refine ⟨h.fr, fun i c hc => ?_, fun i j ci cj b hij hi hj ho hai haj => ?_, fun i c b hc ho ha => ?_⟩
  · obtain ⟨d, hd, rfl⟩ := get i c hc
    exact Ch.ren_sat f (h.sat i d hd)
  · obtain ⟨d, hd, rfl⟩ := get i ci hi
    obtain ⟨e, he, rfl⟩ := get j cj hj
    exact h.dis i j d e b hij hd he (by rw [← Ch.ren_own f]; exact ho) ((Ch.ren_at f d b).1 hai) ((Ch.ren_at f e b).1 haj)
  · obtain ⟨d, hd, rfl⟩ := get i c hc
    exact h.new i d b hd (by rw [← Ch.ren_own f]; exact ho) ((Ch.ren_at f d b).1 ha)
def pickM (ch : List Ch) (l : List Nat) : List Ch := l.map fun i => ch.getD i .dead
def memM (n : Nat) : List Nat → Bool
  | [] => false
  | x :: r => match Nat.beq x n with | true => true | false => memM n r
def ndM : List Nat → Bool
  | [] => true
  | x :: r => match memM x r with | true => false | false => ndM r
theorem memM_ok {n : Nat} : ∀ {l : List Nat}, memM n l = false → n ∉ l := by
  intro l
  induction l with
  | nil => intro _ h; cases h
  | cons x r ih =>
    intro h hm
    simp only [memM] at h
    split at h
    · cases h
    · rename_i he
      rcases List.mem_cons.1 hm with rfl | hm
      · rw [Nat.beq_refl] at he; cases he
      · exact ih h hm
theorem ndM_ok : ∀ {l : List Nat}, ndM l = true → l.Nodup := by
  intro l
  induction l with
  | nil => intro _; exact List.nodup_nil
  | cons x r ih =>
    intro h
    simp only [ndM] at h
    split at h
    · cases h
    · rename_i he
      exact List.nodup_cons.2 ⟨memM_ok he, ih h⟩
theorem HS.pickM {X : Cx} {ch : List Ch} {w : World} (h : HS X ch w) (l : List Nat) (hl : l.Nodup) : HS X (Go.Proofs.Ytmgjmglmjfjliab.pickM ch l) w := by
  have get : ∀ (i : Nat) (c : Ch), (Go.Proofs.Ytmgjmglmjfjliab.pickM ch l)[i]? = some c → c = .dead ∨ ∃ j, l[i]? = some j ∧ ch[j]? = some c := fun i c hc => by
    simp only [Go.Proofs.Ytmgjmglmjfjliab.pickM, List.getElem?_map] at hc
    cases hi : l[i]? with
    | none => simp [hi] at hc
    | some j =>
      simp only [hi, Option.map_some, Option.some.injEq, List.getD_eq_getElem?_getD] at hc
      cases hj : ch[j]? with
      | none => simp [hj] at hc; exact .inl hc.symm
      | some d => simp [hj] at hc; subst hc; exact .inr ⟨j, rfl, hj⟩
  refine ⟨h.fr, fun i c hc => ?_, fun i j ci cj b hij hi hj ho hai haj => ?_, fun i c b hc ho ha => ?_⟩
  · rcases get i c hc with rfl | ⟨j, _, hj⟩
    · trivial
    · exact h.sat j c hj
  · rcases get i ci hi with rfl | ⟨i', hi1, hi2⟩
    · exact hai.elim
    · rcases get j cj hj with rfl | ⟨j', hj1, hj2⟩
      · exact haj.elim
      · refine h.dis i' j' ci cj b (fun e => hij ?_) hi2 hj2 ho hai haj
        subst e
        obtain ⟨h1, h2⟩ := List.getElem?_eq_some_iff.1 hi1
        obtain ⟨h3, h4⟩ := List.getElem?_eq_some_iff.1 hj1
        have hp := List.pairwise_iff_getElem.1 hl
        rcases Nat.lt_trichotomy i j with hlt | heq | hgt
        · exact absurd (h2.trans h4.symm) (hp i j h1 h3 hlt)
        · exact heq
        · exact absurd (h4.trans h2.symm) (hp j i h3 h1 hgt)
  · rcases get i c hc with rfl | ⟨j, _, hj⟩
    · exact ha.elim
    · exact h.new j c b hj ho ha
/-- The operations one behind the other, as listed. -/
def exOrd (P : Program) (tb : List (FuncId × Sm)) (all : List Oper) : List Nat → List SV → List Ch → (List SV → List Ch → Prop) → Prop
  | [], ts, ch, k => k ts ch
  | i :: r, ts, ch, k =>
    match all[i]? with
    | some o =>
      match guardOf all ts o.guard with
      | .run =>
        match isCalm o.op with
        | true => exCalm P o.op ts ch fun v => exOrd P tb all r (putT ts o.dst v) ch k
        | false => exOne P tb o ts ch fun v ch' _ => exOrd P tb all r (putT ts o.dst v) ch' k
      | .skip => exOrd P tb all r (putT ts o.dst .undef) ch k
      | _ => False
    | none => False
/-- The slots of what the region allots. -/
def allotS : List Oper → List Nat
  | [] => []
  | o :: r =>
    match o.op, o.dst with
    | .alloc _, some d => d :: allotS r
    | _, _ => allotS r
def ptrId : SV → Nat
  | .a (.c (.ptr id _ _)) => id
  | _ => 1000000
def fromTo (a : Nat) : Nat → List Nat
  | 0 => []
  | n + 1 => a :: fromTo (a + 1) n
def notIn (l : List Nat) : List Nat → List Nat
  | [] => []
  | x :: r => match memM x l with | true => notIn l r | false => x :: notIn l r
def orderM (all : List Oper) (n0 : Nat) (ts : List SV) (ch : List Ch) : List Nat :=
  let al := (allotS all).map fun d => ptrId (ts.getD d .undef)
  fromTo 0 n0 ++ (al ++ notIn al (fromTo n0 (ch.length - n0)))
def placeM (l : List Nat) (n : Nat) (i : Nat) : Nat :=
  match l with
  | [] => 1000007
  | x :: r => match Nat.beq x n with | true => i | false => placeM r n (i + 1)
/-- The slots that a region's operations write. -/
def dstsOf : List Oper → List Nat
  | [] => []
  | o :: r =>
    match o.dst with
    | some d => d :: dstsOf r
    | none => dstsOf r
def pickD (l : List Nat) (ts : List SV) : List SV := l.map fun d => ts.getD d .undef
def putAll : List Nat → List SV → List SV → List SV
  | d :: l, v :: vs, ts => putAll l vs (ts.set d v)
  | _, _, ts => ts
/-- Outside these slots nothing has changed. -/
def Out (l : List Nat) (ts ts' : List SV) : Prop := ts'.length = ts.length ∧ ∀ i : Nat, i ∉ l → ts'[i]? = ts[i]?
theorem Out.refl (l : List Nat) (ts : List SV) : Out l ts ts := ⟨rfl, fun _ _ => rfl⟩
theorem Out.set {l : List Nat} {ts ts' : List SV} (h : Out l ts ts') {d : Nat} (hd : d ∈ l) (v : SV) : Out l ts (ts'.set d v) :=
  ⟨by rw [List.length_set]; exact h.1, fun i hi => by rw [List.getElem?_set_ne (fun (e : d = i) => hi (by rw [← e]; exact hd))]; exact h.2 i hi⟩
theorem dstsOf_mem {o : Oper} {d : Nat} : ∀ {all : List Oper}, o ∈ all → o.dst = some d → d ∈ dstsOf all := by
  intro all
  induction all with
  | nil => intro h; cases h
  | cons p r ih =>
    intro h hd
    rcases List.mem_cons.1 h with rfl | h
    · simp [dstsOf, hd]
    · have := ih h hd
      simp only [dstsOf]
      split
      · exact List.mem_cons_of_mem _ this
      · exact this
theorem Out.putT {all : List Oper} {ts ts' : List SV} (h : Out (dstsOf all) ts ts') {i : Nat} {o : Oper} (hi : all[i]? = some o) (v : SV) : Out (dstsOf all) ts (Go.Proofs.Ytmgjmglmjfjliab.putT ts' o.dst v) := by
  cases hd : o.dst with
  | none => exact h
  | some d => exact h.set (dstsOf_mem (List.mem_of_getElem? hi) hd) v
theorem same_ask {a b : Bool} {d : Nat} {x w : Bool} (h : same a b = .ask d x w) : False := by cases a <;> cases b <;> cases h
theorem Out.ask {all : List Oper} {ts ts' : List SV} (h : Out (dstsOf all) ts ts') {g : Option (Nat × Bool)} {d : Nat} {b want : Bool} (hg : guardOf all ts' g = .ask d b want) (x : Bool) : Out (dstsOf all) ts (litT ts' d x) := by
  have hd : d ∈ dstsOf all := by
    unfold guardOf at hg
    split at hg
    · cases hg
    · split at hg
      · rename_i oj hj
        split at hg
        · rename_i d' hd
          split at hg
          · exact (same_ask hg).elim
          · injection hg with h1 _ _
            subst h1
            exact dstsOf_mem (List.mem_of_getElem? hj) hd
          · cases hg
          · cases hg
          · cases hg
        · cases hg
      · cases hg
  exact h.set hd _
theorem putAll_out : ∀ {l : List Nat} {ts ts' : List SV}, Out l ts ts' → putAll l (pickD l ts') ts = ts' := by
  intro l
  induction l with
  | nil =>
    intro ts ts' h
    exact (List.ext_getElem? fun i => h.2 i (by simp)).symm
  | cons d l ih =>
    intro ts ts' h
    refine ih ⟨by rw [List.length_set]; exact h.1, fun i hi => ?_⟩
    by_cases e : d = i
    · subst e
      have hl := h.1
      rw [List.getElem?_set_self']
      cases hg : ts'[d]? with
      | none =>
        have : ts.length ≤ d := by have := List.getElem?_eq_none_iff.1 hg; omega
        simp [List.getElem?_eq_none this]
      | some v =>
        have hlt := (List.getElem?_eq_some_iff.1 hg).1
        simp [List.getElem?_eq_getElem (show d < ts.length by omega), List.getD_eq_getElem?_getD, hg]
    · rw [List.getElem?_set_ne e]
      exact h.2 i (fun hm => (List.mem_cons.1 hm).elim (fun q => e q.symm) hi)
/-- The same, of states that say the same. -/
theorem putAll_den {f : SV → SV} (hf : ∀ x, (f x).den = x.den) : ∀ {l : List Nat} {ts ts' : List SV}, Out l ts ts' → (putAll l ((pickD l ts').map f) ts).map SV.den = ts'.map SV.den := by
  have key : ∀ (l : List Nat) (vs : List SV) (ts us : List SV), ts.map SV.den = us.map SV.den → (putAll l (vs.map f) ts).map SV.den = (putAll l vs us).map SV.den := by
    intro l
    induction l with
    | nil => intro vs ts us h; exact h
    | cons d l ih =>
      intro vs ts us h
      cases vs with
      | nil => exact h
      | cons v vs => exact ih vs _ _ (by rw [List.map_set, List.map_set, h, hf])
  intro l ts ts' h
  rw [key l _ ts ts rfl, putAll_out h]
theorem exOrd_out {P : Program} {tb : List (FuncId × Sm)} {all : List Oper} {ts : List SV} {k : List SV → List Ch → Prop} : ∀ (l : List Nat) (ts0 : List SV) (ch : List Ch), Out (dstsOf all) ts ts0 →
    exOrd P tb all l ts0 ch k = exOrd P tb all l ts0 ch (fun t c => k (putAll (dstsOf all) (pickD (dstsOf all) t) ts) c) := by
  intro l
  induction l with
  | nil => intro ts0 ch h; simp only [exOrd]; rw [putAll_out h]
  | cons i r ih =>
    intro ts0 ch h
    simp only [exOrd]
    cases hi : all[i]? with
    | none => rfl
    | some o =>
      simp only
      split
      · split
        · congr 1; funext v; exact ih _ _ (h.putT hi v)
        · congr 1; funext v ch' _; exact ih _ _ (h.putT hi v)
      · exact ih _ _ (h.putT hi _)
      · rfl
theorem exDraw_out {P : Program} {tb : List (FuncId × Sm)} {all : List Oper} {D : List Nat} {ts : List SV} {k : List SV → List Ch → Prop} : ∀ (n : Nat) (c0 : Option (List Ch)) (listed : List Bool) (ts0 : List SV) (ch : List Ch), Out (dstsOf all) ts ts0 →
    exDraw P tb all D c0 n listed ts0 ch k = exDraw P tb all D c0 n listed ts0 ch (fun t c => k t c ∧ Out (dstsOf all) ts t) := by
  have leaf : ∀ (ts0 : List SV) (ch : List Ch), Out (dstsOf all) ts ts0 → k ts0 ch = (k ts0 ch ∧ Out (dstsOf all) ts ts0) := fun ts0 ch h => propext ⟨fun q => ⟨q, h⟩, fun q => q.1⟩
  intro n
  induction n with
  | zero =>
    intro c0 listed ts0 ch h
    simp only [exDraw]
    split
    · exact leaf _ _ h
    · rfl
  | succ n ih =>
    intro c0 listed ts0 ch h
    simp only [exDraw]
    split
    · exact leaf _ _ h
    · rename_i r rs hr
      split
      · rename_i i o hp
        obtain ⟨_, hi, _⟩ := pickC_ok hp
        split
        · congr 1; funext v; exact ih _ _ _ _ (h.putT hi v)
        · exact ih _ _ _ _ (h.putT hi _)
        · rename_i d b want hg
          congr 1
          · congr 1; congr 1; funext v; exact ih _ _ _ _ ((h.ask hg want).putT hi v)
          · congr 1; exact ih _ _ _ _ ((h.ask hg (!want)).putT hi _)
        · rfl
      · congr 1
        funext i
        cases hi : all[i]? with
        | none => rfl
        | some o =>
          simp only
          split
          · congr 1; funext v ch' mods; congr 1; exact ih _ _ _ _ (h.putT hi v)
          · exact ih _ _ _ _ (h.putT hi _)
          · rename_i d b want hg
            congr 1
            · congr 1; congr 1; funext v ch' mods; congr 1; exact ih _ _ _ _ ((h.ask hg want).putT hi v)
            · congr 1; exact ih _ _ _ _ ((h.ask hg (!want)).putT hi _)
          · rfl
def exDrawM (P : Program) (tb : List (FuncId × Sm)) (all : List Oper) (D : List Nat) (c0 : Option (List Ch)) (n : Nat) (listed : List Bool) (ord : List Nat) (ts : List SV) (ch : List Ch) (k : List SV → List Ch → Prop) : Prop :=
  exOrd P tb all ord ts ch k ∧ exDraw P tb all D c0 n listed ts ch fun ts' ch' =>
    ndM (orderM all ch.length ts' ch') = true ∧ ∀ Q : List SV → List Ch → Prop, exOrd P tb all ord ts ch (fun t c => Q (pickD (dstsOf all) t) c) → Q ((pickD (dstsOf all) ts').map (SV.ren fun i => placeM (orderM all ch.length ts' ch') i 0)) ((pickM ch' (orderM all ch.length ts' ch')).map (Ch.ren fun i => placeM (orderM all ch.length ts' ch') i 0))
end Go.Proofs.Ytmgjmglmjfjliab

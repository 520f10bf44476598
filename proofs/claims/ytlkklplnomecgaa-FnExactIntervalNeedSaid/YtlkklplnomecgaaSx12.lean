/-
  A walk by symbols, part 12: loops by a relation, results that hold memory, pieces picked out.
-/
import Derived.Test.YtlkklplnomecgaaSx11
namespace Go.Proofs.Ytlkklplnomecgaa
open Go.RowKit

/-- The state behind a round fits the relation. -/
def Next (X : Cx) (J : List SV → List Ch → Prop) (ts : List SV) (ch : List Ch) : Prop :=
  ∃ ts' ch', J ts' ch' ∧ ts.map SV.den = ts'.map SV.den ∧ ∀ w, HS X ch w → HS X ch' w

theorem loop_ok {P : Program} (hm : P.follows .mixedOrders = true) {X : Cx} {E : Env} (hb : TbOK P E.tb) {b : Code} (hL : LoopsOK P X E.L b) (fuel : Nat) (n : Nat) (I : Nat → List SV → List Ch → Prop) {k : CK}
    (body : ∀ j ts ch, I j ts ch → j ≤ n → exCode P E fuel b ts ch fun e ts' ch' => match e with | .normal => j < n ∧ Next X (I (j + 1)) ts' ch' | e => k e ts' ch')
    {ts : List SV} {ch : List Ch} (h0 : I 0 ts ch) {a : Act} {w : World} (hT : Ts ts a) (hd : a.defers = []) (hs : HS X ch w) : (Code.loop b).wp P (Kh X k) a w := by
  refine wp_loop_rounds (n + 1) ?_
  have key : ∀ (m j : Nat) (ts : List SV) (ch : List Ch) (a : Act) (w : World), j + m = n → I j ts ch → Ts ts a → a.defers = [] → HS X ch w → Code.rounds P b (Kh X k) (m + 1) a w := by
    intro m
    induction m with
    | zero =>
      intro j ts ch a w hj hI hT hd hs
      rw [rounds_succ]
      refine wp_mono (code_ok hm hb fuel b ts ch _ a w hL (body j ts ch hI (by omega)) hT hd hs) fun e a' w' hq => ?_
      cases e with
      | normal => obtain ⟨ts', ch', _, _, _, hk, _⟩ := hq; omega
      | exit id => exact hq
      | ret => exact hq
      | goto l => exact hq.elim
      | panic c => exact hq.elim
      | outgrown => exact hq.elim
    | succ m ih =>
      intro j ts ch a w hj hI hT hd hs
      rw [rounds_succ]
      refine wp_mono (code_ok hm hb fuel b ts ch _ a w hL (body j ts ch hI (by omega)) hT hd hs) fun e a' w' hq => ?_
      cases e with
      | normal =>
        obtain ⟨ts', ch', hT', hd', hs', _, ts2, ch2, hJ, hts, hch⟩ := hq
        exact ih (j + 1) ts2 ch2 a' w' (by omega) hJ (by show a'.tmps = _; rw [show a'.tmps = _ from hT', hts]) hd' (hch w' hs')
      | exit id => exact hq
      | ret => exact hq
      | goto l => exact hq.elim
      | panic c => exact hq.elim
      | outgrown => exact hq.elim
  exact key n 0 ts ch a w (by omega) h0 hT hd hs

/-- Some pieces of a table, each once. -/
def selC (ch : List Ch) (l : List Nat) : List Ch := l.map fun i => ch.getD i .dead
theorem HS.sel {X : Cx} {ch : List Ch} {w : World} (h : HS X ch w) (l : List Nat) (hl : l.Nodup) : HS X (selC ch l) w := by
  have get : ∀ (i : Nat) (c : Ch), (selC ch l)[i]? = some c → c = .dead ∨ ∃ j, l[i]? = some j ∧ ch[j]? = some c := fun i c hc => by
    simp only [selC, List.getElem?_map] at hc
    cases hi : l[i]? with
    | none => simp [hi] at hc
    | some j =>
      simp only [hi, Option.map_some, Option.some.injEq, List.getD_eq_getElem?_getD] at hc
      cases hj : ch[j]? with
      | none => simp [hj] at hc; exact .inl hc.symm
      | some d => simp [hj] at hc; subst hc; exact .inr ⟨j, rfl, hj⟩
  refine ⟨h.fr, fun i c hc => ?_, fun i j ci cj b hij hi hj ho hai haj => ?_, fun i c b hc ho ha => ?_⟩
  · rcases get i c hc with rfl | ⟨j, _, hj⟩
    · trivial
    · exact h.sat j c hj
  · rcases get i ci hi with rfl | ⟨i', hi1, hi2⟩
    · exact hai.elim
    · rcases get j cj hj with rfl | ⟨j', hj1, hj2⟩
      · exact haj.elim
      · refine h.dis i' j' ci cj b (fun e => hij ?_) hi2 hj2 ho hai haj
        subst e
        obtain ⟨h1, h2⟩ := List.getElem?_eq_some_iff.1 hi1
        obtain ⟨h3, h4⟩ := List.getElem?_eq_some_iff.1 hj1
        have hp := List.pairwise_iff_getElem.1 hl
        rcases Nat.lt_trichotomy i j with hlt | heq | hgt
        · exact absurd (h2.trans h4.symm) (hp i j h1 h3 hlt)
        · exact heq
        · exact absurd (h4.trans h2.symm) (hp j i h3 h1 hgt)
  · rcases get i c hc with rfl | ⟨j, _, hj⟩
    · exact ha.elim
    · exact h.new j c b hj ho ha

/-- New pieces of a callee join the caller's table. -/
theorem HS.join {X : Cx} {ch new : List Ch} {w w' : World} (h : HS X ch w) (h' : HS ⟨w, fun _ => False⟩ new w') (hall : ∀ c ∈ new, c.own = true ∨ c = .dead) : HS X (ch ++ new) w' := by
  have hb : Below w.heap.size w w' := h'.below
  have hk := h.keep hb
  have lt : ∀ (i : Nat) (c : Ch) (b : Nat), ch[i]? = some c → c.at b → b < w.heap.size := fun i c b hc ha => Ch.sat_lt (h.sat i c hc) ha
  have ge : ∀ (i : Nat) (c : Ch) (b : Nat), new[i]? = some c → c.at b → w.heap.size ≤ b := fun i c b hc ha => by
    rcases hall c (List.mem_of_getElem? hc) with ho | rfl
    · rcases h'.new i c b hc ho ha with h1 | h1
      · exact h1
      · exact h1.elim
    · exact ha.elim
  have get : ∀ (i : Nat) (c : Ch), (ch ++ new)[i]? = some c → ch[i]? = some c ∨ (ch.length ≤ i ∧ new[i - ch.length]? = some c) := fun i c hc => by
    rw [List.getElem?_append] at hc
    split at hc
    · exact .inl hc
    · exact .inr ⟨by omega, hc⟩
  refine ⟨hk.fr, fun i c hc => ?_, fun i j ci cj b hij hi hj ho hai haj => ?_, fun i c b hc ho ha => ?_⟩
  · rcases get i c hc with hc | ⟨_, hc⟩
    · exact hk.sat i c hc
    · exact h'.sat _ c hc
  · rcases get i ci hi with hi | ⟨hi0, hi⟩
    · rcases get j cj hj with hj | ⟨_, hj⟩
      · exact h.dis i j ci cj b hij hi hj ho hai haj
      · have := lt i ci b hi hai
        have := ge _ cj b hj haj
        omega
    · rcases get j cj hj with hj | ⟨hj0, hj⟩
      · have := lt j cj b hj haj
        have := ge _ ci b hi hai
        omega
      · exact h'.dis _ _ ci cj b (by omega) hi hj ho hai haj
  · rcases get i c hc with hc | ⟨_, hc⟩
    · exact h.new i c b hc ho ha
    · exact .inl (Nat.le_trans h.fr.size (ge _ c b hc ha))

/-- All pieces are the call's own, or forgotten. -/
def ownAll (new : List Ch) : Bool := new.all fun c => match c with | .dead => true | c => c.own
theorem ownAll_ok {new : List Ch} (h : ownAll new = true) : ∀ c ∈ new, c.own = true ∨ c = .dead := fun c hc => by
  have := List.all_eq_true.1 h c hc
  cases c with
  | dead => exact .inr rfl
  | cells b t cs => exact .inl rfl
  | row r => exact .inl this

/-- A summary of a function that makes memory and hands it back. -/
theorem smN {P : Program} {f : FuncId} (hc : ∀ args w, (callFunc f args).run P w = .ok (.enter f args) w) {S : Sm}
    (h : ∀ (args : List SV) (ch : List Ch) (k : EK) (w : World) (X : Cx), S args ch k → HS X ch w → Calls P f (args.map SV.den).toArray w fun e w' => ∃ v new, e = .returned v.den ∧ HS ⟨w, fun _ => False⟩ new w' ∧ ownAll new = true ∧ k v (ch ++ new) []) : SmOK P f S :=
  ⟨hc, fun X args ch k w hS hs => Calls.mono (h args ch k w X hS hs) fun _ _ ⟨v, _, he, hn, ho, hk⟩ => ⟨v, _, [], he, hs.join hn (ownAll_ok ho), Agree.app _ _, hk⟩⟩

theorem Agree.sets {ch : List Ch} {id : Nat} {c : Ch} : Agree ch (ch.set id c) [id] := Agree.set ch id c
end Go.Proofs.Ytlkklplnomecgaa

/-
  Loops whose counter is known: a slot said as a literal ahead of the loop, and the rounds walked one by one.
-/
import Derived.Test.YtmgjmglmjfjliabSx17
namespace Go.Proofs.Ytmgjmglmjfjliab
set_option linter.unusedVariables false
set_option linter.unusedSimpArgs false
open Go.RowKit

def relit (P : Program) (E : Env) (n m : Nat) (b : Code) (d : Nat) (y : SC) : LSm := fun ts ch k =>
  (ts.getD d .undef).den = y.den ∧ rounds (exCode P E n b) m (ts.set d (.a (.c y))) ch k
theorem relit_ok {P : Program} (hm : P.follows .mixedOrders = true) {X : Cx} {E : Env} (hb : TbOK P E.tb) {n m d : Nat} {b : Code} {y : SC} (hL : LoopsOK P X E.L b) : LoopOK P X b (relit P E n m b d y) := by
  intro ts ch k a w hS hT hd hs
  obtain ⟨h1, h⟩ := hS
  have hT' : Ts (ts.set d (.a (.c y))) a := by
    show a.tmps = _
    rw [show a.tmps = _ from hT]
    congr 1
    apply List.ext_getElem?
    intro i
    simp only [List.getElem?_map, List.getElem?_set]
    split
    · rename_i e
      subst e
      split
      · rename_i hlt
        simp only [List.getD_eq_getElem?_getD, List.getElem?_eq_getElem hlt, Option.getD_some] at h1
        simp only [List.getElem?_eq_getElem hlt, Option.map_some, h1]
        rfl
      · rename_i hlt
        simp only [List.getElem?_eq_none (Nat.le_of_not_lt hlt)]
    · rfl
  refine wp_loop_rounds m ?_
  clear h1 hT
  generalize ts.set d (.a (.c y)) = ts0 at h hT'
  have key : ∀ (m : Nat) (ts : List SV) (ch : List Ch) (a : Act) (w : World), rounds (exCode P E n b) m ts ch k → Ts ts a → a.defers = [] → HS X ch w → Code.rounds P b (Kh X k) m a w := by
    intro m
    induction m with
    | zero => intro ts ch a w h; exact h.elim
    | succ m ihm =>
      intro ts ch a w h hT hd hs
      rw [rounds_succ]
      refine wp_mono (code_ok hm hb n b ts ch _ a w hL h hT hd hs) fun e a' w' hq => ?_
      cases e with
      | normal =>
        obtain ⟨ts', ch', hT', hd', hs', hk⟩ := hq
        exact ihm ts' ch' a' w' hk hT' hd' hs'
      | exit id => exact hq
      | ret => exact hq
      | goto l => exact hq.elim
      | panic c => exact hq.elim
      | outgrown => exact hq.elim
  exact key m ts0 ch a w h hT' hd hs
/-- Of two loops the second has a summary. -/
theorem second_loop {P : Program} {X : Cx} {fn : Func} {k0 k1 : Nat} {S1 : LSm} (hl : (loopsF fn).map firstReg = [k0, k1]) (hne : k0 ≠ k1) (h1 : LoopOK P X (theLoop fn 1) S1) :
    ∀ c, fn.body = some c → LoopsOK P X [(k1, S1)] c := by
  intro c hc
  refine loopsOK_of c fun b hb T hT => ?_
  have e : loopsF fn = loopsIn c := by simp [loopsF, hc]
  rw [← e] at hb
  match hf : loopsF fn with
  | [] => rw [hf] at hb; cases hb
  | [d] => rw [hf] at hl; simp at hl
  | d :: d' :: ds =>
    rw [hf] at hb hl
    simp only [List.map_cons, List.cons.injEq] at hl
    obtain ⟨hd, hd', hn⟩ := hl
    have hds : ds = [] := by cases ds with
      | nil => rfl
      | cons x xs => simp at hn
    subst hds
    have ht' : theLoop fn 1 = d' := by simp [theLoop, hf]
    rw [ht'] at h1
    have hb' : b = d ∨ b = d' := by simpa using hb
    have hq : Nat.beq k1 k0 = false := by
      cases h : Nat.beq k1 k0
      · rfl
      · exact absurd (Nat.eq_of_beq_eq_true h).symm hne
    rcases hb' with rfl | rfl
    · simp only [lookL, hd, hq] at hT
      cases hT
    · simp only [lookL, hd', Nat.beq_refl, Option.some.injEq] at hT
      subst hT
      exact h1
/-- A table of one piece: literal cells. -/
def idSlc (v : SV) : List Nat :=
  match v with
  | .a (.c (.slc id _ _ _)) => [id]
  | .a (.c (.sl id _ _ _)) => [id]
  | .tup (.c (.sl id _ _ _) :: _) => [id]
  | _ => []
end Go.Proofs.Ytmgjmglmjfjliab

/-
  A walk by symbols over this program: how contracts and summaries come of it.
-/
import Derived.Test.YtmgjmglmjfjliabProg
import Derived.Test.YtmgjmglmjfjliabSx15
namespace Go.Proofs.Ytmgjmglmjfjliab
set_option linter.unusedVariables false
set_option linter.unusedSimpArgs false
open Go.RowKit

theorem mixed : Try.prog.follows .mixedOrders = true := by kernel_rfl
/-- A contract out of a walk without summarised loops. -/
theorem fnB {tb : List (FuncId × Sm)} {D : Nat → List Nat} {R' : List (Nat × Nat)} {n : Nat} {f : FuncId} {fn : Func} {ts : List SV} {ch : List Ch} {K : SV → List Ch → Prop} {M : Nat → Prop} (hb : TbOK Try.prog tb) (hf : Try.prog.funcs[f]? = some fn)
    (h : exFn Try.prog { tb := tb, D := D, R := R' } n fn ts ch K) {w : World} (hs : HS ⟨w, M⟩ ch w) {R : Ending → World → Prop}
    (hR : ∀ v ch' w', K v ch' → HS ⟨w, M⟩ ch' w' → R (.returned v.den) w') : Calls Try.prog f (ts.map SV.den).toArray w R :=
  fn_ok mixed hb hf (fun _ _ => loopsOK_nil _ _ _) h hs hR

/-- A summary of a function that makes memory at most and hands back what hangs on its arguments alone. -/
theorem smB {f : FuncId} (hc : ∀ args w, (callFunc f args).run Try.prog w = .ok (.enter f args) w) {S : Sm}
    (h : ∀ (args : List SV) (ch : List Ch) (k : EK) (w : World) (X : Cx), S args ch k → HS X ch w → ∃ r, k r ch [] ∧ Calls Try.prog f (args.map SV.den).toArray w fun e w' => e = .returned r.den ∧ Below w.heap.size w w') : SmOK Try.prog f S :=
  ⟨hc, fun X args ch k w hS hs => by
    obtain ⟨r, hk, hcall⟩ := h args ch k w X hS hs
    exact Calls.mono hcall fun e w' ⟨he, hb⟩ => ⟨r, ch, [], he, hs.keep hb, Agree.refl _, hk⟩⟩

/-- Cells that are ints; that are Bools. -/
def ints : List SC → Option (List Int)
  | [] => some []
  | x :: r =>
    match asI x, ints r with
    | some a, some l => some (a :: l)
    | _, _ => none
def bools : List SC → Option (List Bool)
  | [] => some []
  | x :: r =>
    match asB x, bools r with
    | some a, some l => some (a :: l)
    | _, _ => none
theorem ints_cons {x : SC} {r : List SC} {a : Int} {l : List Int} (h : ints (x :: r) = some (a :: l)) : x.den = .int .i64 a ∧ ints r = some l := by
  simp only [ints] at h
  split at h
  · rename_i b m hb hm
    injection h with h
    injection h with h1 h2
    subst h1
    subst h2
    exact ⟨asI_den hb, hm⟩
  · cases h
theorem ints_den : ∀ {xs : List SC} {l : List Int}, ints xs = some l → xs.map SC.den = l.map (Value.int .i64) := by
  intro xs
  induction xs with
  | nil => intro l h; simp only [ints, Option.some.injEq] at h; subst h; rfl
  | cons x r ih =>
    intro l h
    cases l with
    | nil =>
      simp only [ints] at h
      split at h
      · injection h with h; cases h
      · cases h
    | cons a l =>
      obtain ⟨h1, h2⟩ := ints_cons h
      simp only [List.map_cons, h1, ih h2]
theorem bools_cons {x : SC} {r : List SC} {a : Bool} {l : List Bool} (h : bools (x :: r) = some (a :: l)) : x.den = .bool a ∧ bools r = some l := by
  simp only [bools] at h
  split at h
  · rename_i b m hb hm
    injection h with h
    injection h with h1 h2
    subst h1
    subst h2
    exact ⟨asB_den hb, hm⟩
  · cases h

theorem den_sl (id : Nat) (ao : Option Addr) (n cap : Nat) : (SC.sl id ao n cap).den = .slice ao n cap := rfl
/-- Not more than the bound that the laws set. -/
abbrev capC (n : Nat) : Prop := n ≤ 2097152
abbrev markC (n : Nat) (k : Int) : Prop := n ≤ 2097152 ∧ 0 ≤ k ∧ k ≤ 1099511627776
abbrev szC (n : Nat) (k : Int) : Prop := n ≤ 9223372036854775807 ∧ 0 ≤ k ∧ k ≤ 1048576
abbrev mrkC (k : Int) : Prop := 0 ≤ k ∧ k ≤ 549755813888
abbrev endC (k z m : Int) : Prop := 0 ≤ z ∧ z ≤ k + m
abbrev szK (k : Int) : Prop := 0 ≤ k ∧ k ≤ 1048576
abbrev szO (z k : Int) : Prop := 0 ≤ z ∧ z ≤ k
abbrev lenC (n : Nat) : Prop := n ≤ 9223372036854775807
/-- The numbers from k on: cell c of element i, s cells an element. -/
def mk (k : Int) (s c i : Nat) : Int := k + ((s * i + c : Nat) : Int)
abbrev szLt (k : Int) (n : Nat) : Prop := k < (n : Int)
abbrev szGe (k : Int) (n : Nat) : Prop := (n : Int) ≤ k
abbrev szSub (k : Int) (n : Nat) : Int := k - (n : Int)
def szI (k : Int) (n : Nat) : Int := if k - (n : Int) < 0 then -1 else k - (n : Int)
theorem mk_low (k : Int) (s c : Nat) (f : Nat → Int) (i j : Nat) (v : Int) (hv : v = mk k s c j) : selI i j v (lowI i j (mk k s c i) (f i)) = lowI i (j + 1) (mk k s c i) (f i) := by
  subst hv
  simp only [selI, lowI]
  by_cases e : i = j
  · rw [if_pos e, if_pos (by omega), e]
  · rw [if_neg e]
    by_cases l : i < j
    · rw [if_pos l, if_pos (by omega)]
    · rw [if_neg l, if_neg (by omega)]
theorem mk_next (k : Int) (s j : Nat) : mk k s 0 (j + 1) = mk k s 0 j + (s : Int) := by
  unfold mk
  rw [Nat.mul_add]
  omega
theorem mk_bound {k : Int} {s c i n : Nat} (h : n ≤ 2097152 ∧ 0 ≤ k ∧ k ≤ 1099511627776) (hi : i ≤ n) (hs : s ≤ 8) (hc : c ≤ 16) : 0 ≤ mk k s c i ∧ mk k s c i ≤ 1100000000000 := by
  unfold mk
  have : s * i ≤ 8 * 2097152 := Nat.mul_le_mul hs (by omega)
  omega
theorem mk_more {k : Int} {s n : Nat} (h0 : 0 ≤ k) (hn : n ≤ 2097152) (hs : s ≤ 8) : 0 ≤ mk k s 0 n ∧ mk k s 0 n ≤ k + 16777216 := by
  unfold mk
  have : s * n ≤ 8 * 2097152 := Nat.mul_le_mul hs hn
  omega
theorem Row.seenAs {w : World} {r : Row} (h : r.sat w) {F : List (Nat → SC)} {s : Nat} (hf : r.fld = F) (hl : F.length = s) : Row.sat w ⟨false, r.ao, 0, s, r.n, 0, F⟩ := by
  have h2 := Row.see h
  have hs : r.s = s := by rw [← hl, ← hf]; exact h.1.symm
  subst hf
  rw [← hs]
  exact h2
theorem HS.one {w : World} {r : Row} (h : r.sat w) : HS ⟨w, (Ch.row r).at⟩ [.row r] w := by
  refine ⟨⟨rfl, rfl, rfl, Nat.le_refl _, fun _ _ _ => rfl⟩, fun i c hc => ?_, fun i j ci cj b hij hi hj _ _ _ => ?_, fun i c b hc _ ha => ?_⟩
  · cases i with
    | zero => simp at hc; subst hc; exact h
    | succ i => simp at hc
  · cases i with
    | zero =>
      cases j with
      | zero => exact hij rfl
      | succ j => simp at hj
    | succ i => simp at hi
  · cases i with
    | zero => simp at hc; subst hc; exact .inr ha
    | succ i => simp at hc
/-- A summary of a function that turns one own row and hands back what hangs on its arguments. -/
theorem smTurn {f : FuncId} (hc : ∀ args w, (callFunc f args).run Try.prog w = .ok (.enter f args) w) {S : Sm}
    (h : ∀ (args : List SV) (ch : List Ch) (k : EK) (w : World) (X : Cx), S args ch k → HS X ch w → ∃ (v : SV) (id : Nat) (r : Row) (fld : List (Nat → SC)), ch[id]? = some (.row r) ∧ r.own = true ∧ k v (ch.set id (.row { r with fld := fld })) [id] ∧
      Calls Try.prog f (args.map SV.den).toArray w fun e w' => e = .returned v.den ∧ HS ⟨w, (Ch.row r).at⟩ [.row { r with fld := fld }] w') : SmOK Try.prog f S :=
  ⟨hc, fun X args ch k w hS hs => by
    obtain ⟨v, id, r, fld, hid, ho, hk, hcall⟩ := h args ch k w X hS hs
    exact Calls.mono hcall fun e w' ⟨he, hn⟩ => ⟨v, _, [id], he, hs.swap1 hid ho hn (fun b hb => hb), Agree.set _ _ _, hk⟩⟩
end Go.Proofs.Ytmgjmglmjfjliab

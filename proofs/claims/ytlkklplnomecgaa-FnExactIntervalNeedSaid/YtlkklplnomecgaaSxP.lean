/-
  A walk by symbols over this program: how contracts and summaries come of it.
-/
import Derived.Test.YtlkklplnomecgaaProg
import Derived.Test.YtlkklplnomecgaaSx12
namespace Go.Proofs.Ytlkklplnomecgaa
open Go.RowKit

theorem mixed : Try.prog.follows .mixedOrders = true := by kernel_rfl
/-- A contract out of a walk without summarised loops. -/
theorem fnB {tb : List (FuncId × Sm)} {D : Nat → List Nat} {n : Nat} {f : FuncId} {fn : Func} {ts : List SV} {ch : List Ch} {K : SV → List Ch → Prop} {M : Nat → Prop} (hb : TbOK Try.prog tb) (hf : Try.prog.funcs[f]? = some fn)
    (h : exFn Try.prog { tb := tb, D := D } n fn ts ch K) {w : World} (hs : HS ⟨w, M⟩ ch w) {R : Ending → World → Prop}
    (hR : ∀ v ch' w', K v ch' → HS ⟨w, M⟩ ch' w' → R (.returned v.den) w') : Calls Try.prog f (ts.map SV.den).toArray w R :=
  fn_ok mixed hb hf (fun _ _ => loopsOK_nil _ _ _) h hs hR

/-- A summary of a function that makes memory at most and hands back what hangs on its arguments alone. -/
theorem smB {f : FuncId} (hc : ∀ args w, (callFunc f args).run Try.prog w = .ok (.enter f args) w) {S : Sm}
    (h : ∀ (args : List SV) (ch : List Ch) (k : EK) (w : World) (X : Cx), S args ch k → HS X ch w → ∃ r, k r ch [] ∧ Calls Try.prog f (args.map SV.den).toArray w fun e w' => e = .returned r.den ∧ Below w.heap.size w w') : SmOK Try.prog f S :=
  ⟨hc, fun X args ch k w hS hs => by
    obtain ⟨r, hk, hcall⟩ := h args ch k w X hS hs
    exact Calls.mono hcall fun e w' ⟨he, hb⟩ => ⟨r, ch, [], he, hs.keep hb, Agree.refl _, hk⟩⟩

/-- Cells that are ints; that are Bools. -/
def ints : List SC → Option (List Int)
  | [] => some []
  | x :: r =>
    match asI x, ints r with
    | some a, some l => some (a :: l)
    | _, _ => none
def bools : List SC → Option (List Bool)
  | [] => some []
  | x :: r =>
    match asB x, bools r with
    | some a, some l => some (a :: l)
    | _, _ => none
theorem ints_cons {x : SC} {r : List SC} {a : Int} {l : List Int} (h : ints (x :: r) = some (a :: l)) : x.den = .int .i64 a ∧ ints r = some l := by
  simp only [ints] at h
  split at h
  · rename_i b m hb hm
    injection h with h
    injection h with h1 h2
    subst h1
    subst h2
    exact ⟨asI_den hb, hm⟩
  · cases h
theorem ints_den : ∀ {xs : List SC} {l : List Int}, ints xs = some l → xs.map SC.den = l.map (Value.int .i64) := by
  intro xs
  induction xs with
  | nil => intro l h; simp only [ints, Option.some.injEq] at h; subst h; rfl
  | cons x r ih =>
    intro l h
    cases l with
    | nil =>
      simp only [ints] at h
      split at h
      · injection h with h; cases h
      · cases h
    | cons a l =>
      obtain ⟨h1, h2⟩ := ints_cons h
      simp only [List.map_cons, h1, ih h2]
theorem bools_cons {x : SC} {r : List SC} {a : Bool} {l : List Bool} (h : bools (x :: r) = some (a :: l)) : x.den = .bool a ∧ bools r = some l := by
  simp only [bools] at h
  split at h
  · rename_i b m hb hm
    injection h with h
    injection h with h1 h2
    subst h1
    subst h2
    exact ⟨asB_den hb, hm⟩
  · cases h
end Go.Proofs.Ytlkklplnomecgaa

/-
  FnExactControllerNew: for every input the Go law returns true, and what its arguments hold reads as before. Condition: none.
  (The row's step, written by program; the walk is walk_FnExactControllerNew.)
-/
import Derived.Test.YtbhfabaofhhkeaaGreatZbb
import Derived.Test.YtbhfabaofhhkeaaGreatHas
import Derived.Test.YtbhfabaofhhkeaaGreatIni
namespace Go.Proofs.YtbhfabaofhhkeaaGreat.fnExactControllerNew
open Go.ChangeShapes Go.WideShapes Go.ChangeAt Go.RowKit
set_option linter.unusedVariables false

theorem own : ownKnob Tryz.prog.godebug = none := by kernel_rfl
theorem laidOut : laidOutB Tryz.prog = true := by kernel_rfl

set_option maxRecDepth 100000 in
theorem lifted (os : Os) (started : os.Started) (H : Type) (enc : TypeId × Value → H) :
    ReturnsInHanded {} Tryz.checked os 3 .any (Rows.fnExactControllerNewSpec.pre6 enc Tryz.prog Tryz.f3 Rows.fnExactControllerNewRow.domain false) (Rows.fnExactControllerNewSpec.post enc Tryz.prog Tryz.f3 false true false false) := by
  refine returnsInHanded_of_change (C := Tryz.checked) own started (by kernel_rfl) Tryz.func3
    (ChangeSpec.witness6 (enc := enc) (C := Tryz.checked) false ⟨#[], #[.agg #[.int .i64 0, .int .i64 0, .int .i64 0, .int .i64 0, .int .i64 0, .int .i64 0, .int .i64 0, .int .i64 0, .int .i64 0, .int .i64 0, .int .i64 0, .int .i64 0, .int .i64 0, .int .i64 0, .int .i64 0, .int .i64 0, .int .i64 0, .int .i64 0, .int .i64 0, .int .i64 0, .int .i64 0, .int .i64 0, .bool false, .int .i64 0, .int .i64 0, .int .i64 0, .int .i64 0, .int .i64 0], .agg #[.int .i64 0, .int .i64 0, .int .i64 0, .int .i64 0, .int .i64 0, .slice none 0 0, .int .i64 0, .int .i64 0]], []⟩ 8 (by kernel_rfl) (by kernel_rfl) (by kernel_rfl) (by kernel_rfl)) ?_
  intro W base args ds gs before hval0 hW hcnd _
  have hval : ∀ (j : Nat) t v, Tryz.f3.params[j]? = some t → args[j]? = some v → Value.okWide Tryz.prog W .any base t v := hval0
  have hW' := hW
  obtain ⟨p, q, hA0, hV, rfl, hfz, hnd⟩ := hW
  have hA : DataW.TrodAll enc Tryz.prog W 0 (fun _ => true) true Tryz.f3.params.toList args.toList ds p := hA0
  rw [Tryz.params3] at hA hval
  obtain ⟨v0, vs0, d0, ds0, p0, q0, hargs, rfl, rfl, h0, r0⟩ := trodAll_cons hA
  obtain ⟨v1, vs1, d1, ds1, p1, q1, rfl, rfl, rfl, h1, r1⟩ := trodAll_cons r0
  obtain ⟨rfl, rfl, rfl⟩ := trodAll_nil r1
  obtain rfl : args = #[v0, v1] := by cases args; simp_all
  obtain ⟨rfl, rfl⟩ := trodVars_none hV
  have k0 := h0
  have w0 := has_of_trod (ty := (.cons (.cons .int (.cons .int (.cons .int (.cons .int .nil)))) (.cons (.cons .int (.cons .int (.cons .int (.cons .int (.cons .int (.cons .int (.cons .int (.cons .int (.cons .int (.cons .int (.cons .int (.cons .int (.cons .int (.cons .int (.cons .int (.cons .int (.cons .int .nil))))))))))))))))) (.cons (.cons .int (.cons .bool .nil)) (.cons .int (.cons .int (.cons .int (.cons (.cons .int (.cons .int .nil)) .nil)))))))) (t := 31) (by kernel_rfl) h0
  obtain ⟨a0, rfl, z0⟩ := okWide_struct Tryz.underlying31 (hval 0 31 v0 rfl rfl)
  have k1 := h1
  have w1 := has_of_trod (ty := (.cons .int (.cons .int (.cons .int (.cons .int (.cons .int (.cons (.slice .int) (.cons (.cons .int (.cons .int .nil)) .nil)))))))) (t := 36) (by kernel_rfl) h1
  obtain ⟨a1, rfl, z1⟩ := okWide_struct Tryz.underlying36 (hval 1 36 v1 rfl rfl)
  clear hA0 hval0
  refine (walk_FnExactControllerNew a0 a1 W w0 w1).mono fun e W' ⟨he, bel⟩ => ?_
  subst he
  exact ⟨_, rfl, _, _, _, [], _, [], hW', trodAll_mk1 (shut_bool Tryz.underlying4 _), (trodAll_cons_mk (Below.trod laidOut (by kernel_rfl) (of_decide_eq_true (by kernel_rfl)) k0 bel (lt_of_trod k0)) (trodAll_cons_mk (Below.trod laidOut (by kernel_rfl) (of_decide_eq_true (by kernel_rfl)) k1 bel (lt_of_trod k1)) trodAll_mk0)), rfl, bel.frame _, fun h => by cases h⟩

theorem facts : joinedFacts Tryz.prog 3 Tryz.f3 Rows.fnExactControllerNewSpec Rows.fnExactControllerNewRow = true := by
  unfold joinedFacts
  rw [mayIs, liftsIs, makeIs]
  kernel_rfl

theorem over : Rows.fnExactControllerNewRow.holds Tryz.pinned (OpenSpec.ofChange Rows.fnExactControllerNewSpec) :=
  OpenClaim.holds_of_wide 3 Tryz.f3 rfl rfl rfl rfl rfl rfl rfl ⟨rfl, rfl, rfl, rfl, rfl⟩ rfl rfl rfl rfl rfl (by kernel_rfl) Tryz.func3 facts
    (of_decide_eq_true (by kernel_rfl)) (by unfold Func.isWrapper; first | (rw [if_pos (by decide +kernel)]; kernel_rfl) | (rw [if_neg (by decide +kernel)]; exact ⟨rfl, rfl⟩))
    (fun os started H enc _ => lifted os started H enc)

theorem proved : Rows.FnExactControllerNewSaid := over
#print axioms proved
end Go.Proofs.YtbhfabaofhhkeaaGreat.fnExactControllerNew

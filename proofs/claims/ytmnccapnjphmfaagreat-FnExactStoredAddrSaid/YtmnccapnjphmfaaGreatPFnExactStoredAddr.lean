/-
  FnExactStoredAddr: for every input the Go law returns true, and what its arguments hold reads as before. Condition: none.
  (The row's step, written by program; the walk is walk_FnExactStoredAddr.)
-/
import Derived.Test.YtmnccapnjphmfaaGreatZbbp
import Derived.Test.YtmnccapnjphmfaaGreatHas
import Derived.Test.YtmnccapnjphmfaaGreatIni
namespace Go.Proofs.YtmnccapnjphmfaaGreat.fnExactStoredAddr
open Go.ChangeShapes Go.WideShapes Go.ChangeAt Go.RowKit
set_option linter.unusedVariables false

theorem own : ownKnob Tryz.prog.godebug = none := by kernel_rfl
theorem laidOut : laidOutB Tryz.prog = true := by kernel_rfl

set_option maxRecDepth 100000 in
theorem lifted (os : Os) (started : os.Started) (H : Type) (enc : TypeId × Value → H) :
    ReturnsInHanded {} Tryz.checked os 4 .any (Rows.fnExactStoredAddrSpec.pre6 enc Tryz.prog Tryz.f4 Rows.fnExactStoredAddrRow.domain false) (Rows.fnExactStoredAddrSpec.post enc Tryz.prog Tryz.f4 false true false false) := by
  refine returnsInHanded_of_change (C := Tryz.checked) own started (by kernel_rfl) Tryz.func4
    (ChangeSpec.witness6 (enc := enc) (C := Tryz.checked) false ⟨#[], #[.agg #[.int .i64 0, .int .i64 0, .int .i64 0, .int .i64 0, .int .i64 0, .int .i64 0, .int .i64 0, .int .i64 0, .int .i64 0, .int .i64 0, .int .i64 0, .int .i64 0, .int .i64 0, .int .i64 0, .int .i64 0, .int .i64 0, .int .i64 0, .int .i64 0, .int .i64 0, .int .i64 0, .int .i64 0, .int .i64 0, .bool false, .int .i64 0, .int .i64 0, .int .i64 0, .int .i64 0, .int .i64 0, .int .i64 0, .int .i64 0, .int .i64 0, .int .i64 0, .int .i64 0, .slice none 0 0, .int .i64 0, .int .i64 0, .int .i64 0, .int .i64 0, .int .i64 0, .int .i64 0, .int .i64 0, .slice none 0 0, .int .i64 0, .int .i64 0, .bool false, .int .i64 0, .slice none 0 0, .int .i64 0, .slice none 0 0, .slice none 0 0, .slice none 0 0, .slice none 0 0, .slice none 0 0, .int .i64 0, .slice none 0 0, .slice none 0 0, .int .i64 0, .bool false, .slice none 0 0, .slice none 0 0, .slice none 0 0, .slice none 0 0, .slice none 0 0, .bool false, .int .i64 0, .int .i64 0, .int .i64 0, .int .i64 0, .int .i64 0, .int .i64 0, .int .i64 0, .int .i64 0, .slice none 0 0, .slice none 0 0, .slice none 0 0], .int .i64 0], []⟩ 8 (by kernel_rfl) (by kernel_rfl) (by kernel_rfl) (by kernel_rfl)) ?_
  intro W base args ds gs before hval0 hW hcnd _
  have hval : ∀ (j : Nat) t v, Tryz.f4.params[j]? = some t → args[j]? = some v → Value.okWide Tryz.prog W .any base t v := hval0
  have hW' := hW
  obtain ⟨p, q, hA0, hV, rfl, hfz, hnd⟩ := hW
  have hA : DataW.TrodAll enc Tryz.prog W 0 (fun _ => true) true Tryz.f4.params.toList args.toList ds p := hA0
  rw [Tryz.params4] at hA hval
  obtain ⟨v0, vs0, d0, ds0, p0, q0, hargs, rfl, rfl, h0, r0⟩ := trodAll_cons hA
  obtain ⟨v1, vs1, d1, ds1, p1, q1, rfl, rfl, rfl, h1, r1⟩ := trodAll_cons r0
  obtain ⟨rfl, rfl, rfl⟩ := trodAll_nil r1
  obtain rfl : args = #[v0, v1] := by cases args; simp_all
  obtain ⟨rfl, rfl⟩ := trodVars_none hV
  have k0 := h0
  have w0 := has_of_trod (ty := (.cons (.cons (.cons .int (.cons .int (.cons .int (.cons .int .nil)))) (.cons (.cons .int (.cons .int (.cons .int (.cons .int (.cons .int (.cons .int (.cons .int (.cons .int (.cons .int (.cons .int (.cons .int (.cons .int (.cons .int (.cons .int (.cons .int (.cons .int (.cons .int .nil))))))))))))))))) (.cons (.cons .int (.cons .bool .nil)) (.cons .int (.cons .int (.cons .int (.cons (.cons .int (.cons .int .nil)) .nil))))))) (.cons (.cons (.cons .int (.cons .int (.cons .int (.cons .int (.cons .int (.cons (.slice .int) (.cons (.cons .int (.cons .int .nil)) .nil))))))) (.cons (.cons .int (.cons .int (.cons .int (.cons .int (.cons .int (.cons (.slice .int) (.cons (.cons .int (.cons .int .nil)) .nil))))))) (.cons .bool .nil))) (.cons .int (.cons (.cons (.slice (.cons .bool (.cons .int .nil))) (.cons .int .nil)) (.cons (.cons (.slice .int) (.cons (.slice .int) .nil)) (.cons (.cons (.slice (.cons (.slice .int) (.cons .bool .nil))) (.cons (.slice .int) (.cons (.slice .int) .nil))) (.cons (.cons .int (.cons (.slice .int) .nil)) (.cons (.cons (.slice .int) (.cons .int (.cons .bool .nil))) (.cons (.slice (.cons (.slice .int) (.cons (.slice .int) (.cons .int .nil)))) (.cons (.slice .int) (.cons (.slice (.cons .int (.cons .int (.cons .int .nil)))) (.cons (.slice (.cons .int (.cons .int (.cons .int (.cons .bool (.cons .int (.cons .int .nil))))))) (.cons (.slice (.cons .int (.cons .int .nil))) (.cons (.cons .bool (.cons .int (.cons .int .nil))) (.cons (.cons .int (.cons .int (.cons .int .nil))) (.cons (.cons .int (.cons .int (.cons .int .nil))) (.cons (.slice (.cons .int (.cons .int (.cons .int .nil)))) (.cons (.slice (.cons .int (.cons (.cons .int (.cons .int (.cons .int (.cons .int .nil)))) .nil))) (.cons (.slice (.cons .int (.cons .int (.cons .int (.cons .int .nil))))) .nil)))))))))))))))))))) (t := 65) (by kernel_rfl) h0
  obtain ⟨a0, rfl, z0⟩ := okWide_struct Tryz.underlying65 (hval 0 65 v0 rfl rfl)
  obtain ⟨a1, rfl, rfl, rfl, w1⟩ := open_int Tryz.underlying3 (hval 1 3 v1 rfl rfl) h1
  clear hA0 hval0
  refine (walk_FnExactStoredAddr a0 a1 W w0 (bounds_i64 w1)).mono fun e W' ⟨he, bel⟩ => ?_
  subst he
  exact ⟨_, rfl, _, _, _, [], _, [], hW', trodAll_mk1 (shut_bool Tryz.underlying4 _), (trodAll_cons_mk (Below.trod laidOut (by kernel_rfl) (of_decide_eq_true (by kernel_rfl)) k0 bel (lt_of_trod k0)) (trodAll_cons_mk (shut_int Tryz.underlying3 w1) trodAll_mk0)), rfl, bel.frame _, fun h => by cases h⟩

theorem facts : joinedFacts Tryz.prog 4 Tryz.f4 Rows.fnExactStoredAddrSpec Rows.fnExactStoredAddrRow = true := by
  unfold joinedFacts
  rw [mayIs, liftsIs, makeIs]
  kernel_rfl

theorem over : Rows.fnExactStoredAddrRow.holds Tryz.pinned (OpenSpec.ofChange Rows.fnExactStoredAddrSpec) :=
  OpenClaim.holds_of_wide 4 Tryz.f4 rfl rfl rfl rfl rfl rfl rfl ⟨rfl, rfl, rfl, rfl, rfl⟩ rfl rfl rfl rfl rfl (by kernel_rfl) Tryz.func4 facts
    (of_decide_eq_true (by kernel_rfl)) (by unfold Func.isWrapper; first | (rw [if_pos (by decide +kernel)]; kernel_rfl) | (rw [if_neg (by decide +kernel)]; exact ⟨rfl, rfl⟩))
    (fun os started H enc _ => lifted os started H enc)

theorem proved : Rows.FnExactStoredAddrSaid := over
#print axioms proved
end Go.Proofs.YtmnccapnjphmfaaGreat.fnExactStoredAddr

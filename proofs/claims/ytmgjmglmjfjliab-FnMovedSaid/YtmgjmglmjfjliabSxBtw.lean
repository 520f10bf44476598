/-
  'between', summed up.
-/
import Derived.Test.YtmgjmglmjfjliabSxP
import Derived.Test.YtmgjmglmjfjliabBtw
namespace Go.Proofs.Ytmgjmglmjfjliab
set_option linter.unusedVariables false
set_option linter.unusedSimpArgs false
open Go.RowKit
def sBtw : Sm := fun args ch k =>
  match args with
  | [.a (.c x), .a (.c y), .a (.c z)] =>
    match asI x, asI y, asI z with
    | some x, some y, some z => k (.a (.c (.bool (btw x y z)))) ch []
    | _, _, _ => False
  | _ => False
theorem sBtw_ok {f : FuncId} (hc : ∀ args w, (callFunc f args).run Try.prog w = .ok (.enter f args) w) (h : ∀ (x lo hi : Int) (w : World), Calls Try.prog f #[.int .i64 x, .int .i64 lo, .int .i64 hi] w fun e w' => e = .returned (.bool (btw x lo hi)) ∧ w = w') : SmOK Try.prog f sBtw := by
  refine smB hc fun args ch k w X h0 hs => ?_
  unfold sBtw at h0
  split at h0
  · split at h0
    · rename_i a b c ha hb hc
      refine ⟨_, h0, ?_⟩
      simp only [List.map_cons, List.map_nil, den_a, den_c, asI_den ha, asI_den hb, asI_den hc]
      exact Calls.mono (h a b c w) fun e w' ⟨he, hw⟩ => ⟨he, by rw [← hw]; exact Below.refl _ _⟩
    · exact h0.elim
  · exact h0.elim
theorem sBtwI_ok : SmOK Try.prog 25 sBtw := sBtw_ok Try.call25 fun x lo hi w => between_any x lo hi w _ rfl
theorem sBtwS_ok : SmOK Try.prog 48 sBtw := sBtw_ok Try.call48 fun x lo hi w => l01In_any x lo hi w _ rfl
end Go.Proofs.Ytmgjmglmjfjliab

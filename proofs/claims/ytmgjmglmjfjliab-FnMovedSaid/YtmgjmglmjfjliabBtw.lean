/-
  Walks of the two range tests.
-/
import Derived.Test.YtmgjmglmjfjliabRows
import Derived.Test.YtmgjmglmjfjliabBase
namespace Go.Proofs.Ytmgjmglmjfjliab
set_option linter.unusedVariables false
set_option linter.unusedSimpArgs false
open Go.RowKit

theorem between_any (x lo hi : Int) (w : World) (b : Bool) (hb : btw x lo hi = b) :
    Calls Try.prog 25 #[.int .i64 x, .int .i64 lo, .int .i64 hi] w fun e w' => e = .returned (.bool b) ∧ w = w' := by
  subst hb
  by_cases h1 : lo ≤ x
  · by_cases h2 : x ≤ hi
    · have hr := Lib.hid (btw_mk h1 h2)
      go_enter Try.func25, Try.ntmps25
      go_wp2
      go_ret
      exact ⟨by rw [hr.out]; rfl, rfl⟩
    · have hr := Lib.hid (btw_no (lo := lo) (.inr (show hi < x by omega)))
      go_enter Try.func25, Try.ntmps25
      go_wp2
      go_ret
      exact ⟨by rw [hr.out]; rfl, rfl⟩
  · have hr := Lib.hid (btw_no (hi := hi) (.inl (show x < lo by omega)))
    go_enter Try.func25, Try.ntmps25
    go_wp2
    go_ret
    exact ⟨by rw [hr.out]; rfl, rfl⟩
theorem l01In_any (x lo hi : Int) (w : World) (b : Bool) (hb : btw x lo hi = b) :
    Calls Try.prog 48 #[.int .i64 x, .int .i64 lo, .int .i64 hi] w fun e w' => e = .returned (.bool b) ∧ w = w' := by
  subst hb
  by_cases h1 : lo ≤ x
  · by_cases h2 : x ≤ hi
    · have hr := Lib.hid (btw_mk h1 h2)
      go_enter Try.func48, Try.ntmps48
      go_wp2
      go_ret
      exact ⟨by rw [hr.out]; rfl, rfl⟩
    · have hr := Lib.hid (btw_no (lo := lo) (.inr (show hi < x by omega)))
      go_enter Try.func48, Try.ntmps48
      go_wp2
      go_ret
      exact ⟨by rw [hr.out]; rfl, rfl⟩
  · have hr := Lib.hid (btw_no (hi := hi) (.inl (show x < lo by omega)))
    go_enter Try.func48, Try.ntmps48
    go_wp2
    go_ret
    exact ⟨by rw [hr.out]; rfl, rfl⟩

end Go.Proofs.Ytmgjmglmjfjliab

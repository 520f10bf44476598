/-
  The field's functions.
-/
import Derived.Test.YtmgjmglmjfjliabSxLit
import Derived.Test.YtmgjmglmjfjliabSxF1
import Derived.Test.YtmgjmglmjfjliabSxK1
namespace Go.Proofs.Ytmgjmglmjfjliab
set_option linter.unusedVariables false
set_option linter.unusedSimpArgs false
open Go.RowKit
set_option maxRecDepth 100000
set_option maxHeartbeats 8000000

theorem pickAll_all {p : Nat → Prop} : ∀ n, (∀ i, p i) → pickAll p n := fun n h => by
  induction n with
  | zero => exact True.intro
  | succ n ih => exact ⟨h n, ih⟩
def sBtwLI : Sm := inlM Try.prog {tb := []} 300 Try.f25
theorem sBtwLI_ok : SmOK Try.prog 25 sBtwLI := inlM_ok mixed (E := {tb := []}) trivial Try.func25 Try.call25 (fun _ _ _ => loopsOK_nil _ _ _)
def sBtwLS : Sm := inlM Try.prog {tb := []} 300 Try.f48
theorem sBtwLS_ok : SmOK Try.prog 48 sBtwLS := inlM_ok mixed (E := {tb := []}) trivial Try.func48 Try.call48 (fun _ _ _ => loopsOK_nil _ _ _)
def sIsLI : Sm := inlM Try.prog {tb := [(25, sBtwLI)]} 300 Try.f66
theorem sIsLI_ok : SmOK Try.prog 66 sIsLI := inlM_ok mixed (E := {tb := [(25, sBtwLI)]}) ⟨sBtwLI_ok, trivial⟩ Try.func66 Try.call66 (fun _ _ _ => loopsOK_nil _ _ _)
def sIsLS : Sm := inlM Try.prog {tb := [(48, sBtwLS)]} 300 Try.f63
theorem sIsLS_ok : SmOK Try.prog 63 sIsLS := inlM_ok mixed (E := {tb := [(48, sBtwLS)]}) ⟨sBtwLS_ok, trivial⟩ Try.func63 Try.call63 (fun _ _ _ => loopsOK_nil _ _ _)
theorem mulI_run0 : (pickAll (fun jb => exFn Try.prog {tb := [(66, sIsLI)]} 400 Try.f76 [.a (.c (.il (.ofNat 0))), .a (.c (.il (.ofNat jb)))] [] (fun v _ => v = .a (.c (.il (.ofNat (gfN 0 jb)))))) 16) = (pickAll (fun jb => (.a (.c (.il (.ofNat (gfN 0 jb)))) : SV) = .a (.c (.il (.ofNat (gfN 0 jb))))) 16) := by kernel_rfl
theorem mulI_run1 : (pickAll (fun jb => exFn Try.prog {tb := [(66, sIsLI)]} 400 Try.f76 [.a (.c (.il (.ofNat 1))), .a (.c (.il (.ofNat jb)))] [] (fun v _ => v = .a (.c (.il (.ofNat (gfN 1 jb)))))) 16) = (pickAll (fun jb => (.a (.c (.il (.ofNat (gfN 1 jb)))) : SV) = .a (.c (.il (.ofNat (gfN 1 jb))))) 16) := by kernel_rfl
theorem mulI_run2 : (pickAll (fun jb => exFn Try.prog {tb := [(66, sIsLI)]} 400 Try.f76 [.a (.c (.il (.ofNat 2))), .a (.c (.il (.ofNat jb)))] [] (fun v _ => v = .a (.c (.il (.ofNat (gfN 2 jb)))))) 16) = (pickAll (fun jb => (.a (.c (.il (.ofNat (gfN 2 jb)))) : SV) = .a (.c (.il (.ofNat (gfN 2 jb))))) 16) := by kernel_rfl
theorem mulI_run3 : (pickAll (fun jb => exFn Try.prog {tb := [(66, sIsLI)]} 400 Try.f76 [.a (.c (.il (.ofNat 3))), .a (.c (.il (.ofNat jb)))] [] (fun v _ => v = .a (.c (.il (.ofNat (gfN 3 jb)))))) 16) = (pickAll (fun jb => (.a (.c (.il (.ofNat (gfN 3 jb)))) : SV) = .a (.c (.il (.ofNat (gfN 3 jb))))) 16) := by kernel_rfl
theorem mulI_run4 : (pickAll (fun jb => exFn Try.prog {tb := [(66, sIsLI)]} 400 Try.f76 [.a (.c (.il (.ofNat 4))), .a (.c (.il (.ofNat jb)))] [] (fun v _ => v = .a (.c (.il (.ofNat (gfN 4 jb)))))) 16) = (pickAll (fun jb => (.a (.c (.il (.ofNat (gfN 4 jb)))) : SV) = .a (.c (.il (.ofNat (gfN 4 jb))))) 16) := by kernel_rfl
theorem mulI_run5 : (pickAll (fun jb => exFn Try.prog {tb := [(66, sIsLI)]} 400 Try.f76 [.a (.c (.il (.ofNat 5))), .a (.c (.il (.ofNat jb)))] [] (fun v _ => v = .a (.c (.il (.ofNat (gfN 5 jb)))))) 16) = (pickAll (fun jb => (.a (.c (.il (.ofNat (gfN 5 jb)))) : SV) = .a (.c (.il (.ofNat (gfN 5 jb))))) 16) := by kernel_rfl
theorem mulI_run6 : (pickAll (fun jb => exFn Try.prog {tb := [(66, sIsLI)]} 400 Try.f76 [.a (.c (.il (.ofNat 6))), .a (.c (.il (.ofNat jb)))] [] (fun v _ => v = .a (.c (.il (.ofNat (gfN 6 jb)))))) 16) = (pickAll (fun jb => (.a (.c (.il (.ofNat (gfN 6 jb)))) : SV) = .a (.c (.il (.ofNat (gfN 6 jb))))) 16) := by kernel_rfl
theorem mulI_run7 : (pickAll (fun jb => exFn Try.prog {tb := [(66, sIsLI)]} 400 Try.f76 [.a (.c (.il (.ofNat 7))), .a (.c (.il (.ofNat jb)))] [] (fun v _ => v = .a (.c (.il (.ofNat (gfN 7 jb)))))) 16) = (pickAll (fun jb => (.a (.c (.il (.ofNat (gfN 7 jb)))) : SV) = .a (.c (.il (.ofNat (gfN 7 jb))))) 16) := by kernel_rfl
theorem mulI_run8 : (pickAll (fun jb => exFn Try.prog {tb := [(66, sIsLI)]} 400 Try.f76 [.a (.c (.il (.ofNat 8))), .a (.c (.il (.ofNat jb)))] [] (fun v _ => v = .a (.c (.il (.ofNat (gfN 8 jb)))))) 16) = (pickAll (fun jb => (.a (.c (.il (.ofNat (gfN 8 jb)))) : SV) = .a (.c (.il (.ofNat (gfN 8 jb))))) 16) := by kernel_rfl
theorem mulI_run9 : (pickAll (fun jb => exFn Try.prog {tb := [(66, sIsLI)]} 400 Try.f76 [.a (.c (.il (.ofNat 9))), .a (.c (.il (.ofNat jb)))] [] (fun v _ => v = .a (.c (.il (.ofNat (gfN 9 jb)))))) 16) = (pickAll (fun jb => (.a (.c (.il (.ofNat (gfN 9 jb)))) : SV) = .a (.c (.il (.ofNat (gfN 9 jb))))) 16) := by kernel_rfl
theorem mulI_run10 : (pickAll (fun jb => exFn Try.prog {tb := [(66, sIsLI)]} 400 Try.f76 [.a (.c (.il (.ofNat 10))), .a (.c (.il (.ofNat jb)))] [] (fun v _ => v = .a (.c (.il (.ofNat (gfN 10 jb)))))) 16) = (pickAll (fun jb => (.a (.c (.il (.ofNat (gfN 10 jb)))) : SV) = .a (.c (.il (.ofNat (gfN 10 jb))))) 16) := by kernel_rfl
theorem mulI_run11 : (pickAll (fun jb => exFn Try.prog {tb := [(66, sIsLI)]} 400 Try.f76 [.a (.c (.il (.ofNat 11))), .a (.c (.il (.ofNat jb)))] [] (fun v _ => v = .a (.c (.il (.ofNat (gfN 11 jb)))))) 16) = (pickAll (fun jb => (.a (.c (.il (.ofNat (gfN 11 jb)))) : SV) = .a (.c (.il (.ofNat (gfN 11 jb))))) 16) := by kernel_rfl
theorem mulI_run12 : (pickAll (fun jb => exFn Try.prog {tb := [(66, sIsLI)]} 400 Try.f76 [.a (.c (.il (.ofNat 12))), .a (.c (.il (.ofNat jb)))] [] (fun v _ => v = .a (.c (.il (.ofNat (gfN 12 jb)))))) 16) = (pickAll (fun jb => (.a (.c (.il (.ofNat (gfN 12 jb)))) : SV) = .a (.c (.il (.ofNat (gfN 12 jb))))) 16) := by kernel_rfl
theorem mulI_run13 : (pickAll (fun jb => exFn Try.prog {tb := [(66, sIsLI)]} 400 Try.f76 [.a (.c (.il (.ofNat 13))), .a (.c (.il (.ofNat jb)))] [] (fun v _ => v = .a (.c (.il (.ofNat (gfN 13 jb)))))) 16) = (pickAll (fun jb => (.a (.c (.il (.ofNat (gfN 13 jb)))) : SV) = .a (.c (.il (.ofNat (gfN 13 jb))))) 16) := by kernel_rfl
theorem mulI_run14 : (pickAll (fun jb => exFn Try.prog {tb := [(66, sIsLI)]} 400 Try.f76 [.a (.c (.il (.ofNat 14))), .a (.c (.il (.ofNat jb)))] [] (fun v _ => v = .a (.c (.il (.ofNat (gfN 14 jb)))))) 16) = (pickAll (fun jb => (.a (.c (.il (.ofNat (gfN 14 jb)))) : SV) = .a (.c (.il (.ofNat (gfN 14 jb))))) 16) := by kernel_rfl
theorem mulI_run15 : (pickAll (fun jb => exFn Try.prog {tb := [(66, sIsLI)]} 400 Try.f76 [.a (.c (.il (.ofNat 15))), .a (.c (.il (.ofNat jb)))] [] (fun v _ => v = .a (.c (.il (.ofNat (gfN 15 jb)))))) 16) = (pickAll (fun jb => (.a (.c (.il (.ofNat (gfN 15 jb)))) : SV) = .a (.c (.il (.ofNat (gfN 15 jb))))) 16) := by kernel_rfl
theorem mulI_runs (ja : Nat) (hja : ja < 16) : pickAll (fun jb => exFn Try.prog {tb := [(66, sIsLI)]} 400 Try.f76 [.a (.c (.il (.ofNat ja))), .a (.c (.il (.ofNat jb)))] [] (fun v _ => v = .a (.c (.il (.ofNat (gfN ja jb)))))) 16 := by
  match ja, hja with
  | 0, _ => exact @Eq.mpr _ _ mulI_run0 (pickAll_all _ (fun jb => rfl))
  | 1, _ => exact @Eq.mpr _ _ mulI_run1 (pickAll_all _ (fun jb => rfl))
  | 2, _ => exact @Eq.mpr _ _ mulI_run2 (pickAll_all _ (fun jb => rfl))
  | 3, _ => exact @Eq.mpr _ _ mulI_run3 (pickAll_all _ (fun jb => rfl))
  | 4, _ => exact @Eq.mpr _ _ mulI_run4 (pickAll_all _ (fun jb => rfl))
  | 5, _ => exact @Eq.mpr _ _ mulI_run5 (pickAll_all _ (fun jb => rfl))
  | 6, _ => exact @Eq.mpr _ _ mulI_run6 (pickAll_all _ (fun jb => rfl))
  | 7, _ => exact @Eq.mpr _ _ mulI_run7 (pickAll_all _ (fun jb => rfl))
  | 8, _ => exact @Eq.mpr _ _ mulI_run8 (pickAll_all _ (fun jb => rfl))
  | 9, _ => exact @Eq.mpr _ _ mulI_run9 (pickAll_all _ (fun jb => rfl))
  | 10, _ => exact @Eq.mpr _ _ mulI_run10 (pickAll_all _ (fun jb => rfl))
  | 11, _ => exact @Eq.mpr _ _ mulI_run11 (pickAll_all _ (fun jb => rfl))
  | 12, _ => exact @Eq.mpr _ _ mulI_run12 (pickAll_all _ (fun jb => rfl))
  | 13, _ => exact @Eq.mpr _ _ mulI_run13 (pickAll_all _ (fun jb => rfl))
  | 14, _ => exact @Eq.mpr _ _ mulI_run14 (pickAll_all _ (fun jb => rfl))
  | 15, _ => exact @Eq.mpr _ _ mulI_run15 (pickAll_all _ (fun jb => rfl))
  | n + 16, h => exact absurd h (by omega)
theorem mulI_lit (ja : Nat) (jb : Nat) (hja : ja < 16) (hjb : jb < 16) (w : World) : Calls Try.prog 76 #[SC.den (.il (.ofNat ja)), SC.den (.il (.ofNat jb))] w fun e w' => e = .returned ((.a (.c (.il (.ofNat (gfN ja jb)))) : SV)).den ∧ Below w.heap.size w w' := by
  refine fn_ok mixed (E := {tb := [(66, sIsLI)]}) ⟨sIsLI_ok, trivial⟩ Try.func76 (fun _ _ => loopsOK_nil _ _ _) (pickAll_get (mulI_runs ja hja) hjb) (HS.start w (fun _ => False)) (fun v ch' w' hv hs' => ⟨by rw [hv], hs'.below⟩)
theorem mulI_any (a b : Int) (w : World) (ha : el a) (hb : el b) : Calls Try.prog 76 #[.int .i64 a, .int .i64 b] w fun e w' => e = .returned (.int .i64 (gfM a b)) ∧ Below w.heap.size w w' := by
  obtain ⟨m, rfl⟩ := Int.eq_ofNat_of_zero_le ha.1
  obtain ⟨n, rfl⟩ := Int.eq_ofNat_of_zero_le hb.1
  exact mulI_lit m n (by omega) (by omega) w
theorem mulS_run0 : (pickAll (fun jb => exFn Try.prog {tb := [(63, sIsLS)]} 400 Try.f64 [.a (.c (.il (.ofNat 0))), .a (.c (.il (.ofNat jb)))] [] (fun v _ => v = .a (.c (.il (.ofNat (gfN 0 jb)))))) 16) = (pickAll (fun jb => (.a (.c (.il (.ofNat (gfN 0 jb)))) : SV) = .a (.c (.il (.ofNat (gfN 0 jb))))) 16) := by kernel_rfl
theorem mulS_run1 : (pickAll (fun jb => exFn Try.prog {tb := [(63, sIsLS)]} 400 Try.f64 [.a (.c (.il (.ofNat 1))), .a (.c (.il (.ofNat jb)))] [] (fun v _ => v = .a (.c (.il (.ofNat (gfN 1 jb)))))) 16) = (pickAll (fun jb => (.a (.c (.il (.ofNat (gfN 1 jb)))) : SV) = .a (.c (.il (.ofNat (gfN 1 jb))))) 16) := by kernel_rfl
theorem mulS_run2 : (pickAll (fun jb => exFn Try.prog {tb := [(63, sIsLS)]} 400 Try.f64 [.a (.c (.il (.ofNat 2))), .a (.c (.il (.ofNat jb)))] [] (fun v _ => v = .a (.c (.il (.ofNat (gfN 2 jb)))))) 16) = (pickAll (fun jb => (.a (.c (.il (.ofNat (gfN 2 jb)))) : SV) = .a (.c (.il (.ofNat (gfN 2 jb))))) 16) := by kernel_rfl
theorem mulS_run3 : (pickAll (fun jb => exFn Try.prog {tb := [(63, sIsLS)]} 400 Try.f64 [.a (.c (.il (.ofNat 3))), .a (.c (.il (.ofNat jb)))] [] (fun v _ => v = .a (.c (.il (.ofNat (gfN 3 jb)))))) 16) = (pickAll (fun jb => (.a (.c (.il (.ofNat (gfN 3 jb)))) : SV) = .a (.c (.il (.ofNat (gfN 3 jb))))) 16) := by kernel_rfl
theorem mulS_run4 : (pickAll (fun jb => exFn Try.prog {tb := [(63, sIsLS)]} 400 Try.f64 [.a (.c (.il (.ofNat 4))), .a (.c (.il (.ofNat jb)))] [] (fun v _ => v = .a (.c (.il (.ofNat (gfN 4 jb)))))) 16) = (pickAll (fun jb => (.a (.c (.il (.ofNat (gfN 4 jb)))) : SV) = .a (.c (.il (.ofNat (gfN 4 jb))))) 16) := by kernel_rfl
theorem mulS_run5 : (pickAll (fun jb => exFn Try.prog {tb := [(63, sIsLS)]} 400 Try.f64 [.a (.c (.il (.ofNat 5))), .a (.c (.il (.ofNat jb)))] [] (fun v _ => v = .a (.c (.il (.ofNat (gfN 5 jb)))))) 16) = (pickAll (fun jb => (.a (.c (.il (.ofNat (gfN 5 jb)))) : SV) = .a (.c (.il (.ofNat (gfN 5 jb))))) 16) := by kernel_rfl
theorem mulS_run6 : (pickAll (fun jb => exFn Try.prog {tb := [(63, sIsLS)]} 400 Try.f64 [.a (.c (.il (.ofNat 6))), .a (.c (.il (.ofNat jb)))] [] (fun v _ => v = .a (.c (.il (.ofNat (gfN 6 jb)))))) 16) = (pickAll (fun jb => (.a (.c (.il (.ofNat (gfN 6 jb)))) : SV) = .a (.c (.il (.ofNat (gfN 6 jb))))) 16) := by kernel_rfl
theorem mulS_run7 : (pickAll (fun jb => exFn Try.prog {tb := [(63, sIsLS)]} 400 Try.f64 [.a (.c (.il (.ofNat 7))), .a (.c (.il (.ofNat jb)))] [] (fun v _ => v = .a (.c (.il (.ofNat (gfN 7 jb)))))) 16) = (pickAll (fun jb => (.a (.c (.il (.ofNat (gfN 7 jb)))) : SV) = .a (.c (.il (.ofNat (gfN 7 jb))))) 16) := by kernel_rfl
theorem mulS_run8 : (pickAll (fun jb => exFn Try.prog {tb := [(63, sIsLS)]} 400 Try.f64 [.a (.c (.il (.ofNat 8))), .a (.c (.il (.ofNat jb)))] [] (fun v _ => v = .a (.c (.il (.ofNat (gfN 8 jb)))))) 16) = (pickAll (fun jb => (.a (.c (.il (.ofNat (gfN 8 jb)))) : SV) = .a (.c (.il (.ofNat (gfN 8 jb))))) 16) := by kernel_rfl
theorem mulS_run9 : (pickAll (fun jb => exFn Try.prog {tb := [(63, sIsLS)]} 400 Try.f64 [.a (.c (.il (.ofNat 9))), .a (.c (.il (.ofNat jb)))] [] (fun v _ => v = .a (.c (.il (.ofNat (gfN 9 jb)))))) 16) = (pickAll (fun jb => (.a (.c (.il (.ofNat (gfN 9 jb)))) : SV) = .a (.c (.il (.ofNat (gfN 9 jb))))) 16) := by kernel_rfl
theorem mulS_run10 : (pickAll (fun jb => exFn Try.prog {tb := [(63, sIsLS)]} 400 Try.f64 [.a (.c (.il (.ofNat 10))), .a (.c (.il (.ofNat jb)))] [] (fun v _ => v = .a (.c (.il (.ofNat (gfN 10 jb)))))) 16) = (pickAll (fun jb => (.a (.c (.il (.ofNat (gfN 10 jb)))) : SV) = .a (.c (.il (.ofNat (gfN 10 jb))))) 16) := by kernel_rfl
theorem mulS_run11 : (pickAll (fun jb => exFn Try.prog {tb := [(63, sIsLS)]} 400 Try.f64 [.a (.c (.il (.ofNat 11))), .a (.c (.il (.ofNat jb)))] [] (fun v _ => v = .a (.c (.il (.ofNat (gfN 11 jb)))))) 16) = (pickAll (fun jb => (.a (.c (.il (.ofNat (gfN 11 jb)))) : SV) = .a (.c (.il (.ofNat (gfN 11 jb))))) 16) := by kernel_rfl
theorem mulS_run12 : (pickAll (fun jb => exFn Try.prog {tb := [(63, sIsLS)]} 400 Try.f64 [.a (.c (.il (.ofNat 12))), .a (.c (.il (.ofNat jb)))] [] (fun v _ => v = .a (.c (.il (.ofNat (gfN 12 jb)))))) 16) = (pickAll (fun jb => (.a (.c (.il (.ofNat (gfN 12 jb)))) : SV) = .a (.c (.il (.ofNat (gfN 12 jb))))) 16) := by kernel_rfl
theorem mulS_run13 : (pickAll (fun jb => exFn Try.prog {tb := [(63, sIsLS)]} 400 Try.f64 [.a (.c (.il (.ofNat 13))), .a (.c (.il (.ofNat jb)))] [] (fun v _ => v = .a (.c (.il (.ofNat (gfN 13 jb)))))) 16) = (pickAll (fun jb => (.a (.c (.il (.ofNat (gfN 13 jb)))) : SV) = .a (.c (.il (.ofNat (gfN 13 jb))))) 16) := by kernel_rfl
theorem mulS_run14 : (pickAll (fun jb => exFn Try.prog {tb := [(63, sIsLS)]} 400 Try.f64 [.a (.c (.il (.ofNat 14))), .a (.c (.il (.ofNat jb)))] [] (fun v _ => v = .a (.c (.il (.ofNat (gfN 14 jb)))))) 16) = (pickAll (fun jb => (.a (.c (.il (.ofNat (gfN 14 jb)))) : SV) = .a (.c (.il (.ofNat (gfN 14 jb))))) 16) := by kernel_rfl
theorem mulS_run15 : (pickAll (fun jb => exFn Try.prog {tb := [(63, sIsLS)]} 400 Try.f64 [.a (.c (.il (.ofNat 15))), .a (.c (.il (.ofNat jb)))] [] (fun v _ => v = .a (.c (.il (.ofNat (gfN 15 jb)))))) 16) = (pickAll (fun jb => (.a (.c (.il (.ofNat (gfN 15 jb)))) : SV) = .a (.c (.il (.ofNat (gfN 15 jb))))) 16) := by kernel_rfl
theorem mulS_runs (ja : Nat) (hja : ja < 16) : pickAll (fun jb => exFn Try.prog {tb := [(63, sIsLS)]} 400 Try.f64 [.a (.c (.il (.ofNat ja))), .a (.c (.il (.ofNat jb)))] [] (fun v _ => v = .a (.c (.il (.ofNat (gfN ja jb)))))) 16 := by
  match ja, hja with
  | 0, _ => exact @Eq.mpr _ _ mulS_run0 (pickAll_all _ (fun jb => rfl))
  | 1, _ => exact @Eq.mpr _ _ mulS_run1 (pickAll_all _ (fun jb => rfl))
  | 2, _ => exact @Eq.mpr _ _ mulS_run2 (pickAll_all _ (fun jb => rfl))
  | 3, _ => exact @Eq.mpr _ _ mulS_run3 (pickAll_all _ (fun jb => rfl))
  | 4, _ => exact @Eq.mpr _ _ mulS_run4 (pickAll_all _ (fun jb => rfl))
  | 5, _ => exact @Eq.mpr _ _ mulS_run5 (pickAll_all _ (fun jb => rfl))
  | 6, _ => exact @Eq.mpr _ _ mulS_run6 (pickAll_all _ (fun jb => rfl))
  | 7, _ => exact @Eq.mpr _ _ mulS_run7 (pickAll_all _ (fun jb => rfl))
  | 8, _ => exact @Eq.mpr _ _ mulS_run8 (pickAll_all _ (fun jb => rfl))
  | 9, _ => exact @Eq.mpr _ _ mulS_run9 (pickAll_all _ (fun jb => rfl))
  | 10, _ => exact @Eq.mpr _ _ mulS_run10 (pickAll_all _ (fun jb => rfl))
  | 11, _ => exact @Eq.mpr _ _ mulS_run11 (pickAll_all _ (fun jb => rfl))
  | 12, _ => exact @Eq.mpr _ _ mulS_run12 (pickAll_all _ (fun jb => rfl))
  | 13, _ => exact @Eq.mpr _ _ mulS_run13 (pickAll_all _ (fun jb => rfl))
  | 14, _ => exact @Eq.mpr _ _ mulS_run14 (pickAll_all _ (fun jb => rfl))
  | 15, _ => exact @Eq.mpr _ _ mulS_run15 (pickAll_all _ (fun jb => rfl))
  | n + 16, h => exact absurd h (by omega)
theorem mulS_lit (ja : Nat) (jb : Nat) (hja : ja < 16) (hjb : jb < 16) (w : World) : Calls Try.prog 64 #[SC.den (.il (.ofNat ja)), SC.den (.il (.ofNat jb))] w fun e w' => e = .returned ((.a (.c (.il (.ofNat (gfN ja jb)))) : SV)).den ∧ Below w.heap.size w w' := by
  refine fn_ok mixed (E := {tb := [(63, sIsLS)]}) ⟨sIsLS_ok, trivial⟩ Try.func64 (fun _ _ => loopsOK_nil _ _ _) (pickAll_get (mulS_runs ja hja) hjb) (HS.start w (fun _ => False)) (fun v ch' w' hv hs' => ⟨by rw [hv], hs'.below⟩)
theorem mulS_any (a b : Int) (w : World) (ha : el a) (hb : el b) : Calls Try.prog 64 #[.int .i64 a, .int .i64 b] w fun e w' => e = .returned (.int .i64 (gfM a b)) ∧ Below w.heap.size w w' := by
  obtain ⟨m, rfl⟩ := Int.eq_ofNat_of_zero_le ha.1
  obtain ⟨n, rfl⟩ := Int.eq_ofNat_of_zero_le hb.1
  exact mulS_lit m n (by omega) (by omega) w
def sMul : Sm := fun args ch k =>
  match args with
  | [.a (.c x), .a (.c y)] =>
    match litN x, litN y with
    | some m, some n =>
      match Nat.blt m 16, Nat.blt n 16 with
      | true, true => k (.a (.c (.il (.ofNat (gfN m n))))) ch []
      | _, _ => False
    | _, _ =>
      match asI x, asI y with
      | some a, some b => (el a ∧ el b) ∧ ∀ z : Int, z = gfM a b → k (.a (.c (.int z))) ch []
      | _, _ => False
  | _ => False
theorem sMul_I : SmOK Try.prog 76 sMul := by
  refine smB Try.call76 fun args ch k w X h0 hs => ?_
  unfold sMul at h0
  split at h0
  · rename_i x y
    split at h0
    · rename_i m n hm hn
      split at h0
      · rename_i h1 h2
        refine ⟨_, h0, ?_⟩
        simp only [List.map_cons, List.map_nil, den_a, den_c, litN_den hm, litN_den hn]
        exact mulI_lit m n (bltN h1) (bltN h2) w
      · exact h0.elim
    · split at h0
      · rename_i a b ha hb
        refine ⟨_, h0.2 _ rfl, ?_⟩
        simp only [List.map_cons, List.map_nil, den_a, den_c, asI_den ha, asI_den hb]
        exact mulI_any a b w h0.1.1 h0.1.2
      · exact h0.elim
  · exact h0.elim
theorem sMul_S : SmOK Try.prog 64 sMul := by
  refine smB Try.call64 fun args ch k w X h0 hs => ?_
  unfold sMul at h0
  split at h0
  · rename_i x y
    split at h0
    · rename_i m n hm hn
      split at h0
      · rename_i h1 h2
        refine ⟨_, h0, ?_⟩
        simp only [List.map_cons, List.map_nil, den_a, den_c, litN_den hm, litN_den hn]
        exact mulS_lit m n (bltN h1) (bltN h2) w
      · exact h0.elim
    · split at h0
      · rename_i a b ha hb
        refine ⟨_, h0.2 _ rfl, ?_⟩
        simp only [List.map_cons, List.map_nil, den_a, den_c, asI_den ha, asI_den hb]
        exact mulS_any a b w h0.1.1 h0.1.2
      · exact h0.elim
  · exact h0.elim
theorem powI_run : (pickAll (fun ja => exFn Try.prog {tb := [(66, sIsLI), (25, sBtwLI), (76, sMul)]} 400 Try.f83 [.a (.c (.il 2)), .a (.c (.il (.ofNat ja)))] [] (fun v _ => v = .a (.c (.il (.ofNat (pwN ja)))))) 21) = (pickAll (fun ja => (.a (.c (.il (.ofNat (pwN ja)))) : SV) = .a (.c (.il (.ofNat (pwN ja))))) 21) := by kernel_rfl
theorem powI_lit (ja : Nat) (hja : ja < 21) (w : World) : Calls Try.prog 83 #[SC.den (.il 2), SC.den (.il (.ofNat ja))] w fun e w' => e = .returned ((.a (.c (.il (.ofNat (pwN ja)))) : SV)).den ∧ Below w.heap.size w w' := by
  refine fn_ok mixed (E := {tb := [(66, sIsLI), (25, sBtwLI), (76, sMul)]}) ⟨sIsLI_ok, sBtwLI_ok, sMul_I, trivial⟩ Try.func83 (fun _ _ => loopsOK_nil _ _ _) (pickAll_get (@Eq.mpr _ _ powI_run (pickAll_all _ (fun ja => rfl))) hja) (HS.start w (fun _ => False)) (fun v ch' w' hv hs' => ⟨by rw [hv], hs'.below⟩)
theorem powS_run : (pickAll (fun ja => exFn Try.prog {tb := [(63, sIsLS), (48, sBtwLS), (64, sMul)]} 400 Try.f65 [.a (.c (.il 2)), .a (.c (.il (.ofNat ja)))] [] (fun v _ => v = .a (.c (.il (.ofNat (pwN ja)))))) 21) = (pickAll (fun ja => (.a (.c (.il (.ofNat (pwN ja)))) : SV) = .a (.c (.il (.ofNat (pwN ja))))) 21) := by kernel_rfl
theorem powS_lit (ja : Nat) (hja : ja < 21) (w : World) : Calls Try.prog 65 #[SC.den (.il 2), SC.den (.il (.ofNat ja))] w fun e w' => e = .returned ((.a (.c (.il (.ofNat (pwN ja)))) : SV)).den ∧ Below w.heap.size w w' := by
  refine fn_ok mixed (E := {tb := [(63, sIsLS), (48, sBtwLS), (64, sMul)]}) ⟨sIsLS_ok, sBtwLS_ok, sMul_S, trivial⟩ Try.func65 (fun _ _ => loopsOK_nil _ _ _) (pickAll_get (@Eq.mpr _ _ powS_run (pickAll_all _ (fun ja => rfl))) hja) (HS.start w (fun _ => False)) (fun v ch' w' hv hs' => ⟨by rw [hv], hs'.below⟩)
def sPow : Sm := fun args ch k =>
  match args with
  | [.a (.c x), .a (.c y)] =>
    match litN x, litN y with
    | some m, some n =>
      match Nat.beq m 2, Nat.blt n 21 with
      | true, true => k (.a (.c (.il (.ofNat (pwN n))))) ch []
      | _, _ => False
    | _, _ => False
  | _ => False
theorem sPow_I : SmOK Try.prog 83 sPow := by
  refine smB Try.call83 fun args ch k w X h0 hs => ?_
  unfold sPow at h0
  split at h0
  · rename_i x y
    split at h0
    · rename_i m n hm hn
      split at h0
      · rename_i h1 h2
        refine ⟨_, h0, ?_⟩
        have e := beqN h1
        subst e
        simp only [List.map_cons, List.map_nil, den_a, den_c, litN_den hm, litN_den hn]
        exact powI_lit n (bltN h2) w
      · exact h0.elim
    · exact h0.elim
  · exact h0.elim
theorem sPow_S : SmOK Try.prog 65 sPow := by
  refine smB Try.call65 fun args ch k w X h0 hs => ?_
  unfold sPow at h0
  split at h0
  · rename_i x y
    split at h0
    · rename_i m n hm hn
      split at h0
      · rename_i h1 h2
        refine ⟨_, h0, ?_⟩
        have e := beqN h1
        subst e
        simp only [List.map_cons, List.map_nil, den_a, den_c, litN_den hm, litN_den hn]
        exact powS_lit n (bltN h2) w
      · exact h0.elim
    · exact h0.elim
  · exact h0.elim
theorem inv_run : (pickAll (fun ja => exFn Try.prog {tb := [(76, sMul)]} 400 Try.f75 [.a (.c (.il (.ofNat ja)))] [] (fun v _ => v = .a (.c (.il (invZ ja))))) 16) = (pickAll (fun ja => (.a (.c (.il (invZ ja))) : SV) = .a (.c (.il (invZ ja)))) 16) := by kernel_rfl
theorem inv_lit (ja : Nat) (hja : ja < 16) (w : World) : Calls Try.prog 75 #[SC.den (.il (.ofNat ja))] w fun e w' => e = .returned ((.a (.c (.il (invZ ja))) : SV)).den ∧ Below w.heap.size w w' := by
  refine fn_ok mixed (E := {tb := [(76, sMul)]}) ⟨sMul_I, trivial⟩ Try.func75 (fun _ _ => loopsOK_nil _ _ _) (pickAll_get (@Eq.mpr _ _ inv_run (pickAll_all _ (fun ja => rfl))) hja) (HS.start w (fun _ => False)) (fun v ch' w' hv hs' => ⟨by rw [hv], hs'.below⟩)
def sInv : Sm := fun args ch k =>
  match args with
  | [.a (.c x)] =>
    match litN x with
    | some m =>
      match Nat.blt m 16 with
      | true => k (.a (.c (.il (invZ m)))) ch []
      | false => False
    | none =>
      match asI x with
      | some a => el a ∧ ∀ z : Int, z = gfInv a → k (.a (.c (.int z))) ch []
      | none => False
  | _ => False
theorem sInv_ok : SmOK Try.prog 75 sInv := by
  refine smB Try.call75 fun args ch k w X h0 hs => ?_
  unfold sInv at h0
  split at h0
  · rename_i x
    split at h0
    · rename_i m hm
      split at h0
      · rename_i h1
        refine ⟨_, h0, ?_⟩
        simp only [List.map_cons, List.map_nil, den_a, den_c, litN_den hm]
        exact inv_lit m (bltN h1) w
      · exact h0.elim
    · split at h0
      · rename_i a ha
        refine ⟨_, h0.2 _ rfl, ?_⟩
        simp only [List.map_cons, List.map_nil, den_a, den_c, asI_den ha]
        obtain ⟨m, rfl⟩ := Int.eq_ofNat_of_zero_le h0.1.1
        have h2 := h0.1.2
        exact inv_lit m (by omega) w
      · exact h0.elim
  · exact h0.elim
theorem log_run : (pickAll (fun ja => exFn Try.prog {tb := [(83, sPow)]} 400 Try.f78 [.a (.c (.il (.ofNat ja)))] [] (fun v _ => v = .a (.c (.il (logZ ja))))) 16) = (pickAll (fun ja => (.a (.c (.il (logZ ja))) : SV) = .a (.c (.il (logZ ja)))) 16) := by kernel_rfl
theorem log_lit (ja : Nat) (hja : ja < 16) (w : World) : Calls Try.prog 78 #[SC.den (.il (.ofNat ja))] w fun e w' => e = .returned ((.a (.c (.il (logZ ja))) : SV)).den ∧ Below w.heap.size w w' := by
  refine fn_ok mixed (E := {tb := [(83, sPow)]}) ⟨sPow_I, trivial⟩ Try.func78 (fun _ _ => loopsOK_nil _ _ _) (pickAll_get (@Eq.mpr _ _ log_run (pickAll_all _ (fun ja => rfl))) hja) (HS.start w (fun _ => False)) (fun v ch' w' hv hs' => ⟨by rw [hv], hs'.below⟩)
def sLog : Sm := fun args ch k =>
  match args with
  | [.a (.c x)] =>
    match litN x with
    | some m =>
      match Nat.blt m 16 with
      | true => k (.a (.c (.il (logZ m)))) ch []
      | false => False
    | none =>
      match asI x with
      | some a => el a ∧ ∀ z : Int, z = gfLog a → k (.a (.c (.int z))) ch []
      | none => False
  | _ => False
theorem sLog_ok : SmOK Try.prog 78 sLog := by
  refine smB Try.call78 fun args ch k w X h0 hs => ?_
  unfold sLog at h0
  split at h0
  · rename_i x
    split at h0
    · rename_i m hm
      split at h0
      · rename_i h1
        refine ⟨_, h0, ?_⟩
        simp only [List.map_cons, List.map_nil, den_a, den_c, litN_den hm]
        exact log_lit m (bltN h1) w
      · exact h0.elim
    · split at h0
      · rename_i a ha
        refine ⟨_, h0.2 _ rfl, ?_⟩
        simp only [List.map_cons, List.map_nil, den_a, den_c, asI_den ha]
        obtain ⟨m, rfl⟩ := Int.eq_ofNat_of_zero_le h0.1.1
        have h2 := h0.1.2
        exact log_lit m (by omega) w
      · exact h0.elim
  · exact h0.elim
end Go.Proofs.Ytmgjmglmjfjliab

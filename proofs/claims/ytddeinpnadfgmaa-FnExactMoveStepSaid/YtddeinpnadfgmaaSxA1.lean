/-
  Cells copied.
-/
import Derived.Test.YtddeinpnadfgmaaSxA0
namespace Go.Proofs.Ytddeinpnadfgmaa
set_option linter.unusedVariables false
set_option linter.unusedSimpArgs false
open Go.RowKit
set_option maxRecDepth 100000
set_option maxHeartbeats 8000000

theorem cpcI_T (cSymbolsO : Option Addr) (cSymbolsN cSymbolsC : Nat) (cSymbolsg0 : Nat → Int) (cPoison : Bool) : (exFn Try.prog {tb := []} 400 Try.f71 ([.a (.agg [.sl 0 cSymbolsO cSymbolsN cSymbolsC, .bool cPoison])]) ([.row ⟨false, cSymbolsO, 0, 1, cSymbolsN, 0, [fun i => .int (cSymbolsg0 i)]⟩]) (fun v ch => ∃ (ro0 : Option Addr) (rc0 : Nat), OutR v ch (.agg #[.slice ro0 (cSymbolsN) rc0, .bool (cPoison)]) [.row ⟨true, ro0, 3, 1, cSymbolsN, rc0, [fun i => .int (cSymbolsg0 i)]⟩])) = (
  (∀ b0 : Nat,
 (∀ b1 : Nat,
 (∀ b2 : Nat,
 (b0 = b0 ∧
 ((b2 = b2 ∧
 ((cSymbolsO = cSymbolsO ∧
 cSymbolsN = cSymbolsN) ∧
 ((∀ i3 : Nat,
 true = true) ∧
 (apC 0 cSymbolsN 8)))) ∧
 (∀ ao4 : (Option Addr),
 (∀ cap5 : Nat,
 (b0 = b0 ∧
 (b0 = b0 ∧
 (b1 = b1 ∧
 (b1 = b1 ∧
 (∃ ro06 : (Option Addr), (∃ rc07 : Nat, ((Wa [(Ws ao4 cSymbolsN cap5), (Wb cPoison)]) = (Wa [(Ws ro06 cSymbolsN rc07), (Wb cPoison)]) ∧
 (((true = true ∧
 (ao4 = ro06 ∧
 (3 = 3 ∧
 (1 = 1 ∧
 (cSymbolsN = cSymbolsN ∧
 (cap5 = rc07 ∧
 ((∀ i8 : Nat,
 (i8 < cSymbolsN →
 (Wi (cSymbolsg0 i8)) = (Wi (cSymbolsg0 i8)))) ∧
 True))))))) ∧
 True) ∧
 true = true)))))))))))))))) := by kernel_rfl
theorem cpcI_any (cSymbolsO : Option Addr) (cSymbolsN cSymbolsC : Nat) (cSymbolsg0 : Nat → Int) (cPoison : Bool) (w : World) (hrcSymbols : Row.sat w ⟨false, cSymbolsO, 0, 1, cSymbolsN, 0, [fun i => .int (cSymbolsg0 i)]⟩) (hpre : capC cSymbolsN) : Calls Try.prog 71 #[.agg #[.slice cSymbolsO cSymbolsN cSymbolsC, .bool cPoison]] w fun e w' => ∃ (ro0 : Option Addr) (rc0 : Nat), e = .returned (.agg #[.slice ro0 (cSymbolsN) rc0, .bool (cPoison)]) ∧ HS ⟨w, fun _ => False⟩ [.row ⟨true, ro0, 3, 1, cSymbolsN, rc0, [fun i => .int (cSymbolsg0 i)]⟩] w' := by
  refine fnB (tb := []) trivial Try.func71 (@Eq.mpr _ _ (cpcI_T cSymbolsO cSymbolsN cSymbolsC cSymbolsg0 cPoison) ?_) (HS.rows (fun _ => False) [⟨false, cSymbolsO, 0, 1, cSymbolsN, 0, [fun i => .int (cSymbolsg0 i)]⟩] (by simp; exact hrcSymbols)) (fun v ch' w' ⟨ro0, rc0, hk⟩ hs => ⟨ro0, rc0, by rw [hk.1], hk.hs hs⟩)
  clear hrcSymbols
  repeat' (first
    | exact rfl
    | exact True.intro
    | refine And.intro ?_ ?_
    | apply Exists.intro
    | assumption
    | omega
    | intro _)
theorem cpcS_T (cSymbolsO : Option Addr) (cSymbolsN cSymbolsC : Nat) (cSymbolsg0 : Nat → Int) (cPoison : Bool) : (exFn Try.prog {tb := []} 400 Try.f49 ([.a (.agg [.sl 0 cSymbolsO cSymbolsN cSymbolsC, .bool cPoison])]) ([.row ⟨false, cSymbolsO, 0, 1, cSymbolsN, 0, [fun i => .int (cSymbolsg0 i)]⟩]) (fun v ch => ∃ (ro0 : Option Addr) (rc0 : Nat), OutR v ch (.agg #[.slice ro0 (cSymbolsN) rc0, .bool (cPoison)]) [.row ⟨true, ro0, 3, 1, cSymbolsN, rc0, [fun i => .int (cSymbolsg0 i)]⟩])) = (
  (∀ b0 : Nat,
 (∀ b1 : Nat,
 (∀ b2 : Nat,
 (b0 = b0 ∧
 ((b2 = b2 ∧
 ((cSymbolsO = cSymbolsO ∧
 cSymbolsN = cSymbolsN) ∧
 ((∀ i3 : Nat,
 true = true) ∧
 (apC 0 cSymbolsN 8)))) ∧
 (∀ ao4 : (Option Addr),
 (∀ cap5 : Nat,
 (b0 = b0 ∧
 (b0 = b0 ∧
 (b1 = b1 ∧
 (b1 = b1 ∧
 (∃ ro06 : (Option Addr), (∃ rc07 : Nat, ((Wa [(Ws ao4 cSymbolsN cap5), (Wb cPoison)]) = (Wa [(Ws ro06 cSymbolsN rc07), (Wb cPoison)]) ∧
 (((true = true ∧
 (ao4 = ro06 ∧
 (3 = 3 ∧
 (1 = 1 ∧
 (cSymbolsN = cSymbolsN ∧
 (cap5 = rc07 ∧
 ((∀ i8 : Nat,
 (i8 < cSymbolsN →
 (Wi (cSymbolsg0 i8)) = (Wi (cSymbolsg0 i8)))) ∧
 True))))))) ∧
 True) ∧
 true = true)))))))))))))))) := by kernel_rfl
theorem cpcS_any (cSymbolsO : Option Addr) (cSymbolsN cSymbolsC : Nat) (cSymbolsg0 : Nat → Int) (cPoison : Bool) (w : World) (hrcSymbols : Row.sat w ⟨false, cSymbolsO, 0, 1, cSymbolsN, 0, [fun i => .int (cSymbolsg0 i)]⟩) (hpre : capC cSymbolsN) : Calls Try.prog 49 #[.agg #[.slice cSymbolsO cSymbolsN cSymbolsC, .bool cPoison]] w fun e w' => ∃ (ro0 : Option Addr) (rc0 : Nat), e = .returned (.agg #[.slice ro0 (cSymbolsN) rc0, .bool (cPoison)]) ∧ HS ⟨w, fun _ => False⟩ [.row ⟨true, ro0, 3, 1, cSymbolsN, rc0, [fun i => .int (cSymbolsg0 i)]⟩] w' := by
  refine fnB (tb := []) trivial Try.func49 (@Eq.mpr _ _ (cpcS_T cSymbolsO cSymbolsN cSymbolsC cSymbolsg0 cPoison) ?_) (HS.rows (fun _ => False) [⟨false, cSymbolsO, 0, 1, cSymbolsN, 0, [fun i => .int (cSymbolsg0 i)]⟩] (by simp; exact hrcSymbols)) (fun v ch' w' ⟨ro0, rc0, hk⟩ hs => ⟨ro0, rc0, by rw [hk.1], hk.hs hs⟩)
  clear hrcSymbols
  repeat' (first
    | exact rfl
    | exact True.intro
    | refine And.intro ?_ ?_
    | apply Exists.intro
    | assumption
    | omega
    | intro _)
def sCpC : Sm := fun args ch kk =>
  match args with
  | [.a c] => rdC ch c fun n g b => capC n ∧ ∀ (ro : Option Addr) (rc : Nat), kk (.a (.agg [.sl ch.length ro n rc, .bool b])) (ch ++ [.row ⟨true, ro, 3, 1, n, rc, [fun i => .int (g i)]⟩]) []
  | _ => False
theorem sCpC_I : SmOK Try.prog 71 sCpC := by
  refine smN Try.call71 fun args ch kk w X h0 hs => ?_
  unfold sCpC at h0
  split at h0
  · obtain ⟨ao, n, c', g, b, e, hr, hn, h0⟩ := rdC_ok h0 hs
    refine Calls.mono (?_ : Calls Try.prog 71 _ w (fun e w' => ∃ (ro0 : Option Addr) (rc0 : Nat), e = .returned (.agg #[.slice ro0 n rc0, .bool b]) ∧ HS ⟨w, fun _ => False⟩ [.row ⟨true, ro0, 3, 1, n, rc0, [fun i => .int (g i)]⟩] w')) (fun e w' ⟨ro0, rc0, he, hs'⟩ => ⟨_, _, ?_, hs', rfl, h0 ro0 rc0⟩)
    · simp only [List.map_cons, List.map_nil, den_a, e]
      exact cpcI_any ao n c' g b w hr hn
    · rw [he]
      rfl
  · exact h0.elim
theorem sCpC_S : SmOK Try.prog 49 sCpC := by
  refine smN Try.call49 fun args ch kk w X h0 hs => ?_
  unfold sCpC at h0
  split at h0
  · obtain ⟨ao, n, c', g, b, e, hr, hn, h0⟩ := rdC_ok h0 hs
    refine Calls.mono (?_ : Calls Try.prog 49 _ w (fun e w' => ∃ (ro0 : Option Addr) (rc0 : Nat), e = .returned (.agg #[.slice ro0 n rc0, .bool b]) ∧ HS ⟨w, fun _ => False⟩ [.row ⟨true, ro0, 3, 1, n, rc0, [fun i => .int (g i)]⟩] w')) (fun e w' ⟨ro0, rc0, he, hs'⟩ => ⟨_, _, ?_, hs', rfl, h0 ro0 rc0⟩)
    · simp only [List.map_cons, List.map_nil, den_a, e]
      exact cpcS_any ao n c' g b w hr hn
    · rw [he]
      rfl
  · exact h0.elim
end Go.Proofs.Ytddeinpnadfgmaa

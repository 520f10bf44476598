/-
  Arrays checked: the summary.
-/
import Derived.Test.YtddeinpnadfgmaaSxK3
namespace Go.Proofs.Ytddeinpnadfgmaa
set_option linter.unusedVariables false
set_option linter.unusedSimpArgs false
open Go.RowKit
set_option maxRecDepth 100000
set_option maxHeartbeats 400000

def sArrOk : Sm := fun args ch kk =>
  match args with
  | [.a (.agg [c0, c1, c2, c3]), .a c] =>
    match ints [c0, c1, c2, c3] with
    | some [G, B, R, K] => rdA ch c fun x => lenA x ∧ kk (.a (.c (.bool (arrOk G B R K x)))) ch []
    | _ => False
  | _ => False
theorem sArrOk_I : SmOK Try.prog 52 sArrOk := by
  refine smB Try.call52 fun args ch kk w X h0 hs => ?_
  unfold sArrOk at h0
  split at h0
  · rename_i c0 c1 c2 c3 c
    split at h0
    · rename_i G B R K hi
      obtain ⟨e0, hi⟩ := ints_cons hi
      obtain ⟨e1, hi⟩ := ints_cons hi
      obtain ⟨e2, hi⟩ := ints_cons hi
      obtain ⟨e3, hi⟩ := ints_cons hi
      obtain ⟨x, O, A, H, C, D, E, so, sc, e, hA, hl, h1⟩ := rdA_ok h0 hs
      refine ⟨_, h1, ?_⟩
      have e9 : SA.den (.agg [c0, c1, c2, c3]) = .agg #[.int .i64 G, .int .i64 B, .int .i64 R, .int .i64 K] := by simp only [SA.den, List.map_cons, List.map_nil, e0, e1, e2, e3]
      simp only [List.map_cons, List.map_nil, den_a, e, e9]
      exact arrokI_any x O A H C D E so sc G B R K w hA hl
    · exact h0.elim
  · exact h0.elim
theorem sArrOk_S : SmOK Try.prog 46 sArrOk := by
  refine smB Try.call46 fun args ch kk w X h0 hs => ?_
  unfold sArrOk at h0
  split at h0
  · rename_i c0 c1 c2 c3 c
    split at h0
    · rename_i G B R K hi
      obtain ⟨e0, hi⟩ := ints_cons hi
      obtain ⟨e1, hi⟩ := ints_cons hi
      obtain ⟨e2, hi⟩ := ints_cons hi
      obtain ⟨e3, hi⟩ := ints_cons hi
      obtain ⟨x, O, A, H, C, D, E, so, sc, e, hA, hl, h1⟩ := rdA_ok h0 hs
      refine ⟨_, h1, ?_⟩
      have e9 : SA.den (.agg [c0, c1, c2, c3]) = .agg #[.int .i64 G, .int .i64 B, .int .i64 R, .int .i64 K] := by simp only [SA.den, List.map_cons, List.map_nil, e0, e1, e2, e3]
      simp only [List.map_cons, List.map_nil, den_a, e, e9]
      exact arrokS_any x O A H C D E so sc G B R K w hA hl
    · exact h0.elim
  · exact h0.elim
end Go.Proofs.Ytddeinpnadfgmaa

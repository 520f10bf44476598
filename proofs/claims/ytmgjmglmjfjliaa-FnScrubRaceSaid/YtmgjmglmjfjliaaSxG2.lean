/-
  Moves.
-/
import Derived.Test.YtmgjmglmjfjliaaSxG1
namespace Go.Proofs.Ytmgjmglmjfjliaa
set_option linter.unusedVariables false
set_option linter.unusedSimpArgs false
open Go.RowKit
set_option maxRecDepth 100000
set_option maxHeartbeats 8000000

def sMvB : Sm := fun args ch k =>
  match args with
  | [.a (.agg [c0, c1, c2, c3]), .a (.c c4), .a (.c c5), .a (.c c6)] =>
    match ints [c0, c1, c2, c3, c4, c5, c6], bools [] with
    | some [gGroups, gBanks, gRows, gCols, bank, from_, to], some [] => k (.tup [.agg [.int (ifZ (mvB gGroups gBanks gRows gCols bank from_ to) bank), .int (ifZ (mvB gGroups gBanks gRows gCols bank from_ to) from_), .int (ifZ (mvB gGroups gBanks gRows gCols bank from_ to) to), .int (0)], .c (.bool (mvB gGroups gBanks gRows gCols bank from_ to))]) ch []
    | _, _ => False
  | _ => False
theorem sMvB_ok {f : FuncId} (hc : ∀ args w, (callFunc f args).run Try.prog w = .ok (.enter f args) w) (h : ∀ (gGroups gBanks gRows gCols bank from_ to : Int) (w : World), Calls Try.prog f #[.agg #[.int .i64 gGroups, .int .i64 gBanks, .int .i64 gRows, .int .i64 gCols], .int .i64 bank, .int .i64 from_, .int .i64 to] w fun e w' => e = .returned (.tuple #[.agg #[.int .i64 (ifZ (mvB gGroups gBanks gRows gCols bank from_ to) bank), .int .i64 (ifZ (mvB gGroups gBanks gRows gCols bank from_ to) from_), .int .i64 (ifZ (mvB gGroups gBanks gRows gCols bank from_ to) to), .int .i64 (0)], .bool (mvB gGroups gBanks gRows gCols bank from_ to)]) ∧ Below w.heap.size w w') : SmOK Try.prog f sMvB := by
  refine smB hc fun args ch k w X h0 hs => ?_
  unfold sMvB at h0
  split at h0
  · split at h0
    · rename_i gGroups gBanks gRows gCols bank from_ to hi hb
      obtain ⟨e0, hi1⟩ := ints_cons hi
      obtain ⟨e1, hi2⟩ := ints_cons hi1
      obtain ⟨e2, hi3⟩ := ints_cons hi2
      obtain ⟨e3, hi4⟩ := ints_cons hi3
      obtain ⟨e4, hi5⟩ := ints_cons hi4
      obtain ⟨e5, hi6⟩ := ints_cons hi5
      obtain ⟨e6, hi7⟩ := ints_cons hi6
      refine ⟨_, h0, ?_⟩
      simp only [List.map_cons, List.map_nil, den_a, den_c, SA.den, e0, e1, e2, e3, e4, e5, e6]
      exact h gGroups gBanks gRows gCols bank from_ to w
    · exact h0.elim
  · exact h0.elim
def sMvOk : Sm := fun args ch k =>
  match args with
  | [.a (.agg [c0, c1, c2, c3]), .a (.agg [c4, c5, c6, c7])] =>
    match ints [c0, c1, c2, c3, c4, c5, c6, c7], bools [] with
    | some [gGroups, gBanks, gRows, gCols, mBank, mFrom, mTo, mNext], some [] => k (.a (.c (.bool (mvOk gGroups gBanks gRows gCols mBank mFrom mTo mNext)))) ch []
    | _, _ => False
  | _ => False
theorem sMvOk_ok {f : FuncId} (hc : ∀ args w, (callFunc f args).run Try.prog w = .ok (.enter f args) w) (h : ∀ (gGroups gBanks gRows gCols mBank mFrom mTo mNext : Int) (w : World), Calls Try.prog f #[.agg #[.int .i64 gGroups, .int .i64 gBanks, .int .i64 gRows, .int .i64 gCols], .agg #[.int .i64 mBank, .int .i64 mFrom, .int .i64 mTo, .int .i64 mNext]] w fun e w' => e = .returned (.bool (mvOk gGroups gBanks gRows gCols mBank mFrom mTo mNext)) ∧ Below w.heap.size w w') : SmOK Try.prog f sMvOk := by
  refine smB hc fun args ch k w X h0 hs => ?_
  unfold sMvOk at h0
  split at h0
  · split at h0
    · rename_i gGroups gBanks gRows gCols mBank mFrom mTo mNext hi hb
      obtain ⟨e0, hi1⟩ := ints_cons hi
      obtain ⟨e1, hi2⟩ := ints_cons hi1
      obtain ⟨e2, hi3⟩ := ints_cons hi2
      obtain ⟨e3, hi4⟩ := ints_cons hi3
      obtain ⟨e4, hi5⟩ := ints_cons hi4
      obtain ⟨e5, hi6⟩ := ints_cons hi5
      obtain ⟨e6, hi7⟩ := ints_cons hi6
      obtain ⟨e7, hi8⟩ := ints_cons hi7
      refine ⟨_, h0, ?_⟩
      simp only [List.map_cons, List.map_nil, den_a, den_c, SA.den, e0, e1, e2, e3, e4, e5, e6, e7]
      exact h gGroups gBanks gRows gCols mBank mFrom mTo mNext w
    · exact h0.elim
  · exact h0.elim
end Go.Proofs.Ytmgjmglmjfjliaa

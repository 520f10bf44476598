/-
  Moves.
-/
import Derived.Test.YtmgjmglmjfjliabSxG1
namespace Go.Proofs.Ytmgjmglmjfjliab
set_option linter.unusedVariables false
set_option linter.unusedSimpArgs false
open Go.RowKit
set_option maxRecDepth 100000
set_option maxHeartbeats 8000000

def sRowI : Sm := inlM Try.prog {tb := [(42, sAdOk)]} 300 Try.f17
theorem sRowI_ok : SmOK Try.prog 17 sRowI := inlM_ok mixed (E := {tb := [(42, sAdOk)]}) ⟨sAdOk_I, trivial⟩ Try.func17 Try.call17 (fun _ _ _ => loopsOK_nil _ _ _)
theorem mvbI_T (gGroups gBanks gRows gCols bank from_ to : Int) : (exFn Try.prog {tb := [(17, sRowI)]} 400 Try.f7 ([.a (.agg [.int gGroups, .int gBanks, .int gRows, .int gCols]), .a (.c (.int bank)), .a (.c (.int from_)), .a (.c (.int to))]) ([]) (fun v _ => v.den = .tuple #[.agg #[.int .i64 (ifZ (mvB gGroups gBanks gRows gCols bank from_ to) bank), .int .i64 (ifZ (mvB gGroups gBanks gRows gCols bank from_ to) from_), .int .i64 (ifZ (mvB gGroups gBanks gRows gCols bank from_ to) to), .int .i64 (0)], .bool (mvB gGroups gBanks gRows gCols bank from_ to)])) = (
  ∀ b d : Nat, b = b∧∀ g : Nat, g = g∧((! (adOk gGroups gBanks gRows gCols bank from_ (0 : Int))) = false→b = b∧∀ h : Nat, h = h∧((! (adOk gGroups gBanks gRows gCols bank to (0 : Int))) = false→((from_ == to) = true→d = d∧d = d∧(Wu [Wa [Wi 0, Wi 0, Wi 0, Wi 0], Wb false]) = (Wu [Wa [Wi (ifZ (mvB gGroups gBanks gRows gCols bank from_ to) bank), Wi (ifZ (mvB gGroups gBanks gRows gCols bank from_ to) from_), Wi (ifZ (mvB gGroups gBanks gRows gCols bank from_ to) to), Wi 0], Wb (mvB gGroups gBanks gRows gCols bank from_ to)]))∧((from_ == to) = false→d = d∧d = d∧(Wu [Wa [Wi bank, Wi from_, Wi to, Wi 0], Wb true]) = (Wu [Wa [Wi (ifZ (mvB gGroups gBanks gRows gCols bank from_ to) bank), Wi (ifZ (mvB gGroups gBanks gRows gCols bank from_ to) from_), Wi (ifZ (mvB gGroups gBanks gRows gCols bank from_ to) to), Wi 0], Wb (mvB gGroups gBanks gRows gCols bank from_ to)])))∧((! (adOk gGroups gBanks gRows gCols bank to (0 : Int))) = true→d = d∧d = d∧(Wu [Wa [Wi 0, Wi 0, Wi 0, Wi 0], Wb false]) = (Wu [Wa [Wi (ifZ (mvB gGroups gBanks gRows gCols bank from_ to) bank), Wi (ifZ (mvB gGroups gBanks gRows gCols bank from_ to) from_), Wi (ifZ (mvB gGroups gBanks gRows gCols bank from_ to) to), Wi 0], Wb (mvB gGroups gBanks gRows gCols bank from_ to)])))∧((! (adOk gGroups gBanks gRows gCols bank from_ (0 : Int))) = true→d = d∧d = d∧(Wu [Wa [Wi 0, Wi 0, Wi 0, Wi 0], Wb false]) = (Wu [Wa [Wi (ifZ (mvB gGroups gBanks gRows gCols bank from_ to) bank), Wi (ifZ (mvB gGroups gBanks gRows gCols bank from_ to) from_), Wi (ifZ (mvB gGroups gBanks gRows gCols bank from_ to) to), Wi 0], Wb (mvB gGroups gBanks gRows gCols bank from_ to)]))) := by kernel_rfl
theorem mvbI_any (gGroups gBanks gRows gCols bank from_ to : Int) (w : World) : Calls Try.prog 7 #[.agg #[.int .i64 gGroups, .int .i64 gBanks, .int .i64 gRows, .int .i64 gCols], .int .i64 bank, .int .i64 from_, .int .i64 to] w fun e w' => e = .returned (.tuple #[.agg #[.int .i64 (ifZ (mvB gGroups gBanks gRows gCols bank from_ to) bank), .int .i64 (ifZ (mvB gGroups gBanks gRows gCols bank from_ to) from_), .int .i64 (ifZ (mvB gGroups gBanks gRows gCols bank from_ to) to), .int .i64 (0)], .bool (mvB gGroups gBanks gRows gCols bank from_ to)]) ∧ Below w.heap.size w w' := by
  refine fnB (tb := [(17, sRowI)]) ⟨sRowI_ok, trivial⟩ Try.func7 (@Eq.mpr _ _ (mvbI_T gGroups gBanks gRows gCols bank from_ to) ?_) (HS.start w (fun _ => False)) (fun v ch' w' hk hs => ⟨by rw [hk], hs.below⟩)
  repeat' (first | with_reducible exact rfl | exact True.intro | refine And.intro ?_ ?_ | intro _)
  all_goals (simp_all [mvB, ifZ]; done)
def sMvB : Sm := fun args ch k =>
  match args with
  | [.a (.agg [c0, c1, c2, c3]), .a (.c c4), .a (.c c5), .a (.c c6)] =>
    match ints [c0, c1, c2, c3, c4, c5, c6], bools [] with
    | some [gGroups, gBanks, gRows, gCols, bank, from_, to], some [] => k (.tup [.agg [.int (ifZ (mvB gGroups gBanks gRows gCols bank from_ to) bank), .int (ifZ (mvB gGroups gBanks gRows gCols bank from_ to) from_), .int (ifZ (mvB gGroups gBanks gRows gCols bank from_ to) to), .int (0)], .c (.bool (mvB gGroups gBanks gRows gCols bank from_ to))]) ch []
    | _, _ => False
  | _ => False
theorem sMvB_ok {f : FuncId} (hc : ∀ args w, (callFunc f args).run Try.prog w = .ok (.enter f args) w) (h : ∀ (gGroups gBanks gRows gCols bank from_ to : Int) (w : World), Calls Try.prog f #[.agg #[.int .i64 gGroups, .int .i64 gBanks, .int .i64 gRows, .int .i64 gCols], .int .i64 bank, .int .i64 from_, .int .i64 to] w fun e w' => e = .returned (.tuple #[.agg #[.int .i64 (ifZ (mvB gGroups gBanks gRows gCols bank from_ to) bank), .int .i64 (ifZ (mvB gGroups gBanks gRows gCols bank from_ to) from_), .int .i64 (ifZ (mvB gGroups gBanks gRows gCols bank from_ to) to), .int .i64 (0)], .bool (mvB gGroups gBanks gRows gCols bank from_ to)]) ∧ Below w.heap.size w w') : SmOK Try.prog f sMvB := by
  refine smB hc fun args ch k w X h0 hs => ?_
  unfold sMvB at h0
  split at h0
  · split at h0
    · rename_i gGroups gBanks gRows gCols bank from_ to hi hb
      obtain ⟨e0, hi1⟩ := ints_cons hi
      obtain ⟨e1, hi2⟩ := ints_cons hi1
      obtain ⟨e2, hi3⟩ := ints_cons hi2
      obtain ⟨e3, hi4⟩ := ints_cons hi3
      obtain ⟨e4, hi5⟩ := ints_cons hi4
      obtain ⟨e5, hi6⟩ := ints_cons hi5
      obtain ⟨e6, hi7⟩ := ints_cons hi6
      refine ⟨_, h0, ?_⟩
      simp only [List.map_cons, List.map_nil, den_a, den_c, SA.den, e0, e1, e2, e3, e4, e5, e6]
      exact h gGroups gBanks gRows gCols bank from_ to w
    · exact h0.elim
  · exact h0.elim
theorem sMvB_I : SmOK Try.prog 7 sMvB := sMvB_ok Try.call7 mvbI_any
theorem mvokI_T (gGroups gBanks gRows gCols mBank mFrom mTo mNext : Int) : (exFn Try.prog {tb := [(7, sMvB), (25, sBtw)]} 400 Try.f13 ([.a (.agg [.int gGroups, .int gBanks, .int gRows, .int gCols]), .a (.agg [.int mBank, .int mFrom, .int mTo, .int mNext])]) ([]) (fun v _ => v.den = .bool (mvOk gGroups gBanks gRows gCols mBank mFrom mTo mNext))) = (
  ∀ b c : Nat, b = b∧c = c∧c = c∧c = c∧∀ d : Nat, d = d∧((mvB gGroups gBanks gRows gCols mBank mFrom mTo) = true→c = c∧b = b∧(Wb (btw mNext (0 : Int) gCols)) = (Wb (mvOk gGroups gBanks gRows gCols mBank mFrom mTo mNext)))∧((mvB gGroups gBanks gRows gCols mBank mFrom mTo) = false→(Wb false) = (Wb (mvOk gGroups gBanks gRows gCols mBank mFrom mTo mNext)))) := by kernel_rfl
theorem mvokI_any (gGroups gBanks gRows gCols mBank mFrom mTo mNext : Int) (w : World) : Calls Try.prog 13 #[.agg #[.int .i64 gGroups, .int .i64 gBanks, .int .i64 gRows, .int .i64 gCols], .agg #[.int .i64 mBank, .int .i64 mFrom, .int .i64 mTo, .int .i64 mNext]] w fun e w' => e = .returned (.bool (mvOk gGroups gBanks gRows gCols mBank mFrom mTo mNext)) ∧ Below w.heap.size w w' := by
  refine fnB (tb := [(7, sMvB), (25, sBtw)]) ⟨sMvB_I, sBtwI_ok, trivial⟩ Try.func13 (@Eq.mpr _ _ (mvokI_T gGroups gBanks gRows gCols mBank mFrom mTo mNext) ?_) (HS.start w (fun _ => False)) (fun v ch' w' hk hs => ⟨by rw [hk], hs.below⟩)
  repeat' (first | with_reducible exact rfl | exact True.intro | refine And.intro ?_ ?_ | intro _)
  all_goals (simp_all [mvOk]; done)
def sMvOk : Sm := fun args ch k =>
  match args with
  | [.a (.agg [c0, c1, c2, c3]), .a (.agg [c4, c5, c6, c7])] =>
    match ints [c0, c1, c2, c3, c4, c5, c6, c7], bools [] with
    | some [gGroups, gBanks, gRows, gCols, mBank, mFrom, mTo, mNext], some [] => k (.a (.c (.bool (mvOk gGroups gBanks gRows gCols mBank mFrom mTo mNext)))) ch []
    | _, _ => False
  | _ => False
theorem sMvOk_ok {f : FuncId} (hc : ∀ args w, (callFunc f args).run Try.prog w = .ok (.enter f args) w) (h : ∀ (gGroups gBanks gRows gCols mBank mFrom mTo mNext : Int) (w : World), Calls Try.prog f #[.agg #[.int .i64 gGroups, .int .i64 gBanks, .int .i64 gRows, .int .i64 gCols], .agg #[.int .i64 mBank, .int .i64 mFrom, .int .i64 mTo, .int .i64 mNext]] w fun e w' => e = .returned (.bool (mvOk gGroups gBanks gRows gCols mBank mFrom mTo mNext)) ∧ Below w.heap.size w w') : SmOK Try.prog f sMvOk := by
  refine smB hc fun args ch k w X h0 hs => ?_
  unfold sMvOk at h0
  split at h0
  · split at h0
    · rename_i gGroups gBanks gRows gCols mBank mFrom mTo mNext hi hb
      obtain ⟨e0, hi1⟩ := ints_cons hi
      obtain ⟨e1, hi2⟩ := ints_cons hi1
      obtain ⟨e2, hi3⟩ := ints_cons hi2
      obtain ⟨e3, hi4⟩ := ints_cons hi3
      obtain ⟨e4, hi5⟩ := ints_cons hi4
      obtain ⟨e5, hi6⟩ := ints_cons hi5
      obtain ⟨e6, hi7⟩ := ints_cons hi6
      obtain ⟨e7, hi8⟩ := ints_cons hi7
      refine ⟨_, h0, ?_⟩
      simp only [List.map_cons, List.map_nil, den_a, den_c, SA.den, e0, e1, e2, e3, e4, e5, e6, e7]
      exact h gGroups gBanks gRows gCols mBank mFrom mTo mNext w
    · exact h0.elim
  · exact h0.elim
theorem sMvOk_I : SmOK Try.prog 13 sMvOk := sMvOk_ok Try.call13 mvokI_any
end Go.Proofs.Ytmgjmglmjfjliab

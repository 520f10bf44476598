/-
  Moves.
-/
import Derived.Test.YtddeinpnadfgmaaSxG1
namespace Go.Proofs.Ytddeinpnadfgmaa
set_option linter.unusedVariables false
set_option linter.unusedSimpArgs false
open Go.RowKit
set_option maxRecDepth 100000
set_option maxHeartbeats 8000000

def sRowI : Sm := inlM Try.prog {tb := [(95, sAdOk)]} 300 Try.f89
theorem sRowI_ok : SmOK Try.prog 89 sRowI := inlM_ok mixed (E := {tb := [(95, sAdOk)]}) ⟨sAdOk_I, trivial⟩ Try.func89 Try.call89 (fun _ _ _ => loopsOK_nil _ _ _)
def sRowS : Sm := inlM Try.prog {tb := [(83, sAdOk)]} 300 Try.f111
theorem sRowS_ok : SmOK Try.prog 111 sRowS := inlM_ok mixed (E := {tb := [(83, sAdOk)]}) ⟨sAdOk_S, trivial⟩ Try.func111 Try.call111 (fun _ _ _ => loopsOK_nil _ _ _)
theorem mvbI_T (gGroups gBanks gRows gCols bank from_ to : Int) : (exFn Try.prog {tb := [(89, sRowI)]} 400 Try.f39 ([.a (.agg [.int gGroups, .int gBanks, .int gRows, .int gCols]), .a (.c (.int bank)), .a (.c (.int from_)), .a (.c (.int to))]) ([]) (fun v _ => v.den = .tuple #[.agg #[.int .i64 (ifZ (mvB gGroups gBanks gRows gCols bank from_ to) bank), .int .i64 (ifZ (mvB gGroups gBanks gRows gCols bank from_ to) from_), .int .i64 (ifZ (mvB gGroups gBanks gRows gCols bank from_ to) to), .int .i64 (0)], .bool (mvB gGroups gBanks gRows gCols bank from_ to)])) = (
  (∀ b0 : Nat,
 (∀ b1 : Nat,
 (b0 = b0 ∧
 (∀ b2 : Nat,
 (b2 = b2 ∧
 (((!(adOk gGroups gBanks gRows gCols bank from_ (0 : Int))) = false →
 (b0 = b0 ∧
 (∀ b3 : Nat,
 (b3 = b3 ∧
 (((!(adOk gGroups gBanks gRows gCols bank to (0 : Int))) = false →
 (((from_ == to) = true →
 (b1 = b1 ∧
 (b1 = b1 ∧
 (Wu [(Wa [(Wi 0), (Wi 0), (Wi 0), (Wi 0)]), (Wb false)]) = (Wu [(Wa [(Wi (ifZ (mvB gGroups gBanks gRows gCols bank from_ to) bank)), (Wi (ifZ (mvB gGroups gBanks gRows gCols bank from_ to) from_)), (Wi (ifZ (mvB gGroups gBanks gRows gCols bank from_ to) to)), (Wi 0)]), (Wb (mvB gGroups gBanks gRows gCols bank from_ to))])))) ∧
 ((from_ == to) = false →
 (b1 = b1 ∧
 (b1 = b1 ∧
 (Wu [(Wa [(Wi bank), (Wi from_), (Wi to), (Wi 0)]), (Wb true)]) = (Wu [(Wa [(Wi (ifZ (mvB gGroups gBanks gRows gCols bank from_ to) bank)), (Wi (ifZ (mvB gGroups gBanks gRows gCols bank from_ to) from_)), (Wi (ifZ (mvB gGroups gBanks gRows gCols bank from_ to) to)), (Wi 0)]), (Wb (mvB gGroups gBanks gRows gCols bank from_ to))])))))) ∧
 ((!(adOk gGroups gBanks gRows gCols bank to (0 : Int))) = true →
 (b1 = b1 ∧
 (b1 = b1 ∧
 (Wu [(Wa [(Wi 0), (Wi 0), (Wi 0), (Wi 0)]), (Wb false)]) = (Wu [(Wa [(Wi (ifZ (mvB gGroups gBanks gRows gCols bank from_ to) bank)), (Wi (ifZ (mvB gGroups gBanks gRows gCols bank from_ to) from_)), (Wi (ifZ (mvB gGroups gBanks gRows gCols bank from_ to) to)), (Wi 0)]), (Wb (mvB gGroups gBanks gRows gCols bank from_ to))]))))))))) ∧
 ((!(adOk gGroups gBanks gRows gCols bank from_ (0 : Int))) = true →
 (b1 = b1 ∧
 (b1 = b1 ∧
 (Wu [(Wa [(Wi 0), (Wi 0), (Wi 0), (Wi 0)]), (Wb false)]) = (Wu [(Wa [(Wi (ifZ (mvB gGroups gBanks gRows gCols bank from_ to) bank)), (Wi (ifZ (mvB gGroups gBanks gRows gCols bank from_ to) from_)), (Wi (ifZ (mvB gGroups gBanks gRows gCols bank from_ to) to)), (Wi 0)]), (Wb (mvB gGroups gBanks gRows gCols bank from_ to))]))))))))))) := by kernel_rfl
theorem mvbI_any (gGroups gBanks gRows gCols bank from_ to : Int) (w : World) : Calls Try.prog 39 #[.agg #[.int .i64 gGroups, .int .i64 gBanks, .int .i64 gRows, .int .i64 gCols], .int .i64 bank, .int .i64 from_, .int .i64 to] w fun e w' => e = .returned (.tuple #[.agg #[.int .i64 (ifZ (mvB gGroups gBanks gRows gCols bank from_ to) bank), .int .i64 (ifZ (mvB gGroups gBanks gRows gCols bank from_ to) from_), .int .i64 (ifZ (mvB gGroups gBanks gRows gCols bank from_ to) to), .int .i64 (0)], .bool (mvB gGroups gBanks gRows gCols bank from_ to)]) ∧ Below w.heap.size w w' := by
  refine fnB (tb := [(89, sRowI)]) ⟨sRowI_ok, trivial⟩ Try.func39 (@Eq.mpr _ _ (mvbI_T gGroups gBanks gRows gCols bank from_ to) ?_) (HS.start w (fun _ => False)) (fun v ch' w' hk hs => ⟨by rw [hk], hs.below⟩)
  repeat' (first | with_reducible exact rfl | exact True.intro | refine And.intro ?_ ?_ | intro _)
  all_goals (simp_all [mvB, ifZ]; done)
theorem mvbS_T (gGroups gBanks gRows gCols bank from_ to : Int) : (exFn Try.prog {tb := [(111, sRowS)]} 400 Try.f91 ([.a (.agg [.int gGroups, .int gBanks, .int gRows, .int gCols]), .a (.c (.int bank)), .a (.c (.int from_)), .a (.c (.int to))]) ([]) (fun v _ => v.den = .tuple #[.agg #[.int .i64 (ifZ (mvB gGroups gBanks gRows gCols bank from_ to) bank), .int .i64 (ifZ (mvB gGroups gBanks gRows gCols bank from_ to) from_), .int .i64 (ifZ (mvB gGroups gBanks gRows gCols bank from_ to) to), .int .i64 (0)], .bool (mvB gGroups gBanks gRows gCols bank from_ to)])) = (
  (∀ b0 : Nat,
 (∀ b1 : Nat,
 (b0 = b0 ∧
 (∀ b2 : Nat,
 (b2 = b2 ∧
 (((!(adOk gGroups gBanks gRows gCols bank from_ (0 : Int))) = false →
 (b0 = b0 ∧
 (∀ b3 : Nat,
 (b3 = b3 ∧
 (((!(adOk gGroups gBanks gRows gCols bank to (0 : Int))) = false →
 (((from_ == to) = true →
 (b1 = b1 ∧
 (b1 = b1 ∧
 (Wu [(Wa [(Wi 0), (Wi 0), (Wi 0), (Wi 0)]), (Wb false)]) = (Wu [(Wa [(Wi (ifZ (mvB gGroups gBanks gRows gCols bank from_ to) bank)), (Wi (ifZ (mvB gGroups gBanks gRows gCols bank from_ to) from_)), (Wi (ifZ (mvB gGroups gBanks gRows gCols bank from_ to) to)), (Wi 0)]), (Wb (mvB gGroups gBanks gRows gCols bank from_ to))])))) ∧
 ((from_ == to) = false →
 (b1 = b1 ∧
 (b1 = b1 ∧
 (Wu [(Wa [(Wi bank), (Wi from_), (Wi to), (Wi 0)]), (Wb true)]) = (Wu [(Wa [(Wi (ifZ (mvB gGroups gBanks gRows gCols bank from_ to) bank)), (Wi (ifZ (mvB gGroups gBanks gRows gCols bank from_ to) from_)), (Wi (ifZ (mvB gGroups gBanks gRows gCols bank from_ to) to)), (Wi 0)]), (Wb (mvB gGroups gBanks gRows gCols bank from_ to))])))))) ∧
 ((!(adOk gGroups gBanks gRows gCols bank to (0 : Int))) = true →
 (b1 = b1 ∧
 (b1 = b1 ∧
 (Wu [(Wa [(Wi 0), (Wi 0), (Wi 0), (Wi 0)]), (Wb false)]) = (Wu [(Wa [(Wi (ifZ (mvB gGroups gBanks gRows gCols bank from_ to) bank)), (Wi (ifZ (mvB gGroups gBanks gRows gCols bank from_ to) from_)), (Wi (ifZ (mvB gGroups gBanks gRows gCols bank from_ to) to)), (Wi 0)]), (Wb (mvB gGroups gBanks gRows gCols bank from_ to))]))))))))) ∧
 ((!(adOk gGroups gBanks gRows gCols bank from_ (0 : Int))) = true →
 (b1 = b1 ∧
 (b1 = b1 ∧
 (Wu [(Wa [(Wi 0), (Wi 0), (Wi 0), (Wi 0)]), (Wb false)]) = (Wu [(Wa [(Wi (ifZ (mvB gGroups gBanks gRows gCols bank from_ to) bank)), (Wi (ifZ (mvB gGroups gBanks gRows gCols bank from_ to) from_)), (Wi (ifZ (mvB gGroups gBanks gRows gCols bank from_ to) to)), (Wi 0)]), (Wb (mvB gGroups gBanks gRows gCols bank from_ to))]))))))))))) := by kernel_rfl
theorem mvbS_any (gGroups gBanks gRows gCols bank from_ to : Int) (w : World) : Calls Try.prog 91 #[.agg #[.int .i64 gGroups, .int .i64 gBanks, .int .i64 gRows, .int .i64 gCols], .int .i64 bank, .int .i64 from_, .int .i64 to] w fun e w' => e = .returned (.tuple #[.agg #[.int .i64 (ifZ (mvB gGroups gBanks gRows gCols bank from_ to) bank), .int .i64 (ifZ (mvB gGroups gBanks gRows gCols bank from_ to) from_), .int .i64 (ifZ (mvB gGroups gBanks gRows gCols bank from_ to) to), .int .i64 (0)], .bool (mvB gGroups gBanks gRows gCols bank from_ to)]) ∧ Below w.heap.size w w' := by
  refine fnB (tb := [(111, sRowS)]) ⟨sRowS_ok, trivial⟩ Try.func91 (@Eq.mpr _ _ (mvbS_T gGroups gBanks gRows gCols bank from_ to) ?_) (HS.start w (fun _ => False)) (fun v ch' w' hk hs => ⟨by rw [hk], hs.below⟩)
  repeat' (first | with_reducible exact rfl | exact True.intro | refine And.intro ?_ ?_ | intro _)
  all_goals (simp_all [mvB, ifZ]; done)
def sMvB : Sm := fun args ch k =>
  match args with
  | [.a (.agg [c0, c1, c2, c3]), .a (.c c4), .a (.c c5), .a (.c c6)] =>
    match ints [c0, c1, c2, c3, c4, c5, c6], bools [] with
    | some [gGroups, gBanks, gRows, gCols, bank, from_, to], some [] => k (.tup [.agg [.int (ifZ (mvB gGroups gBanks gRows gCols bank from_ to) bank), .int (ifZ (mvB gGroups gBanks gRows gCols bank from_ to) from_), .int (ifZ (mvB gGroups gBanks gRows gCols bank from_ to) to), .int (0)], .c (.bool (mvB gGroups gBanks gRows gCols bank from_ to))]) ch []
    | _, _ => False
  | _ => False
theorem sMvB_ok {f : FuncId} (hc : ∀ args w, (callFunc f args).run Try.prog w = .ok (.enter f args) w) (h : ∀ (gGroups gBanks gRows gCols bank from_ to : Int) (w : World), Calls Try.prog f #[.agg #[.int .i64 gGroups, .int .i64 gBanks, .int .i64 gRows, .int .i64 gCols], .int .i64 bank, .int .i64 from_, .int .i64 to] w fun e w' => e = .returned (.tuple #[.agg #[.int .i64 (ifZ (mvB gGroups gBanks gRows gCols bank from_ to) bank), .int .i64 (ifZ (mvB gGroups gBanks gRows gCols bank from_ to) from_), .int .i64 (ifZ (mvB gGroups gBanks gRows gCols bank from_ to) to), .int .i64 (0)], .bool (mvB gGroups gBanks gRows gCols bank from_ to)]) ∧ Below w.heap.size w w') : SmOK Try.prog f sMvB := by
  refine smB hc fun args ch k w X h0 hs => ?_
  unfold sMvB at h0
  split at h0
  · split at h0
    · rename_i gGroups gBanks gRows gCols bank from_ to hi hb
      obtain ⟨e0, hi1⟩ := ints_cons hi
      obtain ⟨e1, hi2⟩ := ints_cons hi1
      obtain ⟨e2, hi3⟩ := ints_cons hi2
      obtain ⟨e3, hi4⟩ := ints_cons hi3
      obtain ⟨e4, hi5⟩ := ints_cons hi4
      obtain ⟨e5, hi6⟩ := ints_cons hi5
      obtain ⟨e6, hi7⟩ := ints_cons hi6
      refine ⟨_, h0, ?_⟩
      simp only [List.map_cons, List.map_nil, den_a, den_c, SA.den, e0, e1, e2, e3, e4, e5, e6]
      exact h gGroups gBanks gRows gCols bank from_ to w
    · exact h0.elim
  · exact h0.elim
theorem sMvB_I : SmOK Try.prog 39 sMvB := sMvB_ok Try.call39 mvbI_any
theorem sMvB_S : SmOK Try.prog 91 sMvB := sMvB_ok Try.call91 mvbS_any
theorem mvokI_T (gGroups gBanks gRows gCols mBank mFrom mTo mNext : Int) : (exFn Try.prog {tb := [(39, sMvB), (75, sBtw)]} 400 Try.f41 ([.a (.agg [.int gGroups, .int gBanks, .int gRows, .int gCols]), .a (.agg [.int mBank, .int mFrom, .int mTo, .int mNext])]) ([]) (fun v _ => v.den = .bool (mvOk gGroups gBanks gRows gCols mBank mFrom mTo mNext))) = (
  (∀ b0 : Nat,
 (∀ b1 : Nat,
 (b0 = b0 ∧
 (b1 = b1 ∧
 (b1 = b1 ∧
 (b1 = b1 ∧
 (∀ b2 : Nat,
 (b2 = b2 ∧
 (((mvB gGroups gBanks gRows gCols mBank mFrom mTo) = true →
 (b1 = b1 ∧
 (b0 = b0 ∧
 (Wb (btw mNext (0 : Int) gCols)) = (Wb (mvOk gGroups gBanks gRows gCols mBank mFrom mTo mNext))))) ∧
 ((mvB gGroups gBanks gRows gCols mBank mFrom mTo) = false →
 (Wb false) = (Wb (mvOk gGroups gBanks gRows gCols mBank mFrom mTo mNext))))))))))))) := by kernel_rfl
theorem mvokI_any (gGroups gBanks gRows gCols mBank mFrom mTo mNext : Int) (w : World) : Calls Try.prog 41 #[.agg #[.int .i64 gGroups, .int .i64 gBanks, .int .i64 gRows, .int .i64 gCols], .agg #[.int .i64 mBank, .int .i64 mFrom, .int .i64 mTo, .int .i64 mNext]] w fun e w' => e = .returned (.bool (mvOk gGroups gBanks gRows gCols mBank mFrom mTo mNext)) ∧ Below w.heap.size w w' := by
  refine fnB (tb := [(39, sMvB), (75, sBtw)]) ⟨sMvB_I, sBtwI_ok, trivial⟩ Try.func41 (@Eq.mpr _ _ (mvokI_T gGroups gBanks gRows gCols mBank mFrom mTo mNext) ?_) (HS.start w (fun _ => False)) (fun v ch' w' hk hs => ⟨by rw [hk], hs.below⟩)
  repeat' (first | with_reducible exact rfl | exact True.intro | refine And.intro ?_ ?_ | intro _)
  all_goals (simp_all [mvOk]; done)
theorem mvokS_T (gGroups gBanks gRows gCols mBank mFrom mTo mNext : Int) : (exFn Try.prog {tb := [(91, sMvB), (63, sBtw)]} 400 Try.f47 ([.a (.agg [.int gGroups, .int gBanks, .int gRows, .int gCols]), .a (.agg [.int mBank, .int mFrom, .int mTo, .int mNext])]) ([]) (fun v _ => v.den = .bool (mvOk gGroups gBanks gRows gCols mBank mFrom mTo mNext))) = (
  (∀ b0 : Nat,
 (∀ b1 : Nat,
 (b0 = b0 ∧
 (b1 = b1 ∧
 (b1 = b1 ∧
 (b1 = b1 ∧
 (∀ b2 : Nat,
 (b2 = b2 ∧
 (((mvB gGroups gBanks gRows gCols mBank mFrom mTo) = true →
 (b1 = b1 ∧
 (b0 = b0 ∧
 (Wb (btw mNext (0 : Int) gCols)) = (Wb (mvOk gGroups gBanks gRows gCols mBank mFrom mTo mNext))))) ∧
 ((mvB gGroups gBanks gRows gCols mBank mFrom mTo) = false →
 (Wb false) = (Wb (mvOk gGroups gBanks gRows gCols mBank mFrom mTo mNext))))))))))))) := by kernel_rfl
theorem mvokS_any (gGroups gBanks gRows gCols mBank mFrom mTo mNext : Int) (w : World) : Calls Try.prog 47 #[.agg #[.int .i64 gGroups, .int .i64 gBanks, .int .i64 gRows, .int .i64 gCols], .agg #[.int .i64 mBank, .int .i64 mFrom, .int .i64 mTo, .int .i64 mNext]] w fun e w' => e = .returned (.bool (mvOk gGroups gBanks gRows gCols mBank mFrom mTo mNext)) ∧ Below w.heap.size w w' := by
  refine fnB (tb := [(91, sMvB), (63, sBtw)]) ⟨sMvB_S, sBtwS_ok, trivial⟩ Try.func47 (@Eq.mpr _ _ (mvokS_T gGroups gBanks gRows gCols mBank mFrom mTo mNext) ?_) (HS.start w (fun _ => False)) (fun v ch' w' hk hs => ⟨by rw [hk], hs.below⟩)
  repeat' (first | with_reducible exact rfl | exact True.intro | refine And.intro ?_ ?_ | intro _)
  all_goals (simp_all [mvOk]; done)
def sMvOk : Sm := fun args ch k =>
  match args with
  | [.a (.agg [c0, c1, c2, c3]), .a (.agg [c4, c5, c6, c7])] =>
    match ints [c0, c1, c2, c3, c4, c5, c6, c7], bools [] with
    | some [gGroups, gBanks, gRows, gCols, mBank, mFrom, mTo, mNext], some [] => k (.a (.c (.bool (mvOk gGroups gBanks gRows gCols mBank mFrom mTo mNext)))) ch []
    | _, _ => False
  | _ => False
theorem sMvOk_ok {f : FuncId} (hc : ∀ args w, (callFunc f args).run Try.prog w = .ok (.enter f args) w) (h : ∀ (gGroups gBanks gRows gCols mBank mFrom mTo mNext : Int) (w : World), Calls Try.prog f #[.agg #[.int .i64 gGroups, .int .i64 gBanks, .int .i64 gRows, .int .i64 gCols], .agg #[.int .i64 mBank, .int .i64 mFrom, .int .i64 mTo, .int .i64 mNext]] w fun e w' => e = .returned (.bool (mvOk gGroups gBanks gRows gCols mBank mFrom mTo mNext)) ∧ Below w.heap.size w w') : SmOK Try.prog f sMvOk := by
  refine smB hc fun args ch k w X h0 hs => ?_
  unfold sMvOk at h0
  split at h0
  · split at h0
    · rename_i gGroups gBanks gRows gCols mBank mFrom mTo mNext hi hb
      obtain ⟨e0, hi1⟩ := ints_cons hi
      obtain ⟨e1, hi2⟩ := ints_cons hi1
      obtain ⟨e2, hi3⟩ := ints_cons hi2
      obtain ⟨e3, hi4⟩ := ints_cons hi3
      obtain ⟨e4, hi5⟩ := ints_cons hi4
      obtain ⟨e5, hi6⟩ := ints_cons hi5
      obtain ⟨e6, hi7⟩ := ints_cons hi6
      obtain ⟨e7, hi8⟩ := ints_cons hi7
      refine ⟨_, h0, ?_⟩
      simp only [List.map_cons, List.map_nil, den_a, den_c, SA.den, e0, e1, e2, e3, e4, e5, e6, e7]
      exact h gGroups gBanks gRows gCols mBank mFrom mTo mNext w
    · exact h0.elim
  · exact h0.elim
theorem sMvOk_I : SmOK Try.prog 41 sMvOk := sMvOk_ok Try.call41 mvokI_any
theorem sMvOk_S : SmOK Try.prog 47 sMvOk := sMvOk_ok Try.call47 mvokS_any
end Go.Proofs.Ytddeinpnadfgmaa

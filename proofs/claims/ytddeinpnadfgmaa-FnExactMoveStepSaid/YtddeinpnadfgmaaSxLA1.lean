/-
  FnExactMoveStep.
-/
import Derived.Test.YtddeinpnadfgmaaSxM3
import Derived.Test.YtddeinpnadfgmaaSxH6
namespace Go.Proofs.Ytddeinpnadfgmaa
set_option linter.unusedVariables false
set_option linter.unusedSimpArgs false
open Go.RowKit
set_option maxRecDepth 100000
set_option maxHeartbeats 8000000

abbrev ArrayD := AD
theorem capOf1Array {x : AD} (h : cap1Ax x) : capAx x := capOf1Ax h
theorem capA_of {x : AD} (h : capAx x) : capA x := by
  have h1 : totN x.c.sn x.c.n ≤ 2097152 := h.1
  exact ⟨by have := totN_n (sn := x.c.sn) x.c.n; omega, h.2.1, h.2.2, fun i hi => by have := totN_sn (sn := x.c.sn) hi; omega⟩
theorem totN_set {sn : Nat → Nat} {k m : Nat} : ∀ n : Nat, totN (fun i => if i = k then m else sn i) n ≤ totN sn n + m ∧ (n ≤ k → totN (fun i => if i = k then m else sn i) n = totN sn n) := fun n => by
  induction n with
  | zero => exact ⟨Nat.zero_le _, fun _ => rfl⟩
  | succ n ih =>
    simp only [totN]
    by_cases e : n = k
    · have := ih.2 (by omega)
      simp only [if_pos e]
      exact ⟨by omega, fun h => by omega⟩
    · simp only [if_neg e]
      exact ⟨by omega, fun h => by have := ih.2 (by omega); omega⟩
theorem cap_set {x : AD} {k m : Nat} {f : Nat → Int} {b : Bool} (h : cap1Ax x) (hm : m ≤ 1048576) : capAx (setA x k m f b) := by
  have h1 := (totN_set (sn := x.c.sn) (k := k) (m := m) x.c.n).1
  exact ⟨by show totN _ x.c.n ≤ _; have := h.1; simp only [setA]; omega, by have := h.2.1; show x.aN ≤ _; omega, by have := h.2.2; show x.hN ≤ _; omega⟩
theorem cap_sn {x : AD} (h : cap1Ax x) {i : Nat} (hi : i < x.c.n) : x.c.sn i ≤ 1048576 := by
  have := totN_sn (sn := x.c.sn) hi
  have := h.1
  omega
def sToArrX (x0 : AD) : Sm := fun args ch k =>
  match args with
  | [.a (.c (.obj i v))] =>
    match ch[i]? with
    | some (.obj _ rs) => (isArray v x0 rs ∧ capAx x0) ∧ ∀ (v' : Value) (rs' : List Row), isArray v' x0 rs' → k (.a (.c (.obj ch.length v'))) (ch ++ [.obj true rs']) []
    | _ => False
  | _ => False
theorem sToArrX_ok (x0 : AD) : SmOK Try.prog 13 (sToArrX x0) := by
  refine ⟨sToArrayO_ok_laws_toArray.1, fun X args ch k w h0 hs => sToArrayO_ok_laws_toArray.2 X args ch k w ?_ hs⟩
  unfold sToArrX at h0
  unfold sToArrayO
  split at h0
  · split at h0
    · rename_i hi
      simp only [hi]
      exact ⟨x0, h0⟩
    · exact h0.elim
  · exact h0.elim
theorem cap_step {gG gB gR gC mB mF mT mN : Int} {x : AD} (h : cap1Ax x) : capAx (stepA gG gB gR gC mB mF mT mN x) := by
  cases hst : stepOk gG gB gR gC mB mF mT mN x
  · have e : stepA gG gB gR gC mB mF mT mN x = x := by simp [stepA, hst]
    rw [e]
    exact capOf1Ax h
  · simp only [stepA, hst, if_true]
    obtain ⟨hok, hmv, _, hdf, hdt, hn⟩ := step_facts hst
    exact cap_set h (cap_sn h (arr_in hok hdf).2.2)
def sMStepX (x : AD) : Sm := fun args ch k =>
  match args with
  | [.a (.agg [c0, c1, c2, c3]), .a (.c (.obj i v)), .a (.agg [e0, e1, e2, e3])] =>
    match ch[i]?, ints [c0, c1, c2, c3, e0, e1, e2, e3] with
    | some (.obj _ rs), some [gG, gB, gR, gC, mB, mF, mT, mN] => (isArray v x rs ∧ capAx x) ∧ ∀ (v' : Value) (rs' : List Row), isArray v' (stepA gG gB gR gC mB mF mT mN x) rs' → k (.tup [.c (.obj ch.length v'), .agg [.int mB, .int mF, .int mT, .int (stepN gG gB gR gC mB mF mT mN x)], .c (.bool (stepOk gG gB gR gC mB mF mT mN x))]) (ch ++ [.obj true rs']) []
    | _, _ => False
  | _ => False
theorem sMStepX_I (x : AD) : SmOK Try.prog 15 (sMStepX x) := by
  refine smArr Try.call15 fun args ch k w X h0 hs => ?_
  unfold sMStepX at h0
  split at h0
  · rename_i c0 c1 c2 c3 i v e0 e1 e2 e3
    split at h0
    · rename_i o rs gG gB gR gC mB mF mT mN hid hi
      obtain ⟨q0, hi⟩ := ints_cons hi
      obtain ⟨q1, hi⟩ := ints_cons hi
      obtain ⟨q2, hi⟩ := ints_cons hi
      obtain ⟨q3, hi⟩ := ints_cons hi
      obtain ⟨q4, hi⟩ := ints_cons hi
      obtain ⟨q5, hi⟩ := ints_cons hi
      obtain ⟨q6, hi⟩ := ints_cons hi
      obtain ⟨q7, hi⟩ := ints_cons hi
      obtain ⟨⟨hx, hc⟩, h1⟩ := h0
      obtain ⟨O, A, H, C, D, E, so, sc, rfl, hA⟩ := isA_seen hx (hs.seeObj hid)
      have e8 : SA.den (.agg [c0, c1, c2, c3]) = .agg #[.int .i64 gG, .int .i64 gB, .int .i64 gR, .int .i64 gC] := by simp only [SA.den, List.map_cons, List.map_nil, q0, q1, q2, q3]
      have e9 : SA.den (.agg [e0, e1, e2, e3]) = .agg #[.int .i64 mB, .int .i64 mF, .int .i64 mT, .int .i64 mN] := by simp only [SA.den, List.map_cons, List.map_nil, q4, q5, q6, q7]
      refine ⟨stepA gG gB gR gC mB mF mT mN x, fun s => .tup [s, .agg [.int mB, .int mF, .int mT, .int (stepN gG gB gR gC mB mF mT mN x)], .c (.bool (stepOk gG gB gR gC mB mF mT mN x))], fun id v' rs' hv => ?_, ?_⟩
      · by_cases e : id = ch.length
        · subst e; exact .inl (h1 v' rs' hv)
        · exact .inr e
      · simp only [List.map_cons, List.map_nil, den_a, e8, e9]
        exact Calls.mono (mstI_any x O A H C D E so sc gG gB gR gC mB mF mT mN w hA (capA_of hc)) fun e w' ⟨O', A', H', C', D', E', so', sc', he, hn⟩ => ⟨O', A', H', C', D', E', so', sc', fun _ => by rw [he]; rfl, hn⟩
    · exact h0.elim
  · exact h0.elim
theorem sMStepX_S (x : AD) : SmOK Try.prog 11 (sMStepX x) := by
  refine smArr Try.call11 fun args ch k w X h0 hs => ?_
  unfold sMStepX at h0
  split at h0
  · rename_i c0 c1 c2 c3 i v e0 e1 e2 e3
    split at h0
    · rename_i o rs gG gB gR gC mB mF mT mN hid hi
      obtain ⟨q0, hi⟩ := ints_cons hi
      obtain ⟨q1, hi⟩ := ints_cons hi
      obtain ⟨q2, hi⟩ := ints_cons hi
      obtain ⟨q3, hi⟩ := ints_cons hi
      obtain ⟨q4, hi⟩ := ints_cons hi
      obtain ⟨q5, hi⟩ := ints_cons hi
      obtain ⟨q6, hi⟩ := ints_cons hi
      obtain ⟨q7, hi⟩ := ints_cons hi
      obtain ⟨⟨hx, hc⟩, h1⟩ := h0
      obtain ⟨O, A, H, C, D, E, so, sc, rfl, hA⟩ := isA_seen hx (hs.seeObj hid)
      have e8 : SA.den (.agg [c0, c1, c2, c3]) = .agg #[.int .i64 gG, .int .i64 gB, .int .i64 gR, .int .i64 gC] := by simp only [SA.den, List.map_cons, List.map_nil, q0, q1, q2, q3]
      have e9 : SA.den (.agg [e0, e1, e2, e3]) = .agg #[.int .i64 mB, .int .i64 mF, .int .i64 mT, .int .i64 mN] := by simp only [SA.den, List.map_cons, List.map_nil, q4, q5, q6, q7]
      refine ⟨stepA gG gB gR gC mB mF mT mN x, fun s => .tup [s, .agg [.int mB, .int mF, .int mT, .int (stepN gG gB gR gC mB mF mT mN x)], .c (.bool (stepOk gG gB gR gC mB mF mT mN x))], fun id v' rs' hv => ?_, ?_⟩
      · by_cases e : id = ch.length
        · subst e; exact .inl (h1 v' rs' hv)
        · exact .inr e
      · simp only [List.map_cons, List.map_nil, den_a, e8, e9]
        exact Calls.mono (mstS_any x O A H C D E so sc gG gB gR gC mB mF mT mN w hA (capA_of hc)) fun e w' ⟨O', A', H', C', D', E', so', sc', he, hn⟩ => ⟨O', A', H', C', D', E', so', sc', fun _ => by rw [he]; rfl, hn⟩
    · exact h0.elim
  · exact h0.elim
theorem ctoGeometry_T (gGroups gBanks gRows gCols : Int) : (exFn Try.prog {tb := []} 400 Try.f12 ([.a (.agg [.int gGroups, .int gBanks, .int gRows, .int gCols])]) ([]) (fun v _ => v.den = .agg #[.int .i64 (gGroups), .int .i64 (gBanks), .int .i64 (gRows), .int .i64 (gCols)])) = (
  (∀ b0 : Nat,
 (∀ b1 : Nat,
 (∀ b2 : Nat,
 (b0 = b0 ∧
 (b2 = b2 ∧
 (b0 = b0 ∧
 (b2 = b2 ∧
 (b0 = b0 ∧
 (b2 = b2 ∧
 (b0 = b0 ∧
 (b2 = b2 ∧
 (b2 = b2 ∧
 (b1 = b1 ∧
 (b1 = b1 ∧
 (Wa [(Wi gGroups), (Wi gBanks), (Wi gRows), (Wi gCols)]) = (Wa [(Wi gGroups), (Wi gBanks), (Wi gRows), (Wi gCols)])))))))))))))))) := by kernel_rfl
theorem ctoGeometry_any (gGroups gBanks gRows gCols : Int) (w : World) : Calls Try.prog 12 #[.agg #[.int .i64 gGroups, .int .i64 gBanks, .int .i64 gRows, .int .i64 gCols]] w fun e w' => e = .returned (.agg #[.int .i64 (gGroups), .int .i64 (gBanks), .int .i64 (gRows), .int .i64 (gCols)]) ∧ Below w.heap.size w w' := by
  refine fnB (tb := []) trivial Try.func12 (@Eq.mpr _ _ (ctoGeometry_T gGroups gBanks gRows gCols) ?_) (HS.start w (fun _ => False)) (fun v ch' w' hk hs => ⟨by rw [hk], hs.below⟩)
  repeat' (first | exact rfl | exact True.intro | refine And.intro ?_ ?_ | intro _)
  all_goals (try (simp_all; done))
  all_goals (try (simp_all; omega))
def stoGeometry : Sm := fun args ch k =>
  match args with
  | [.a (.agg [c0, c1, c2, c3])] =>
    match ints [c0, c1, c2, c3], bools [] with
    | some [gGroups, gBanks, gRows, gCols], some [] => k (.a (.agg [.int (gGroups), .int (gBanks), .int (gRows), .int (gCols)])) ch []
    | _, _ => False
  | _ => False
theorem stoGeometry_ok {f : FuncId} (hc : ∀ args w, (callFunc f args).run Try.prog w = .ok (.enter f args) w) (h : ∀ (gGroups gBanks gRows gCols : Int) (w : World), Calls Try.prog f #[.agg #[.int .i64 gGroups, .int .i64 gBanks, .int .i64 gRows, .int .i64 gCols]] w fun e w' => e = .returned (.agg #[.int .i64 (gGroups), .int .i64 (gBanks), .int .i64 (gRows), .int .i64 (gCols)]) ∧ Below w.heap.size w w') : SmOK Try.prog f stoGeometry := by
  refine smB hc fun args ch k w X h0 hs => ?_
  unfold stoGeometry at h0
  split at h0
  · split at h0
    · rename_i gGroups gBanks gRows gCols hi hb
      obtain ⟨e0, hi1⟩ := ints_cons hi
      obtain ⟨e1, hi2⟩ := ints_cons hi1
      obtain ⟨e2, hi3⟩ := ints_cons hi2
      obtain ⟨e3, hi4⟩ := ints_cons hi3
      refine ⟨_, h0, ?_⟩
      simp only [List.map_cons, List.map_nil, den_a, den_c, SA.den, e0, e1, e2, e3]
      exact h gGroups gBanks gRows gCols w
    · exact h0.elim
  · exact h0.elim
theorem stoGeometry_okk : SmOK Try.prog 12 stoGeometry := stoGeometry_ok Try.call12 ctoGeometry_any
theorem ctoMove_T (gBank gFrom gTo gNext : Int) : (exFn Try.prog {tb := []} 400 Try.f14 ([.a (.agg [.int gBank, .int gFrom, .int gTo, .int gNext])]) ([]) (fun v _ => v.den = .agg #[.int .i64 (gBank), .int .i64 (gFrom), .int .i64 (gTo), .int .i64 (gNext)])) = (
  (∀ b0 : Nat,
 (∀ b1 : Nat,
 (∀ b2 : Nat,
 (b0 = b0 ∧
 (b2 = b2 ∧
 (b0 = b0 ∧
 (b2 = b2 ∧
 (b0 = b0 ∧
 (b2 = b2 ∧
 (b0 = b0 ∧
 (b2 = b2 ∧
 (b2 = b2 ∧
 (b1 = b1 ∧
 (b1 = b1 ∧
 (Wa [(Wi gBank), (Wi gFrom), (Wi gTo), (Wi gNext)]) = (Wa [(Wi gBank), (Wi gFrom), (Wi gTo), (Wi gNext)])))))))))))))))) := by kernel_rfl
theorem ctoMove_any (gBank gFrom gTo gNext : Int) (w : World) : Calls Try.prog 14 #[.agg #[.int .i64 gBank, .int .i64 gFrom, .int .i64 gTo, .int .i64 gNext]] w fun e w' => e = .returned (.agg #[.int .i64 (gBank), .int .i64 (gFrom), .int .i64 (gTo), .int .i64 (gNext)]) ∧ Below w.heap.size w w' := by
  refine fnB (tb := []) trivial Try.func14 (@Eq.mpr _ _ (ctoMove_T gBank gFrom gTo gNext) ?_) (HS.start w (fun _ => False)) (fun v ch' w' hk hs => ⟨by rw [hk], hs.below⟩)
  repeat' (first | exact rfl | exact True.intro | refine And.intro ?_ ?_ | intro _)
  all_goals (try (simp_all; done))
  all_goals (try (simp_all; omega))
def stoMove : Sm := fun args ch k =>
  match args with
  | [.a (.agg [c0, c1, c2, c3])] =>
    match ints [c0, c1, c2, c3], bools [] with
    | some [gBank, gFrom, gTo, gNext], some [] => k (.a (.agg [.int (gBank), .int (gFrom), .int (gTo), .int (gNext)])) ch []
    | _, _ => False
  | _ => False
theorem stoMove_ok {f : FuncId} (hc : ∀ args w, (callFunc f args).run Try.prog w = .ok (.enter f args) w) (h : ∀ (gBank gFrom gTo gNext : Int) (w : World), Calls Try.prog f #[.agg #[.int .i64 gBank, .int .i64 gFrom, .int .i64 gTo, .int .i64 gNext]] w fun e w' => e = .returned (.agg #[.int .i64 (gBank), .int .i64 (gFrom), .int .i64 (gTo), .int .i64 (gNext)]) ∧ Below w.heap.size w w') : SmOK Try.prog f stoMove := by
  refine smB hc fun args ch k w X h0 hs => ?_
  unfold stoMove at h0
  split at h0
  · split at h0
    · rename_i gBank gFrom gTo gNext hi hb
      obtain ⟨e0, hi1⟩ := ints_cons hi
      obtain ⟨e1, hi2⟩ := ints_cons hi1
      obtain ⟨e2, hi3⟩ := ints_cons hi2
      obtain ⟨e3, hi4⟩ := ints_cons hi3
      refine ⟨_, h0, ?_⟩
      simp only [List.map_cons, List.map_nil, den_a, den_c, SA.den, e0, e1, e2, e3]
      exact h gBank gFrom gTo gNext w
    · exact h0.elim
  · exact h0.elim
theorem stoMove_okk : SmOK Try.prog 14 stoMove := stoMove_ok Try.call14 ctoMove_any
def eqMvB (a b c d e f g h : Int) : Bool := ieq a e && ieq b f && ieq c g && ieq d h
theorem ceqMove_T (aBank aFrom aTo aNext bBank bFrom bTo bNext : Int) : (exFn Try.prog {tb := []} 400 Try.f17 ([.a (.agg [.int aBank, .int aFrom, .int aTo, .int aNext]), .a (.agg [.int bBank, .int bFrom, .int bTo, .int bNext])]) ([]) (fun v _ => v.den = .bool (eqMvB aBank aFrom aTo aNext bBank bFrom bTo bNext))) = (
  (∀ b0 : Nat,
 (∀ b1 : Nat,
 (b0 = b0 ∧
 (b1 = b1 ∧
 (((aBank != bBank) = true →
 (Wb false) = (Wb (eqMvB aBank aFrom aTo aNext bBank bFrom bTo bNext))) ∧
 ((aBank != bBank) = false →
 (b0 = b0 ∧
 (b1 = b1 ∧
 (((aFrom != bFrom) = true →
 (Wb false) = (Wb (eqMvB aBank aFrom aTo aNext bBank bFrom bTo bNext))) ∧
 ((aFrom != bFrom) = false →
 (b0 = b0 ∧
 (b1 = b1 ∧
 (((aTo != bTo) = true →
 (Wb false) = (Wb (eqMvB aBank aFrom aTo aNext bBank bFrom bTo bNext))) ∧
 ((aTo != bTo) = false →
 (b0 = b0 ∧
 (b1 = b1 ∧
 (((aNext != bNext) = true →
 (Wb false) = (Wb (eqMvB aBank aFrom aTo aNext bBank bFrom bTo bNext))) ∧
 ((aNext != bNext) = false →
 (Wb true) = (Wb (eqMvB aBank aFrom aTo aNext bBank bFrom bTo bNext))))))))))))))))))))) := by kernel_rfl
theorem ceqMove_any (aBank aFrom aTo aNext bBank bFrom bTo bNext : Int) (w : World) : Calls Try.prog 17 #[.agg #[.int .i64 aBank, .int .i64 aFrom, .int .i64 aTo, .int .i64 aNext], .agg #[.int .i64 bBank, .int .i64 bFrom, .int .i64 bTo, .int .i64 bNext]] w fun e w' => e = .returned (.bool (eqMvB aBank aFrom aTo aNext bBank bFrom bTo bNext)) ∧ Below w.heap.size w w' := by
  refine fnB (tb := []) trivial Try.func17 (@Eq.mpr _ _ (ceqMove_T aBank aFrom aTo aNext bBank bFrom bTo bNext) ?_) (HS.start w (fun _ => False)) (fun v ch' w' hk hs => ⟨by rw [hk], hs.below⟩)
  repeat' (first | with_reducible exact rfl | exact True.intro | refine And.intro ?_ ?_ | intro _)
  all_goals (simp_all [eqMvB, ieq]; done)
def seqMove : Sm := fun args ch k =>
  match args with
  | [.a (.agg [c0, c1, c2, c3]), .a (.agg [c4, c5, c6, c7])] =>
    match ints [c0, c1, c2, c3, c4, c5, c6, c7], bools [] with
    | some [aBank, aFrom, aTo, aNext, bBank, bFrom, bTo, bNext], some [] => k (.a (.c (.bool (eqMvB aBank aFrom aTo aNext bBank bFrom bTo bNext)))) ch []
    | _, _ => False
  | _ => False
theorem seqMove_ok {f : FuncId} (hc : ∀ args w, (callFunc f args).run Try.prog w = .ok (.enter f args) w) (h : ∀ (aBank aFrom aTo aNext bBank bFrom bTo bNext : Int) (w : World), Calls Try.prog f #[.agg #[.int .i64 aBank, .int .i64 aFrom, .int .i64 aTo, .int .i64 aNext], .agg #[.int .i64 bBank, .int .i64 bFrom, .int .i64 bTo, .int .i64 bNext]] w fun e w' => e = .returned (.bool (eqMvB aBank aFrom aTo aNext bBank bFrom bTo bNext)) ∧ Below w.heap.size w w') : SmOK Try.prog f seqMove := by
  refine smB hc fun args ch k w X h0 hs => ?_
  unfold seqMove at h0
  split at h0
  · split at h0
    · rename_i aBank aFrom aTo aNext bBank bFrom bTo bNext hi hb
      obtain ⟨e0, hi1⟩ := ints_cons hi
      obtain ⟨e1, hi2⟩ := ints_cons hi1
      obtain ⟨e2, hi3⟩ := ints_cons hi2
      obtain ⟨e3, hi4⟩ := ints_cons hi3
      obtain ⟨e4, hi5⟩ := ints_cons hi4
      obtain ⟨e5, hi6⟩ := ints_cons hi5
      obtain ⟨e6, hi7⟩ := ints_cons hi6
      obtain ⟨e7, hi8⟩ := ints_cons hi7
      refine ⟨_, h0, ?_⟩
      simp only [List.map_cons, List.map_nil, den_a, den_c, SA.den, e0, e1, e2, e3, e4, e5, e6, e7]
      exact h aBank aFrom aTo aNext bBank bFrom bTo bNext w
    · exact h0.elim
  · exact h0.elim
theorem seqMove_okk : SmOK Try.prog 17 seqMove := seqMove_ok Try.call17 ceqMove_any
theorem eqMv_self (a b c d : Int) : eqMvB a b c d a b c d = true := by simp [eqMvB, ieq]
theorem law_FnExactMoveStep_T (A : Int) (B : Int) (C : Int) (D : Int) (v0 : Value) (rs0 : List Row) (E : Int) (F : Int) (G : Int) (H : Int) (x0 : AD) : (exFn Try.prog {tb := [(13, sToArrX x0), (16, sEqArrayO), (18, sMarkArrayO), (19, sHeldArrayO), (10, sSzArrayO), (12, stoGeometry), (14, stoMove), (17, seqMove), (15, sMStepX x0), (11, sMStepX x0)], O := [(5, [11, 12, 0, 1, 2, 3, 4, 5, 6, 7, 8, 9, 10, 13, 14, 15]), (7, [10, 11, 0, 1, 2, 3, 4, 5, 6, 7, 8, 9, 12, 13, 14]), (24, [11, 12, 0, 1, 2, 3, 4, 5, 6, 7, 8, 9, 10, 13, 14, 15])]} 400 Try.f3 ([.a (.agg [.int A, .int B, .int C, .int D]), .a (.c (.obj 0 v0)), .a (.agg [.int E, .int F, .int G, .int H])]) ([.obj false rs0]) (fun v _ => v.den = .bool true)) = (
  (∀ b0 : Nat,
 ((wholeC true v0 3) ∧
 (∀ b1 : Nat,
 (∀ b2 : Nat,
 (b1 = b1 ∧
 (∃ x3 : AD, (((isArray v0 x3 rs0) ∧
 ((lensAx x3) ∧
 (szK1 (1048576 : Int)))) ∧
 ((Wb true) = (Wb true) ∧
 (∀ z4 : Int,
 ((szO z4 (1048576 : Int)) →
 ((cap1Ax x3) →
 (((decide (z4 < (0 : Int))) = true →
 (Wb true) = (Wb true)) ∧
 ((decide (z4 < (0 : Int))) = false →
 ((∀ b5 : Nat,
 (∀ b6 : Nat,
 (b0 = b0 ∧
 (b1 = b1 ∧
 (((isArray v0 x0 rs0) ∧
 (capAx x0)) ∧
 (∀ v'7 : Value,
 (∀ rs'8 : (List Row),
 ((isArray v'7 x0 rs'8) →
 (b2 = b2 ∧
 (((isArray v'7 x0 rs'8) ∧
 (capAx x0)) ∧
 (∀ v'9 : Value,
 (∀ rs'10 : (List Row),
 ((isArray v'9 (stepA A B C D E F G H x0) rs'10) →
 ((b5 = b5 ∧
 (wholeC true v'9 3)) ∧
 (b6 = b6 ∧
 (b1 = b1 ∧
 (((isArray v0 x0 rs0) ∧
 (capAx x0)) ∧
 (∀ v'11 : Value,
 (∀ rs'12 : (List Row),
 ((isArray v'11 x0 rs'12) →
 (∀ b13 : Nat,
 ((b13 = b13 ∧
 (wholeC true v'11 3)) ∧
 ((∀ b14 : Nat,
 (∀ b15 : Nat,
 (b0 = b0 ∧
 (b13 = b13 ∧
 (b2 = b2 ∧
 (((isArray v'11 x0 rs'12) ∧
 (capAx x0)) ∧
 (∀ v'16 : Value,
 (∀ rs'17 : (List Row),
 ((isArray v'16 (stepA A B C D E F G H x0) rs'17) →
 ((b14 = b14 ∧
 (wholeC true v'16 3)) ∧
 (b15 = b15 ∧
 (b14 = b14 ∧
 (b5 = b5 ∧
 (∃ x18 : AD, (((isArray v'16 x18 rs'17) ∧
 ((isArray v'9 x18 rs'10) ∧
 (capAx x18))) ∧
 (b15 = b15 ∧
 (b6 = b6 ∧
 (((!(eqMvB E F G (stepN A B C D E F G H x0) E F G (stepN A B C D E F G H x0))) = false →
 ((((stepOk A B C D E F G H x0) != (stepOk A B C D E F G H x0)) = true →
 (Wb false) = (Wb true)) ∧
 (((stepOk A B C D E F G H x0) != (stepOk A B C D E F G H x0)) = false →
 (b13 = b13 ∧
 (b1 = b1 ∧
 (((isArray v0 x0 rs0) ∧
 (capAx x0)) ∧
 (∀ v'19 : Value,
 (∀ rs'20 : (List Row),
 ((isArray v'19 x0 rs'20) →
 (True ∧
 (∃ x21 : AD, (((isArray v'11 x21 rs'12) ∧
 ((isArray v'19 x21 rs'20) ∧
 (capAx x21))) ∧
 (True ∧
 (b13 = b13 ∧
 (∃ x22 : AD, (((isArray v'11 x22 rs'12) ∧
 ((capAx x22) ∧
 (mrkC (1 : Int)))) ∧
 ((endC (1 : Int) (endArray (1 : Int) x22) (50331648 : Int)) →
 (∀ rs'23 : (List Row),
 ((isArray v'11 (markArrayD (1 : Int) x22) rs'23) →
 (((decide ((endArray (1 : Int) x22) < (0 : Int))) = false →
 (b14 = b14 ∧
 (b5 = b5 ∧
 (∃ x24 : AD, (((isArray v'16 x24 rs'17) ∧
 ((isArray v'9 x24 rs'10) ∧
 (capAx x24))) ∧
 (b15 = b15 ∧
 (b6 = b6 ∧
 (((!(eqMvB E F G (stepN A B C D E F G H x0) E F G (stepN A B C D E F G H x0))) = false →
 ((((stepOk A B C D E F G H x0) != (stepOk A B C D E F G H x0)) = true →
 (Wb false) = (Wb true)) ∧
 (((stepOk A B C D E F G H x0) != (stepOk A B C D E F G H x0)) = false →
 (b14 = b14 ∧
 (∃ x25 : AD, (((isArray v'16 x25 rs'17) ∧
 ((capAx x25) ∧
 (mrkC (1 : Int)))) ∧
 ((endC (1 : Int) (endArray (1 : Int) x25) (50331648 : Int)) →
 (∀ rs'26 : (List Row),
 ((isArray v'16 (markArrayD (1 : Int) x25) rs'26) →
 (b14 = b14 ∧
 (∃ x27 : AD, (((isArray v'16 (markArrayD (1 : Int) x27) rs'26) ∧
 ((capAx x27) ∧
 (mrkC (1 : Int)))) ∧
 (((decide ((endArray (1 : Int) x27) < (0 : Int))) = true →
 (Wb false) = (Wb true)) ∧
 ((decide ((endArray (1 : Int) x27) < (0 : Int))) = false →
 ((((endArray (1 : Int) x27) != (endArray (1 : Int) x25)) = true →
 (Wb false) = (Wb true)) ∧
 (((endArray (1 : Int) x27) != (endArray (1 : Int) x25)) = false →
 ((∀ b28 : Nat,
 (∀ b29 : Nat,
 (b0 = b0 ∧
 (b1 = b1 ∧
 (((isArray v0 x0 rs0) ∧
 (capAx x0)) ∧
 (∀ v'30 : Value,
 (∀ rs'31 : (List Row),
 ((isArray v'30 x0 rs'31) →
 (b2 = b2 ∧
 (((isArray v'30 x0 rs'31) ∧
 (capAx x0)) ∧
 (∀ v'32 : Value,
 (∀ rs'33 : (List Row),
 ((isArray v'32 (stepA A B C D E F G H x0) rs'33) →
 ((b28 = b28 ∧
 (wholeC true v'32 3)) ∧
 (b29 = b29 ∧
 (b28 = b28 ∧
 (b5 = b5 ∧
 (∃ x34 : AD, (((isArray v'32 x34 rs'33) ∧
 ((isArray v'9 x34 rs'10) ∧
 (capAx x34))) ∧
 (b29 = b29 ∧
 (b6 = b6 ∧
 (((!(eqMvB E F G (stepN A B C D E F G H x0) E F G (stepN A B C D E F G H x0))) = false →
 ((((stepOk A B C D E F G H x0) != (stepOk A B C D E F G H x0)) = true →
 (Wb false) = (Wb true)) ∧
 (((stepOk A B C D E F G H x0) != (stepOk A B C D E F G H x0)) = false →
 (b14 = b14 ∧
 (∃ x35 : AD, (((isArray v'16 (markArrayD (1 : Int) x35) rs'26) ∧
 ((capAx x35) ∧
 (mrkC (1 : Int)))) ∧
 (((decide ((endArray (1 : Int) x35) < (0 : Int))) = true →
 (Wb false) = (Wb true)) ∧
 ((decide ((endArray (1 : Int) x35) < (0 : Int))) = false →
 ((((endArray (1 : Int) x35) != (endArray (1 : Int) x25)) = true →
 (Wb false) = (Wb true)) ∧
 (((endArray (1 : Int) x35) != (endArray (1 : Int) x25)) = false →
 (Wb true) = (Wb true))))))))))) ∧
 ((!(eqMvB E F G (stepN A B C D E F G H x0) E F G (stepN A B C D E F G H x0))) = true →
 (Wb false) = (Wb true)))))))))))))))))))))))) ∧
 (b0 = b0 ∧
 (b1 = b1 ∧
 (b2 = b2 ∧
 ((True ∧
 ((((isArray v0 x0 rs0) ∧
 (capAx x0)) ∧
 (∀ v'36 : Value,
 (∀ rs'37 : (List Row),
 ((isArray v'36 x0 rs'37) →
 (True ∧
 ((True ∧
 ((((isArray v'36 x0 rs'37) ∧
 (capAx x0)) ∧
 (∀ v'38 : Value,
 (∀ rs'39 : (List Row),
 ((isArray v'38 (stepA A B C D E F G H x0) rs'39) →
 (True ∧
 ((∀ b40 : Nat,
 (True ∧
 (∀ b41 : Nat,
 (True ∧
 ((b40 = b40 ∧
 (wholeC true v'38 3)) ∧
 (True ∧
 (b41 = b41 ∧
 (True ∧
 (true = true ∧
 (∀ Q42 : ((List SV) →
 ((List Ch) →
 Prop)),
 ((∀ b43 : Nat,
 (∀ b44 : Nat,
 (b0 = b0 ∧
 (b1 = b1 ∧
 (((isArray v0 x0 rs0) ∧
 (capAx x0)) ∧
 (∀ v'45 : Value,
 (∀ rs'46 : (List Row),
 ((isArray v'45 x0 rs'46) →
 (b2 = b2 ∧
 (((isArray v'45 x0 rs'46) ∧
 (capAx x0)) ∧
 (∀ v'47 : Value,
 (∀ rs'48 : (List Row),
 ((isArray v'47 (stepA A B C D E F G H x0) rs'48) →
 ((b43 = b43 ∧
 (wholeC true v'47 3)) ∧
 (b44 = b44 ∧
 (Q42 [(aV [(Ci A), (Ci B), (Ci C), (Ci D)]), (aV [(Ci A), (Ci B), (Ci C), (Ci D)]), (oV 0 v0), (oV 16 v'45), (aV [(Ci E), (Ci F), (Ci G), (Ci H)]), (aV [(Ci E), (Ci F), (Ci G), (Ci H)]), (uV [(Ao 17 v'47), (Ag [(Ci E), (Ci F), (Ci G), (Ci (stepN A B C D E F G H x0))]), (Ab (stepOk A B C D E F G H x0))]), (uV [(Ao 17 v'47), (Ag [(Ci E), (Ci F), (Ci G), (Ci (stepN A B C D E F G H x0))]), (Ab (stepOk A B C D E F G H x0))]), (oV 17 v'47), (aV [(Ci E), (Ci F), (Ci G), (Ci (stepN A B C D E F G H x0))]), (bV (stepOk A B C D E F G H x0)), (pV 14 b43 0), (pV 15 b44 0), (bV (stepOk A B C D E F G H x0))] [(Ho false rs0), (Hc b0 23 [(Ci A), (Ci B), (Ci C), (Ci D)]), (Hw b1 27 true 3 (Co 0 v0)), (Hc b2 29 [(Ci E), (Ci F), (Ci G), (Ci H)]), (Hw b5 33 true 3 (Co 7 v'9)), (Hc b6 34 [(Ci E), (Ci F), (Ci G), (Ci (stepN A B C D E F G H x0))]), (Ho true rs'8), (Ho true rs'10), (Ho true rs'23), (Hw b13 33 true 3 (Co 8 v'11)), (Hw b14 33 true 3 (Co 12 v'16)), (Hc b15 34 [(Ci E), (Ci F), (Ci G), (Ci (stepN A B C D E F G H x0))]), (Ho true rs'26), (Ho true rs'20), (Hw b43 33 true 3 (Co 17 v'47)), (Hc b44 34 [(Ci E), (Ci F), (Ci G), (Ci (stepN A B C D E F G H x0))]), (Ho true rs'46), (Ho true rs'48)])))))))))))))))) →
 (Q42 [(aV [(Ci A), (Ci B), (Ci C), (Ci D)]), (aV [(Ci A), (Ci B), (Ci C), (Ci D)]), (oV 0 v0), (oV 16 v'36), (aV [(Ci E), (Ci F), (Ci G), (Ci H)]), (aV [(Ci E), (Ci F), (Ci G), (Ci H)]), (uV [(Ao 17 v'38), (Ag [(Ci E), (Ci F), (Ci G), (Ci (stepN A B C D E F G H x0))]), (Ab (stepOk A B C D E F G H x0))]), (uV [(Ao 17 v'38), (Ag [(Ci E), (Ci F), (Ci G), (Ci (stepN A B C D E F G H x0))]), (Ab (stepOk A B C D E F G H x0))]), (oV 17 v'38), (aV [(Ci E), (Ci F), (Ci G), (Ci (stepN A B C D E F G H x0))]), (bV (stepOk A B C D E F G H x0)), (pV 14 b40 0), (pV 15 b41 0), (bV (stepOk A B C D E F G H x0))] [(Ho false rs0), (Hc b0 23 [(Ci A), (Ci B), (Ci C), (Ci D)]), (Hw b1 27 true 3 (Co 0 v0)), (Hc b2 29 [(Ci E), (Ci F), (Ci G), (Ci H)]), (Hw b5 33 true 3 (Co 7 v'9)), (Hc b6 34 [(Ci E), (Ci F), (Ci G), (Ci (stepN A B C D E F G H x0))]), (Ho true rs'8), (Ho true rs'10), (Ho true rs'23), (Hw b13 33 true 3 (Co 8 v'11)), (Hw b14 33 true 3 (Co 12 v'16)), (Hc b15 34 [(Ci E), (Ci F), (Ci G), (Ci (stepN A B C D E F G H x0))]), (Ho true rs'26), (Ho true rs'20), (Hw b40 33 true 3 (Co 17 v'38)), (Hc b41 34 [(Ci E), (Ci F), (Ci G), (Ci (stepN A B C D E F G H x0))]), (Ho true rs'37), (Ho true rs'39)])))))))))))) ∧
 (∀ b49 : Nat,
 (True ∧
 (∀ b50 : Nat,
 (True ∧
 ((b50 = b50 ∧
 (wholeC true v'38 3)) ∧
 (True ∧
 (b49 = b49 ∧
 (True ∧
 (true = true ∧
 (∀ Q51 : ((List SV) →
 ((List Ch) →
 Prop)),
 ((∀ b52 : Nat,
 (∀ b53 : Nat,
 (b0 = b0 ∧
 (b1 = b1 ∧
 (((isArray v0 x0 rs0) ∧
 (capAx x0)) ∧
 (∀ v'54 : Value,
 (∀ rs'55 : (List Row),
 ((isArray v'54 x0 rs'55) →
 (b2 = b2 ∧
 (((isArray v'54 x0 rs'55) ∧
 (capAx x0)) ∧
 (∀ v'56 : Value,
 (∀ rs'57 : (List Row),
 ((isArray v'56 (stepA A B C D E F G H x0) rs'57) →
 ((b52 = b52 ∧
 (wholeC true v'56 3)) ∧
 (b53 = b53 ∧
 (Q51 [(aV [(Ci A), (Ci B), (Ci C), (Ci D)]), (aV [(Ci A), (Ci B), (Ci C), (Ci D)]), (oV 0 v0), (oV 16 v'54), (aV [(Ci E), (Ci F), (Ci G), (Ci H)]), (aV [(Ci E), (Ci F), (Ci G), (Ci H)]), (uV [(Ao 17 v'56), (Ag [(Ci E), (Ci F), (Ci G), (Ci (stepN A B C D E F G H x0))]), (Ab (stepOk A B C D E F G H x0))]), (uV [(Ao 17 v'56), (Ag [(Ci E), (Ci F), (Ci G), (Ci (stepN A B C D E F G H x0))]), (Ab (stepOk A B C D E F G H x0))]), (oV 17 v'56), (aV [(Ci E), (Ci F), (Ci G), (Ci (stepN A B C D E F G H x0))]), (bV (stepOk A B C D E F G H x0)), (pV 14 b52 0), (pV 15 b53 0), (bV (stepOk A B C D E F G H x0))] [(Ho false rs0), (Hc b0 23 [(Ci A), (Ci B), (Ci C), (Ci D)]), (Hw b1 27 true 3 (Co 0 v0)), (Hc b2 29 [(Ci E), (Ci F), (Ci G), (Ci H)]), (Hw b5 33 true 3 (Co 7 v'9)), (Hc b6 34 [(Ci E), (Ci F), (Ci G), (Ci (stepN A B C D E F G H x0))]), (Ho true rs'8), (Ho true rs'10), (Ho true rs'23), (Hw b13 33 true 3 (Co 8 v'11)), (Hw b14 33 true 3 (Co 12 v'16)), (Hc b15 34 [(Ci E), (Ci F), (Ci G), (Ci (stepN A B C D E F G H x0))]), (Ho true rs'26), (Ho true rs'20), (Hw b52 33 true 3 (Co 17 v'56)), (Hc b53 34 [(Ci E), (Ci F), (Ci G), (Ci (stepN A B C D E F G H x0))]), (Ho true rs'55), (Ho true rs'57)])))))))))))))))) →
 (Q51 [(aV [(Ci A), (Ci B), (Ci C), (Ci D)]), (aV [(Ci A), (Ci B), (Ci C), (Ci D)]), (oV 0 v0), (oV 16 v'36), (aV [(Ci E), (Ci F), (Ci G), (Ci H)]), (aV [(Ci E), (Ci F), (Ci G), (Ci H)]), (uV [(Ao 17 v'38), (Ag [(Ci E), (Ci F), (Ci G), (Ci (stepN A B C D E F G H x0))]), (Ab (stepOk A B C D E F G H x0))]), (uV [(Ao 17 v'38), (Ag [(Ci E), (Ci F), (Ci G), (Ci (stepN A B C D E F G H x0))]), (Ab (stepOk A B C D E F G H x0))]), (oV 17 v'38), (aV [(Ci E), (Ci F), (Ci G), (Ci (stepN A B C D E F G H x0))]), (bV (stepOk A B C D E F G H x0)), (pV 14 b50 0), (pV 15 b49 0), (bV (stepOk A B C D E F G H x0))] [(Ho false rs0), (Hc b0 23 [(Ci A), (Ci B), (Ci C), (Ci D)]), (Hw b1 27 true 3 (Co 0 v0)), (Hc b2 29 [(Ci E), (Ci F), (Ci G), (Ci H)]), (Hw b5 33 true 3 (Co 7 v'9)), (Hc b6 34 [(Ci E), (Ci F), (Ci G), (Ci (stepN A B C D E F G H x0))]), (Ho true rs'8), (Ho true rs'10), (Ho true rs'23), (Hw b13 33 true 3 (Co 8 v'11)), (Hw b14 33 true 3 (Co 12 v'16)), (Hc b15 34 [(Ci E), (Ci F), (Ci G), (Ci (stepN A B C D E F G H x0))]), (Ho true rs'26), (Ho true rs'20), (Hw b50 33 true 3 (Co 17 v'38)), (Hc b49 34 [(Ci E), (Ci F), (Ci G), (Ci (stepN A B C D E F G H x0))]), (Ho true rs'37), (Ho true rs'39)])))))))))))))))))) ∧
 ((∀ b58 : Nat,
 (True ∧
 ((((isArray v'36 x0 rs'37) ∧
 (capAx x0)) ∧
 (∀ v'59 : Value,
 (∀ rs'60 : (List Row),
 ((isArray v'59 (stepA A B C D E F G H x0) rs'60) →
 (True ∧
 (∀ b61 : Nat,
 (True ∧
 ((b58 = b58 ∧
 (wholeC true v'59 3)) ∧
 (True ∧
 (b61 = b61 ∧
 (True ∧
 (true = true ∧
 (∀ Q62 : ((List SV) →
 ((List Ch) →
 Prop)),
 ((∀ b63 : Nat,
 (∀ b64 : Nat,
 (b0 = b0 ∧
 (b1 = b1 ∧
 (((isArray v0 x0 rs0) ∧
 (capAx x0)) ∧
 (∀ v'65 : Value,
 (∀ rs'66 : (List Row),
 ((isArray v'65 x0 rs'66) →
 (b2 = b2 ∧
 (((isArray v'65 x0 rs'66) ∧
 (capAx x0)) ∧
 (∀ v'67 : Value,
 (∀ rs'68 : (List Row),
 ((isArray v'67 (stepA A B C D E F G H x0) rs'68) →
 ((b63 = b63 ∧
 (wholeC true v'67 3)) ∧
 (b64 = b64 ∧
 (Q62 [(aV [(Ci A), (Ci B), (Ci C), (Ci D)]), (aV [(Ci A), (Ci B), (Ci C), (Ci D)]), (oV 0 v0), (oV 16 v'65), (aV [(Ci E), (Ci F), (Ci G), (Ci H)]), (aV [(Ci E), (Ci F), (Ci G), (Ci H)]), (uV [(Ao 17 v'67), (Ag [(Ci E), (Ci F), (Ci G), (Ci (stepN A B C D E F G H x0))]), (Ab (stepOk A B C D E F G H x0))]), (uV [(Ao 17 v'67), (Ag [(Ci E), (Ci F), (Ci G), (Ci (stepN A B C D E F G H x0))]), (Ab (stepOk A B C D E F G H x0))]), (oV 17 v'67), (aV [(Ci E), (Ci F), (Ci G), (Ci (stepN A B C D E F G H x0))]), (bV (stepOk A B C D E F G H x0)), (pV 14 b63 0), (pV 15 b64 0), (bV (stepOk A B C D E F G H x0))] [(Ho false rs0), (Hc b0 23 [(Ci A), (Ci B), (Ci C), (Ci D)]), (Hw b1 27 true 3 (Co 0 v0)), (Hc b2 29 [(Ci E), (Ci F), (Ci G), (Ci H)]), (Hw b5 33 true 3 (Co 7 v'9)), (Hc b6 34 [(Ci E), (Ci F), (Ci G), (Ci (stepN A B C D E F G H x0))]), (Ho true rs'8), (Ho true rs'10), (Ho true rs'23), (Hw b13 33 true 3 (Co 8 v'11)), (Hw b14 33 true 3 (Co 12 v'16)), (Hc b15 34 [(Ci E), (Ci F), (Ci G), (Ci (stepN A B C D E F G H x0))]), (Ho true rs'26), (Ho true rs'20), (Hw b63 33 true 3 (Co 17 v'67)), (Hc b64 34 [(Ci E), (Ci F), (Ci G), (Ci (stepN A B C D E F G H x0))]), (Ho true rs'66), (Ho true rs'68)])))))))))))))))) →
 (Q62 [(aV [(Ci A), (Ci B), (Ci C), (Ci D)]), (aV [(Ci A), (Ci B), (Ci C), (Ci D)]), (oV 0 v0), (oV 16 v'36), (aV [(Ci E), (Ci F), (Ci G), (Ci H)]), (aV [(Ci E), (Ci F), (Ci G), (Ci H)]), (uV [(Ao 17 v'59), (Ag [(Ci E), (Ci F), (Ci G), (Ci (stepN A B C D E F G H x0))]), (Ab (stepOk A B C D E F G H x0))]), (uV [(Ao 17 v'59), (Ag [(Ci E), (Ci F), (Ci G), (Ci (stepN A B C D E F G H x0))]), (Ab (stepOk A B C D E F G H x0))]), (oV 17 v'59), (aV [(Ci E), (Ci F), (Ci G), (Ci (stepN A B C D E F G H x0))]), (bV (stepOk A B C D E F G H x0)), (pV 14 b58 0), (pV 15 b61 0), (bV (stepOk A B C D E F G H x0))] [(Ho false rs0), (Hc b0 23 [(Ci A), (Ci B), (Ci C), (Ci D)]), (Hw b1 27 true 3 (Co 0 v0)), (Hc b2 29 [(Ci E), (Ci F), (Ci G), (Ci H)]), (Hw b5 33 true 3 (Co 7 v'9)), (Hc b6 34 [(Ci E), (Ci F), (Ci G), (Ci (stepN A B C D E F G H x0))]), (Ho true rs'8), (Ho true rs'10), (Ho true rs'23), (Hw b13 33 true 3 (Co 8 v'11)), (Hw b14 33 true 3 (Co 12 v'16)), (Hc b15 34 [(Ci E), (Ci F), (Ci G), (Ci (stepN A B C D E F G H x0))]), (Ho true rs'26), (Ho true rs'20), (Hw b58 33 true 3 (Co 17 v'59)), (Hc b61 34 [(Ci E), (Ci F), (Ci G), (Ci (stepN A B C D E F G H x0))]), (Ho true rs'37), (Ho true rs'60)]))))))))))))))) ∧
 (∀ b69 : Nat,
 (True ∧
 (((isArray v'36 x0 rs'37) ∧
 (capAx x0)) ∧
 (∀ v'70 : Value,
 (∀ rs'71 : (List Row),
 ((isArray v'70 (stepA A B C D E F G H x0) rs'71) →
 (True ∧
 ((b58 = b58 ∧
 (wholeC true v'70 3)) ∧
 (True ∧
 (b69 = b69 ∧
 (True ∧
 (true = true ∧
 (∀ Q72 : ((List SV) →
 ((List Ch) →
 Prop)),
 ((∀ b73 : Nat,
 (∀ b74 : Nat,
 (b0 = b0 ∧
 (b1 = b1 ∧
 (((isArray v0 x0 rs0) ∧
 (capAx x0)) ∧
 (∀ v'75 : Value,
 (∀ rs'76 : (List Row),
 ((isArray v'75 x0 rs'76) →
 (b2 = b2 ∧
 (((isArray v'75 x0 rs'76) ∧
 (capAx x0)) ∧
 (∀ v'77 : Value,
 (∀ rs'78 : (List Row),
 ((isArray v'77 (stepA A B C D E F G H x0) rs'78) →
 ((b73 = b73 ∧
 (wholeC true v'77 3)) ∧
 (b74 = b74 ∧
 (Q72 [(aV [(Ci A), (Ci B), (Ci C), (Ci D)]), (aV [(Ci A), (Ci B), (Ci C), (Ci D)]), (oV 0 v0), (oV 16 v'75), (aV [(Ci E), (Ci F), (Ci G), (Ci H)]), (aV [(Ci E), (Ci F), (Ci G), (Ci H)]), (uV [(Ao 17 v'77), (Ag [(Ci E), (Ci F), (Ci G), (Ci (stepN A B C D E F G H x0))]), (Ab (stepOk A B C D E F G H x0))]), (uV [(Ao 17 v'77), (Ag [(Ci E), (Ci F), (Ci G), (Ci (stepN A B C D E F G H x0))]), (Ab (stepOk A B C D E F G H x0))]), (oV 17 v'77), (aV [(Ci E), (Ci F), (Ci G), (Ci (stepN A B C D E F G H x0))]), (bV (stepOk A B C D E F G H x0)), (pV 14 b73 0), (pV 15 b74 0), (bV (stepOk A B C D E F G H x0))] [(Ho false rs0), (Hc b0 23 [(Ci A), (Ci B), (Ci C), (Ci D)]), (Hw b1 27 true 3 (Co 0 v0)), (Hc b2 29 [(Ci E), (Ci F), (Ci G), (Ci H)]), (Hw b5 33 true 3 (Co 7 v'9)), (Hc b6 34 [(Ci E), (Ci F), (Ci G), (Ci (stepN A B C D E F G H x0))]), (Ho true rs'8), (Ho true rs'10), (Ho true rs'23), (Hw b13 33 true 3 (Co 8 v'11)), (Hw b14 33 true 3 (Co 12 v'16)), (Hc b15 34 [(Ci E), (Ci F), (Ci G), (Ci (stepN A B C D E F G H x0))]), (Ho true rs'26), (Ho true rs'20), (Hw b73 33 true 3 (Co 17 v'77)), (Hc b74 34 [(Ci E), (Ci F), (Ci G), (Ci (stepN A B C D E F G H x0))]), (Ho true rs'76), (Ho true rs'78)])))))))))))))))) →
 (Q72 [(aV [(Ci A), (Ci B), (Ci C), (Ci D)]), (aV [(Ci A), (Ci B), (Ci C), (Ci D)]), (oV 0 v0), (oV 16 v'36), (aV [(Ci E), (Ci F), (Ci G), (Ci H)]), (aV [(Ci E), (Ci F), (Ci G), (Ci H)]), (uV [(Ao 17 v'70), (Ag [(Ci E), (Ci F), (Ci G), (Ci (stepN A B C D E F G H x0))]), (Ab (stepOk A B C D E F G H x0))]), (uV [(Ao 17 v'70), (Ag [(Ci E), (Ci F), (Ci G), (Ci (stepN A B C D E F G H x0))]), (Ab (stepOk A B C D E F G H x0))]), (oV 17 v'70), (aV [(Ci E), (Ci F), (Ci G), (Ci (stepN A B C D E F G H x0))]), (bV (stepOk A B C D E F G H x0)), (pV 14 b58 0), (pV 15 b69 0), (bV (stepOk A B C D E F G H x0))] [(Ho false rs0), (Hc b0 23 [(Ci A), (Ci B), (Ci C), (Ci D)]), (Hw b1 27 true 3 (Co 0 v0)), (Hc b2 29 [(Ci E), (Ci F), (Ci G), (Ci H)]), (Hw b5 33 true 3 (Co 7 v'9)), (Hc b6 34 [(Ci E), (Ci F), (Ci G), (Ci (stepN A B C D E F G H x0))]), (Ho true rs'8), (Ho true rs'10), (Ho true rs'23), (Hw b13 33 true 3 (Co 8 v'11)), (Hw b14 33 true 3 (Co 12 v'16)), (Hc b15 34 [(Ci E), (Ci F), (Ci G), (Ci (stepN A B C D E F G H x0))]), (Ho true rs'26), (Ho true rs'20), (Hw b58 33 true 3 (Co 17 v'70)), (Hc b69 34 [(Ci E), (Ci F), (Ci G), (Ci (stepN A B C D E F G H x0))]), (Ho true rs'37), (Ho true rs'71)])))))))))))))))))) ∧
 (∀ b79 : Nat,
 (True ∧
 ((((isArray v'36 x0 rs'37) ∧
 (capAx x0)) ∧
 (∀ v'80 : Value,
 (∀ rs'81 : (List Row),
 ((isArray v'80 (stepA A B C D E F G H x0) rs'81) →
 (True ∧
 (∀ b82 : Nat,
 (True ∧
 ((b82 = b82 ∧
 (wholeC true v'80 3)) ∧
 (True ∧
 (b79 = b79 ∧
 (True ∧
 (true = true ∧
 (∀ Q83 : ((List SV) →
 ((List Ch) →
 Prop)),
 ((∀ b84 : Nat,
 (∀ b85 : Nat,
 (b0 = b0 ∧
 (b1 = b1 ∧
 (((isArray v0 x0 rs0) ∧
 (capAx x0)) ∧
 (∀ v'86 : Value,
 (∀ rs'87 : (List Row),
 ((isArray v'86 x0 rs'87) →
 (b2 = b2 ∧
 (((isArray v'86 x0 rs'87) ∧
 (capAx x0)) ∧
 (∀ v'88 : Value,
 (∀ rs'89 : (List Row),
 ((isArray v'88 (stepA A B C D E F G H x0) rs'89) →
 ((b84 = b84 ∧
 (wholeC true v'88 3)) ∧
 (b85 = b85 ∧
 (Q83 [(aV [(Ci A), (Ci B), (Ci C), (Ci D)]), (aV [(Ci A), (Ci B), (Ci C), (Ci D)]), (oV 0 v0), (oV 16 v'86), (aV [(Ci E), (Ci F), (Ci G), (Ci H)]), (aV [(Ci E), (Ci F), (Ci G), (Ci H)]), (uV [(Ao 17 v'88), (Ag [(Ci E), (Ci F), (Ci G), (Ci (stepN A B C D E F G H x0))]), (Ab (stepOk A B C D E F G H x0))]), (uV [(Ao 17 v'88), (Ag [(Ci E), (Ci F), (Ci G), (Ci (stepN A B C D E F G H x0))]), (Ab (stepOk A B C D E F G H x0))]), (oV 17 v'88), (aV [(Ci E), (Ci F), (Ci G), (Ci (stepN A B C D E F G H x0))]), (bV (stepOk A B C D E F G H x0)), (pV 14 b84 0), (pV 15 b85 0), (bV (stepOk A B C D E F G H x0))] [(Ho false rs0), (Hc b0 23 [(Ci A), (Ci B), (Ci C), (Ci D)]), (Hw b1 27 true 3 (Co 0 v0)), (Hc b2 29 [(Ci E), (Ci F), (Ci G), (Ci H)]), (Hw b5 33 true 3 (Co 7 v'9)), (Hc b6 34 [(Ci E), (Ci F), (Ci G), (Ci (stepN A B C D E F G H x0))]), (Ho true rs'8), (Ho true rs'10), (Ho true rs'23), (Hw b13 33 true 3 (Co 8 v'11)), (Hw b14 33 true 3 (Co 12 v'16)), (Hc b15 34 [(Ci E), (Ci F), (Ci G), (Ci (stepN A B C D E F G H x0))]), (Ho true rs'26), (Ho true rs'20), (Hw b84 33 true 3 (Co 17 v'88)), (Hc b85 34 [(Ci E), (Ci F), (Ci G), (Ci (stepN A B C D E F G H x0))]), (Ho true rs'87), (Ho true rs'89)])))))))))))))))) →
 (Q83 [(aV [(Ci A), (Ci B), (Ci C), (Ci D)]), (aV [(Ci A), (Ci B), (Ci C), (Ci D)]), (oV 0 v0), (oV 16 v'36), (aV [(Ci E), (Ci F), (Ci G), (Ci H)]), (aV [(Ci E), (Ci F), (Ci G), (Ci H)]), (uV [(Ao 17 v'80), (Ag [(Ci E), (Ci F), (Ci G), (Ci (stepN A B C D E F G H x0))]), (Ab (stepOk A B C D E F G H x0))]), (uV [(Ao 17 v'80), (Ag [(Ci E), (Ci F), (Ci G), (Ci (stepN A B C D E F G H x0))]), (Ab (stepOk A B C D E F G H x0))]), (oV 17 v'80), (aV [(Ci E), (Ci F), (Ci G), (Ci (stepN A B C D E F G H x0))]), (bV (stepOk A B C D E F G H x0)), (pV 14 b82 0), (pV 15 b79 0), (bV (stepOk A B C D E F G H x0))] [(Ho false rs0), (Hc b0 23 [(Ci A), (Ci B), (Ci C), (Ci D)]), (Hw b1 27 true 3 (Co 0 v0)), (Hc b2 29 [(Ci E), (Ci F), (Ci G), (Ci H)]), (Hw b5 33 true 3 (Co 7 v'9)), (Hc b6 34 [(Ci E), (Ci F), (Ci G), (Ci (stepN A B C D E F G H x0))]), (Ho true rs'8), (Ho true rs'10), (Ho true rs'23), (Hw b13 33 true 3 (Co 8 v'11)), (Hw b14 33 true 3 (Co 12 v'16)), (Hc b15 34 [(Ci E), (Ci F), (Ci G), (Ci (stepN A B C D E F G H x0))]), (Ho true rs'26), (Ho true rs'20), (Hw b82 33 true 3 (Co 17 v'80)), (Hc b79 34 [(Ci E), (Ci F), (Ci G), (Ci (stepN A B C D E F G H x0))]), (Ho true rs'37), (Ho true rs'81)]))))))))))))))) ∧
 (∀ b90 : Nat,
 (True ∧
 (((isArray v'36 x0 rs'37) ∧
 (capAx x0)) ∧
 (∀ v'91 : Value,
 (∀ rs'92 : (List Row),
 ((isArray v'91 (stepA A B C D E F G H x0) rs'92) →
 (True ∧
 ((b90 = b90 ∧
 (wholeC true v'91 3)) ∧
 (True ∧
 (b79 = b79 ∧
 (True ∧
 (true = true ∧
 (∀ Q93 : ((List SV) →
 ((List Ch) →
 Prop)),
 ((∀ b94 : Nat,
 (∀ b95 : Nat,
 (b0 = b0 ∧
 (b1 = b1 ∧
 (((isArray v0 x0 rs0) ∧
 (capAx x0)) ∧
 (∀ v'96 : Value,
 (∀ rs'97 : (List Row),
 ((isArray v'96 x0 rs'97) →
 (b2 = b2 ∧
 (((isArray v'96 x0 rs'97) ∧
 (capAx x0)) ∧
 (∀ v'98 : Value,
 (∀ rs'99 : (List Row),
 ((isArray v'98 (stepA A B C D E F G H x0) rs'99) →
 ((b94 = b94 ∧
 (wholeC true v'98 3)) ∧
 (b95 = b95 ∧
 (Q93 [(aV [(Ci A), (Ci B), (Ci C), (Ci D)]), (aV [(Ci A), (Ci B), (Ci C), (Ci D)]), (oV 0 v0), (oV 16 v'96), (aV [(Ci E), (Ci F), (Ci G), (Ci H)]), (aV [(Ci E), (Ci F), (Ci G), (Ci H)]), (uV [(Ao 17 v'98), (Ag [(Ci E), (Ci F), (Ci G), (Ci (stepN A B C D E F G H x0))]), (Ab (stepOk A B C D E F G H x0))]), (uV [(Ao 17 v'98), (Ag [(Ci E), (Ci F), (Ci G), (Ci (stepN A B C D E F G H x0))]), (Ab (stepOk A B C D E F G H x0))]), (oV 17 v'98), (aV [(Ci E), (Ci F), (Ci G), (Ci (stepN A B C D E F G H x0))]), (bV (stepOk A B C D E F G H x0)), (pV 14 b94 0), (pV 15 b95 0), (bV (stepOk A B C D E F G H x0))] [(Ho false rs0), (Hc b0 23 [(Ci A), (Ci B), (Ci C), (Ci D)]), (Hw b1 27 true 3 (Co 0 v0)), (Hc b2 29 [(Ci E), (Ci F), (Ci G), (Ci H)]), (Hw b5 33 true 3 (Co 7 v'9)), (Hc b6 34 [(Ci E), (Ci F), (Ci G), (Ci (stepN A B C D E F G H x0))]), (Ho true rs'8), (Ho true rs'10), (Ho true rs'23), (Hw b13 33 true 3 (Co 8 v'11)), (Hw b14 33 true 3 (Co 12 v'16)), (Hc b15 34 [(Ci E), (Ci F), (Ci G), (Ci (stepN A B C D E F G H x0))]), (Ho true rs'26), (Ho true rs'20), (Hw b94 33 true 3 (Co 17 v'98)), (Hc b95 34 [(Ci E), (Ci F), (Ci G), (Ci (stepN A B C D E F G H x0))]), (Ho true rs'97), (Ho true rs'99)])))))))))))))))) →
 (Q93 [(aV [(Ci A), (Ci B), (Ci C), (Ci D)]), (aV [(Ci A), (Ci B), (Ci C), (Ci D)]), (oV 0 v0), (oV 16 v'36), (aV [(Ci E), (Ci F), (Ci G), (Ci H)]), (aV [(Ci E), (Ci F), (Ci G), (Ci H)]), (uV [(Ao 17 v'91), (Ag [(Ci E), (Ci F), (Ci G), (Ci (stepN A B C D E F G H x0))]), (Ab (stepOk A B C D E F G H x0))]), (uV [(Ao 17 v'91), (Ag [(Ci E), (Ci F), (Ci G), (Ci (stepN A B C D E F G H x0))]), (Ab (stepOk A B C D E F G H x0))]), (oV 17 v'91), (aV [(Ci E), (Ci F), (Ci G), (Ci (stepN A B C D E F G H x0))]), (bV (stepOk A B C D E F G H x0)), (pV 14 b90 0), (pV 15 b79 0), (bV (stepOk A B C D E F G H x0))] [(Ho false rs0), (Hc b0 23 [(Ci A), (Ci B), (Ci C), (Ci D)]), (Hw b1 27 true 3 (Co 0 v0)), (Hc b2 29 [(Ci E), (Ci F), (Ci G), (Ci H)]), (Hw b5 33 true 3 (Co 7 v'9)), (Hc b6 34 [(Ci E), (Ci F), (Ci G), (Ci (stepN A B C D E F G H x0))]), (Ho true rs'8), (Ho true rs'10), (Ho true rs'23), (Hw b13 33 true 3 (Co 8 v'11)), (Hw b14 33 true 3 (Co 12 v'16)), (Hc b15 34 [(Ci E), (Ci F), (Ci G), (Ci (stepN A B C D E F G H x0))]), (Ho true rs'26), (Ho true rs'20), (Hw b90 33 true 3 (Co 17 v'91)), (Hc b79 34 [(Ci E), (Ci F), (Ci G), (Ci (stepN A B C D E F G H x0))]), (Ho true rs'37), (Ho true rs'92)]))))))))))))))))))))) ∧
 ((∀ b100 : Nat,
 (True ∧
 ((True ∧
 ((((isArray v'36 x0 rs'37) ∧
 (capAx x0)) ∧
 (∀ v'101 : Value,
 (∀ rs'102 : (List Row),
 ((isArray v'101 (stepA A B C D E F G H x0) rs'102) →
 (True ∧
 (∀ b103 : Nat,
 (True ∧
 ((b100 = b100 ∧
 (wholeC true v'101 3)) ∧
 (True ∧
 (b103 = b103 ∧
 (True ∧
 (true = true ∧
 (∀ Q104 : ((List SV) →
 ((List Ch) →
 Prop)),
 ((∀ b105 : Nat,
 (∀ b106 : Nat,
 (b0 = b0 ∧
 (b1 = b1 ∧
 (((isArray v0 x0 rs0) ∧
 (capAx x0)) ∧
 (∀ v'107 : Value,
 (∀ rs'108 : (List Row),
 ((isArray v'107 x0 rs'108) →
 (b2 = b2 ∧
 (((isArray v'107 x0 rs'108) ∧
 (capAx x0)) ∧
 (∀ v'109 : Value,
 (∀ rs'110 : (List Row),
 ((isArray v'109 (stepA A B C D E F G H x0) rs'110) →
 ((b105 = b105 ∧
 (wholeC true v'109 3)) ∧
 (b106 = b106 ∧
 (Q104 [(aV [(Ci A), (Ci B), (Ci C), (Ci D)]), (aV [(Ci A), (Ci B), (Ci C), (Ci D)]), (oV 0 v0), (oV 16 v'107), (aV [(Ci E), (Ci F), (Ci G), (Ci H)]), (aV [(Ci E), (Ci F), (Ci G), (Ci H)]), (uV [(Ao 17 v'109), (Ag [(Ci E), (Ci F), (Ci G), (Ci (stepN A B C D E F G H x0))]), (Ab (stepOk A B C D E F G H x0))]), (uV [(Ao 17 v'109), (Ag [(Ci E), (Ci F), (Ci G), (Ci (stepN A B C D E F G H x0))]), (Ab (stepOk A B C D E F G H x0))]), (oV 17 v'109), (aV [(Ci E), (Ci F), (Ci G), (Ci (stepN A B C D E F G H x0))]), (bV (stepOk A B C D E F G H x0)), (pV 14 b105 0), (pV 15 b106 0), (bV (stepOk A B C D E F G H x0))] [(Ho false rs0), (Hc b0 23 [(Ci A), (Ci B), (Ci C), (Ci D)]), (Hw b1 27 true 3 (Co 0 v0)), (Hc b2 29 [(Ci E), (Ci F), (Ci G), (Ci H)]), (Hw b5 33 true 3 (Co 7 v'9)), (Hc b6 34 [(Ci E), (Ci F), (Ci G), (Ci (stepN A B C D E F G H x0))]), (Ho true rs'8), (Ho true rs'10), (Ho true rs'23), (Hw b13 33 true 3 (Co 8 v'11)), (Hw b14 33 true 3 (Co 12 v'16)), (Hc b15 34 [(Ci E), (Ci F), (Ci G), (Ci (stepN A B C D E F G H x0))]), (Ho true rs'26), (Ho true rs'20), (Hw b105 33 true 3 (Co 17 v'109)), (Hc b106 34 [(Ci E), (Ci F), (Ci G), (Ci (stepN A B C D E F G H x0))]), (Ho true rs'108), (Ho true rs'110)])))))))))))))))) →
 (Q104 [(aV [(Ci A), (Ci B), (Ci C), (Ci D)]), (aV [(Ci A), (Ci B), (Ci C), (Ci D)]), (oV 0 v0), (oV 16 v'36), (aV [(Ci E), (Ci F), (Ci G), (Ci H)]), (aV [(Ci E), (Ci F), (Ci G), (Ci H)]), (uV [(Ao 17 v'101), (Ag [(Ci E), (Ci F), (Ci G), (Ci (stepN A B C D E F G H x0))]), (Ab (stepOk A B C D E F G H x0))]), (uV [(Ao 17 v'101), (Ag [(Ci E), (Ci F), (Ci G), (Ci (stepN A B C D E F G H x0))]), (Ab (stepOk A B C D E F G H x0))]), (oV 17 v'101), (aV [(Ci E), (Ci F), (Ci G), (Ci (stepN A B C D E F G H x0))]), (bV (stepOk A B C D E F G H x0)), (pV 14 b100 0), (pV 15 b103 0), (bV (stepOk A B C D E F G H x0))] [(Ho false rs0), (Hc b0 23 [(Ci A), (Ci B), (Ci C), (Ci D)]), (Hw b1 27 true 3 (Co 0 v0)), (Hc b2 29 [(Ci E), (Ci F), (Ci G), (Ci H)]), (Hw b5 33 true 3 (Co 7 v'9)), (Hc b6 34 [(Ci E), (Ci F), (Ci G), (Ci (stepN A B C D E F G H x0))]), (Ho true rs'8), (Ho true rs'10), (Ho true rs'23), (Hw b13 33 true 3 (Co 8 v'11)), (Hw b14 33 true 3 (Co 12 v'16)), (Hc b15 34 [(Ci E), (Ci F), (Ci G), (Ci (stepN A B C D E F G H x0))]), (Ho true rs'26), (Ho true rs'20), (Hw b100 33 true 3 (Co 17 v'101)), (Hc b103 34 [(Ci E), (Ci F), (Ci G), (Ci (stepN A B C D E F G H x0))]), (Ho true rs'37), (Ho true rs'102)]))))))))))))))) ∧
 (∀ b111 : Nat,
 (True ∧
 (((isArray v'36 x0 rs'37) ∧
 (capAx x0)) ∧
 (∀ v'112 : Value,
 (∀ rs'113 : (List Row),
 ((isArray v'112 (stepA A B C D E F G H x0) rs'113) →
 (True ∧
 ((b100 = b100 ∧
 (wholeC true v'112 3)) ∧
 (True ∧
 (b111 = b111 ∧
 (True ∧
 (true = true ∧
 (∀ Q114 : ((List SV) →
 ((List Ch) →
 Prop)),
 ((∀ b115 : Nat,
 (∀ b116 : Nat,
 (b0 = b0 ∧
 (b1 = b1 ∧
 (((isArray v0 x0 rs0) ∧
 (capAx x0)) ∧
 (∀ v'117 : Value,
 (∀ rs'118 : (List Row),
 ((isArray v'117 x0 rs'118) →
 (b2 = b2 ∧
 (((isArray v'117 x0 rs'118) ∧
 (capAx x0)) ∧
 (∀ v'119 : Value,
 (∀ rs'120 : (List Row),
 ((isArray v'119 (stepA A B C D E F G H x0) rs'120) →
 ((b115 = b115 ∧
 (wholeC true v'119 3)) ∧
 (b116 = b116 ∧
 (Q114 [(aV [(Ci A), (Ci B), (Ci C), (Ci D)]), (aV [(Ci A), (Ci B), (Ci C), (Ci D)]), (oV 0 v0), (oV 16 v'117), (aV [(Ci E), (Ci F), (Ci G), (Ci H)]), (aV [(Ci E), (Ci F), (Ci G), (Ci H)]), (uV [(Ao 17 v'119), (Ag [(Ci E), (Ci F), (Ci G), (Ci (stepN A B C D E F G H x0))]), (Ab (stepOk A B C D E F G H x0))]), (uV [(Ao 17 v'119), (Ag [(Ci E), (Ci F), (Ci G), (Ci (stepN A B C D E F G H x0))]), (Ab (stepOk A B C D E F G H x0))]), (oV 17 v'119), (aV [(Ci E), (Ci F), (Ci G), (Ci (stepN A B C D E F G H x0))]), (bV (stepOk A B C D E F G H x0)), (pV 14 b115 0), (pV 15 b116 0), (bV (stepOk A B C D E F G H x0))] [(Ho false rs0), (Hc b0 23 [(Ci A), (Ci B), (Ci C), (Ci D)]), (Hw b1 27 true 3 (Co 0 v0)), (Hc b2 29 [(Ci E), (Ci F), (Ci G), (Ci H)]), (Hw b5 33 true 3 (Co 7 v'9)), (Hc b6 34 [(Ci E), (Ci F), (Ci G), (Ci (stepN A B C D E F G H x0))]), (Ho true rs'8), (Ho true rs'10), (Ho true rs'23), (Hw b13 33 true 3 (Co 8 v'11)), (Hw b14 33 true 3 (Co 12 v'16)), (Hc b15 34 [(Ci E), (Ci F), (Ci G), (Ci (stepN A B C D E F G H x0))]), (Ho true rs'26), (Ho true rs'20), (Hw b115 33 true 3 (Co 17 v'119)), (Hc b116 34 [(Ci E), (Ci F), (Ci G), (Ci (stepN A B C D E F G H x0))]), (Ho true rs'118), (Ho true rs'120)])))))))))))))))) →
 (Q114 [(aV [(Ci A), (Ci B), (Ci C), (Ci D)]), (aV [(Ci A), (Ci B), (Ci C), (Ci D)]), (oV 0 v0), (oV 16 v'36), (aV [(Ci E), (Ci F), (Ci G), (Ci H)]), (aV [(Ci E), (Ci F), (Ci G), (Ci H)]), (uV [(Ao 17 v'112), (Ag [(Ci E), (Ci F), (Ci G), (Ci (stepN A B C D E F G H x0))]), (Ab (stepOk A B C D E F G H x0))]), (uV [(Ao 17 v'112), (Ag [(Ci E), (Ci F), (Ci G), (Ci (stepN A B C D E F G H x0))]), (Ab (stepOk A B C D E F G H x0))]), (oV 17 v'112), (aV [(Ci E), (Ci F), (Ci G), (Ci (stepN A B C D E F G H x0))]), (bV (stepOk A B C D E F G H x0)), (pV 14 b100 0), (pV 15 b111 0), (bV (stepOk A B C D E F G H x0))] [(Ho false rs0), (Hc b0 23 [(Ci A), (Ci B), (Ci C), (Ci D)]), (Hw b1 27 true 3 (Co 0 v0)), (Hc b2 29 [(Ci E), (Ci F), (Ci G), (Ci H)]), (Hw b5 33 true 3 (Co 7 v'9)), (Hc b6 34 [(Ci E), (Ci F), (Ci G), (Ci (stepN A B C D E F G H x0))]), (Ho true rs'8), (Ho true rs'10), (Ho true rs'23), (Hw b13 33 true 3 (Co 8 v'11)), (Hw b14 33 true 3 (Co 12 v'16)), (Hc b15 34 [(Ci E), (Ci F), (Ci G), (Ci (stepN A B C D E F G H x0))]), (Ho true rs'26), (Ho true rs'20), (Hw b100 33 true 3 (Co 17 v'112)), (Hc b111 34 [(Ci E), (Ci F), (Ci G), (Ci (stepN A B C D E F G H x0))]), (Ho true rs'37), (Ho true rs'113)]))))))))))))))))) ∧
 (∀ b121 : Nat,
 (True ∧
 (True ∧
 (((isArray v'36 x0 rs'37) ∧
 (capAx x0)) ∧
 (∀ v'122 : Value,
 (∀ rs'123 : (List Row),
 ((isArray v'122 (stepA A B C D E F G H x0) rs'123) →
 (True ∧
 ((b100 = b100 ∧
 (wholeC true v'122 3)) ∧
 (True ∧
 (b121 = b121 ∧
 (True ∧
 (true = true ∧
 (∀ Q124 : ((List SV) →
 ((List Ch) →
 Prop)),
 ((∀ b125 : Nat,
 (∀ b126 : Nat,
 (b0 = b0 ∧
 (b1 = b1 ∧
 (((isArray v0 x0 rs0) ∧
 (capAx x0)) ∧
 (∀ v'127 : Value,
 (∀ rs'128 : (List Row),
 ((isArray v'127 x0 rs'128) →
 (b2 = b2 ∧
 (((isArray v'127 x0 rs'128) ∧
 (capAx x0)) ∧
 (∀ v'129 : Value,
 (∀ rs'130 : (List Row),
 ((isArray v'129 (stepA A B C D E F G H x0) rs'130) →
 ((b125 = b125 ∧
 (wholeC true v'129 3)) ∧
 (b126 = b126 ∧
 (Q124 [(aV [(Ci A), (Ci B), (Ci C), (Ci D)]), (aV [(Ci A), (Ci B), (Ci C), (Ci D)]), (oV 0 v0), (oV 16 v'127), (aV [(Ci E), (Ci F), (Ci G), (Ci H)]), (aV [(Ci E), (Ci F), (Ci G), (Ci H)]), (uV [(Ao 17 v'129), (Ag [(Ci E), (Ci F), (Ci G), (Ci (stepN A B C D E F G H x0))]), (Ab (stepOk A B C D E F G H x0))]), (uV [(Ao 17 v'129), (Ag [(Ci E), (Ci F), (Ci G), (Ci (stepN A B C D E F G H x0))]), (Ab (stepOk A B C D E F G H x0))]), (oV 17 v'129), (aV [(Ci E), (Ci F), (Ci G), (Ci (stepN A B C D E F G H x0))]), (bV (stepOk A B C D E F G H x0)), (pV 14 b125 0), (pV 15 b126 0), (bV (stepOk A B C D E F G H x0))] [(Ho false rs0), (Hc b0 23 [(Ci A), (Ci B), (Ci C), (Ci D)]), (Hw b1 27 true 3 (Co 0 v0)), (Hc b2 29 [(Ci E), (Ci F), (Ci G), (Ci H)]), (Hw b5 33 true 3 (Co 7 v'9)), (Hc b6 34 [(Ci E), (Ci F), (Ci G), (Ci (stepN A B C D E F G H x0))]), (Ho true rs'8), (Ho true rs'10), (Ho true rs'23), (Hw b13 33 true 3 (Co 8 v'11)), (Hw b14 33 true 3 (Co 12 v'16)), (Hc b15 34 [(Ci E), (Ci F), (Ci G), (Ci (stepN A B C D E F G H x0))]), (Ho true rs'26), (Ho true rs'20), (Hw b125 33 true 3 (Co 17 v'129)), (Hc b126 34 [(Ci E), (Ci F), (Ci G), (Ci (stepN A B C D E F G H x0))]), (Ho true rs'128), (Ho true rs'130)])))))))))))))))) →
 (Q124 [(aV [(Ci A), (Ci B), (Ci C), (Ci D)]), (aV [(Ci A), (Ci B), (Ci C), (Ci D)]), (oV 0 v0), (oV 16 v'36), (aV [(Ci E), (Ci F), (Ci G), (Ci H)]), (aV [(Ci E), (Ci F), (Ci G), (Ci H)]), (uV [(Ao 17 v'122), (Ag [(Ci E), (Ci F), (Ci G), (Ci (stepN A B C D E F G H x0))]), (Ab (stepOk A B C D E F G H x0))]), (uV [(Ao 17 v'122), (Ag [(Ci E), (Ci F), (Ci G), (Ci (stepN A B C D E F G H x0))]), (Ab (stepOk A B C D E F G H x0))]), (oV 17 v'122), (aV [(Ci E), (Ci F), (Ci G), (Ci (stepN A B C D E F G H x0))]), (bV (stepOk A B C D E F G H x0)), (pV 14 b100 0), (pV 15 b121 0), (bV (stepOk A B C D E F G H x0))] [(Ho false rs0), (Hc b0 23 [(Ci A), (Ci B), (Ci C), (Ci D)]), (Hw b1 27 true 3 (Co 0 v0)), (Hc b2 29 [(Ci E), (Ci F), (Ci G), (Ci H)]), (Hw b5 33 true 3 (Co 7 v'9)), (Hc b6 34 [(Ci E), (Ci F), (Ci G), (Ci (stepN A B C D E F G H x0))]), (Ho true rs'8), (Ho true rs'10), (Ho true rs'23), (Hw b13 33 true 3 (Co 8 v'11)), (Hw b14 33 true 3 (Co 12 v'16)), (Hc b15 34 [(Ci E), (Ci F), (Ci G), (Ci (stepN A B C D E F G H x0))]), (Ho true rs'26), (Ho true rs'20), (Hw b100 33 true 3 (Co 17 v'122)), (Hc b121 34 [(Ci E), (Ci F), (Ci G), (Ci (stepN A B C D E F G H x0))]), (Ho true rs'37), (Ho true rs'123)]))))))))))))))))))) ∧
 (∀ b131 : Nat,
 (True ∧
 ((True ∧
 ((((isArray v'36 x0 rs'37) ∧
 (capAx x0)) ∧
 (∀ v'132 : Value,
 (∀ rs'133 : (List Row),
 ((isArray v'132 (stepA A B C D E F G H x0) rs'133) →
 (True ∧
 (∀ b134 : Nat,
 (True ∧
 ((b134 = b134 ∧
 (wholeC true v'132 3)) ∧
 (True ∧
 (b131 = b131 ∧
 (True ∧
 (true = true ∧
 (∀ Q135 : ((List SV) →
 ((List Ch) →
 Prop)),
 ((∀ b136 : Nat,
 (∀ b137 : Nat,
 (b0 = b0 ∧
 (b1 = b1 ∧
 (((isArray v0 x0 rs0) ∧
 (capAx x0)) ∧
 (∀ v'138 : Value,
 (∀ rs'139 : (List Row),
 ((isArray v'138 x0 rs'139) →
 (b2 = b2 ∧
 (((isArray v'138 x0 rs'139) ∧
 (capAx x0)) ∧
 (∀ v'140 : Value,
 (∀ rs'141 : (List Row),
 ((isArray v'140 (stepA A B C D E F G H x0) rs'141) →
 ((b136 = b136 ∧
 (wholeC true v'140 3)) ∧
 (b137 = b137 ∧
 (Q135 [(aV [(Ci A), (Ci B), (Ci C), (Ci D)]), (aV [(Ci A), (Ci B), (Ci C), (Ci D)]), (oV 0 v0), (oV 16 v'138), (aV [(Ci E), (Ci F), (Ci G), (Ci H)]), (aV [(Ci E), (Ci F), (Ci G), (Ci H)]), (uV [(Ao 17 v'140), (Ag [(Ci E), (Ci F), (Ci G), (Ci (stepN A B C D E F G H x0))]), (Ab (stepOk A B C D E F G H x0))]), (uV [(Ao 17 v'140), (Ag [(Ci E), (Ci F), (Ci G), (Ci (stepN A B C D E F G H x0))]), (Ab (stepOk A B C D E F G H x0))]), (oV 17 v'140), (aV [(Ci E), (Ci F), (Ci G), (Ci (stepN A B C D E F G H x0))]), (bV (stepOk A B C D E F G H x0)), (pV 14 b136 0), (pV 15 b137 0), (bV (stepOk A B C D E F G H x0))] [(Ho false rs0), (Hc b0 23 [(Ci A), (Ci B), (Ci C), (Ci D)]), (Hw b1 27 true 3 (Co 0 v0)), (Hc b2 29 [(Ci E), (Ci F), (Ci G), (Ci H)]), (Hw b5 33 true 3 (Co 7 v'9)), (Hc b6 34 [(Ci E), (Ci F), (Ci G), (Ci (stepN A B C D E F G H x0))]), (Ho true rs'8), (Ho true rs'10), (Ho true rs'23), (Hw b13 33 true 3 (Co 8 v'11)), (Hw b14 33 true 3 (Co 12 v'16)), (Hc b15 34 [(Ci E), (Ci F), (Ci G), (Ci (stepN A B C D E F G H x0))]), (Ho true rs'26), (Ho true rs'20), (Hw b136 33 true 3 (Co 17 v'140)), (Hc b137 34 [(Ci E), (Ci F), (Ci G), (Ci (stepN A B C D E F G H x0))]), (Ho true rs'139), (Ho true rs'141)])))))))))))))))) →
 (Q135 [(aV [(Ci A), (Ci B), (Ci C), (Ci D)]), (aV [(Ci A), (Ci B), (Ci C), (Ci D)]), (oV 0 v0), (oV 16 v'36), (aV [(Ci E), (Ci F), (Ci G), (Ci H)]), (aV [(Ci E), (Ci F), (Ci G), (Ci H)]), (uV [(Ao 17 v'132), (Ag [(Ci E), (Ci F), (Ci G), (Ci (stepN A B C D E F G H x0))]), (Ab (stepOk A B C D E F G H x0))]), (uV [(Ao 17 v'132), (Ag [(Ci E), (Ci F), (Ci G), (Ci (stepN A B C D E F G H x0))]), (Ab (stepOk A B C D E F G H x0))]), (oV 17 v'132), (aV [(Ci E), (Ci F), (Ci G), (Ci (stepN A B C D E F G H x0))]), (bV (stepOk A B C D E F G H x0)), (pV 14 b134 0), (pV 15 b131 0), (bV (stepOk A B C D E F G H x0))] [(Ho false rs0), (Hc b0 23 [(Ci A), (Ci B), (Ci C), (Ci D)]), (Hw b1 27 true 3 (Co 0 v0)), (Hc b2 29 [(Ci E), (Ci F), (Ci G), (Ci H)]), (Hw b5 33 true 3 (Co 7 v'9)), (Hc b6 34 [(Ci E), (Ci F), (Ci G), (Ci (stepN A B C D E F G H x0))]), (Ho true rs'8), (Ho true rs'10), (Ho true rs'23), (Hw b13 33 true 3 (Co 8 v'11)), (Hw b14 33 true 3 (Co 12 v'16)), (Hc b15 34 [(Ci E), (Ci F), (Ci G), (Ci (stepN A B C D E F G H x0))]), (Ho true rs'26), (Ho true rs'20), (Hw b134 33 true 3 (Co 17 v'132)), (Hc b131 34 [(Ci E), (Ci F), (Ci G), (Ci (stepN A B C D E F G H x0))]), (Ho true rs'37), (Ho true rs'133)]))))))))))))))) ∧
 (∀ b142 : Nat,
 (True ∧
 (((isArray v'36 x0 rs'37) ∧
 (capAx x0)) ∧
 (∀ v'143 : Value,
 (∀ rs'144 : (List Row),
 ((isArray v'143 (stepA A B C D E F G H x0) rs'144) →
 (True ∧
 ((b142 = b142 ∧
 (wholeC true v'143 3)) ∧
 (True ∧
 (b131 = b131 ∧
 (True ∧
 (true = true ∧
 (∀ Q145 : ((List SV) →
 ((List Ch) →
 Prop)),
 ((∀ b146 : Nat,
 (∀ b147 : Nat,
 (b0 = b0 ∧
 (b1 = b1 ∧
 (((isArray v0 x0 rs0) ∧
 (capAx x0)) ∧
 (∀ v'148 : Value,
 (∀ rs'149 : (List Row),
 ((isArray v'148 x0 rs'149) →
 (b2 = b2 ∧
 (((isArray v'148 x0 rs'149) ∧
 (capAx x0)) ∧
 (∀ v'150 : Value,
 (∀ rs'151 : (List Row),
 ((isArray v'150 (stepA A B C D E F G H x0) rs'151) →
 ((b146 = b146 ∧
 (wholeC true v'150 3)) ∧
 (b147 = b147 ∧
 (Q145 [(aV [(Ci A), (Ci B), (Ci C), (Ci D)]), (aV [(Ci A), (Ci B), (Ci C), (Ci D)]), (oV 0 v0), (oV 16 v'148), (aV [(Ci E), (Ci F), (Ci G), (Ci H)]), (aV [(Ci E), (Ci F), (Ci G), (Ci H)]), (uV [(Ao 17 v'150), (Ag [(Ci E), (Ci F), (Ci G), (Ci (stepN A B C D E F G H x0))]), (Ab (stepOk A B C D E F G H x0))]), (uV [(Ao 17 v'150), (Ag [(Ci E), (Ci F), (Ci G), (Ci (stepN A B C D E F G H x0))]), (Ab (stepOk A B C D E F G H x0))]), (oV 17 v'150), (aV [(Ci E), (Ci F), (Ci G), (Ci (stepN A B C D E F G H x0))]), (bV (stepOk A B C D E F G H x0)), (pV 14 b146 0), (pV 15 b147 0), (bV (stepOk A B C D E F G H x0))] [(Ho false rs0), (Hc b0 23 [(Ci A), (Ci B), (Ci C), (Ci D)]), (Hw b1 27 true 3 (Co 0 v0)), (Hc b2 29 [(Ci E), (Ci F), (Ci G), (Ci H)]), (Hw b5 33 true 3 (Co 7 v'9)), (Hc b6 34 [(Ci E), (Ci F), (Ci G), (Ci (stepN A B C D E F G H x0))]), (Ho true rs'8), (Ho true rs'10), (Ho true rs'23), (Hw b13 33 true 3 (Co 8 v'11)), (Hw b14 33 true 3 (Co 12 v'16)), (Hc b15 34 [(Ci E), (Ci F), (Ci G), (Ci (stepN A B C D E F G H x0))]), (Ho true rs'26), (Ho true rs'20), (Hw b146 33 true 3 (Co 17 v'150)), (Hc b147 34 [(Ci E), (Ci F), (Ci G), (Ci (stepN A B C D E F G H x0))]), (Ho true rs'149), (Ho true rs'151)])))))))))))))))) →
 (Q145 [(aV [(Ci A), (Ci B), (Ci C), (Ci D)]), (aV [(Ci A), (Ci B), (Ci C), (Ci D)]), (oV 0 v0), (oV 16 v'36), (aV [(Ci E), (Ci F), (Ci G), (Ci H)]), (aV [(Ci E), (Ci F), (Ci G), (Ci H)]), (uV [(Ao 17 v'143), (Ag [(Ci E), (Ci F), (Ci G), (Ci (stepN A B C D E F G H x0))]), (Ab (stepOk A B C D E F G H x0))]), (uV [(Ao 17 v'143), (Ag [(Ci E), (Ci F), (Ci G), (Ci (stepN A B C D E F G H x0))]), (Ab (stepOk A B C D E F G H x0))]), (oV 17 v'143), (aV [(Ci E), (Ci F), (Ci G), (Ci (stepN A B C D E F G H x0))]), (bV (stepOk A B C D E F G H x0)), (pV 14 b142 0), (pV 15 b131 0), (bV (stepOk A B C D E F G H x0))] [(Ho false rs0), (Hc b0 23 [(Ci A), (Ci B), (Ci C), (Ci D)]), (Hw b1 27 true 3 (Co 0 v0)), (Hc b2 29 [(Ci E), (Ci F), (Ci G), (Ci H)]), (Hw b5 33 true 3 (Co 7 v'9)), (Hc b6 34 [(Ci E), (Ci F), (Ci G), (Ci (stepN A B C D E F G H x0))]), (Ho true rs'8), (Ho true rs'10), (Ho true rs'23), (Hw b13 33 true 3 (Co 8 v'11)), (Hw b14 33 true 3 (Co 12 v'16)), (Hc b15 34 [(Ci E), (Ci F), (Ci G), (Ci (stepN A B C D E F G H x0))]), (Ho true rs'26), (Ho true rs'20), (Hw b142 33 true 3 (Co 17 v'143)), (Hc b131 34 [(Ci E), (Ci F), (Ci G), (Ci (stepN A B C D E F G H x0))]), (Ho true rs'37), (Ho true rs'144)]))))))))))))))))) ∧
 (∀ b152 : Nat,
 (True ∧
 (True ∧
 (((isArray v'36 x0 rs'37) ∧
 (capAx x0)) ∧
 (∀ v'153 : Value,
 (∀ rs'154 : (List Row),
 ((isArray v'153 (stepA A B C D E F G H x0) rs'154) →
 (True ∧
 ((b152 = b152 ∧
 (wholeC true v'153 3)) ∧
 (True ∧
 (b131 = b131 ∧
 (True ∧
 (true = true ∧
 (∀ Q155 : ((List SV) →
 ((List Ch) →
 Prop)),
 ((∀ b156 : Nat,
 (∀ b157 : Nat,
 (b0 = b0 ∧
 (b1 = b1 ∧
 (((isArray v0 x0 rs0) ∧
 (capAx x0)) ∧
 (∀ v'158 : Value,
 (∀ rs'159 : (List Row),
 ((isArray v'158 x0 rs'159) →
 (b2 = b2 ∧
 (((isArray v'158 x0 rs'159) ∧
 (capAx x0)) ∧
 (∀ v'160 : Value,
 (∀ rs'161 : (List Row),
 ((isArray v'160 (stepA A B C D E F G H x0) rs'161) →
 ((b156 = b156 ∧
 (wholeC true v'160 3)) ∧
 (b157 = b157 ∧
 (Q155 [(aV [(Ci A), (Ci B), (Ci C), (Ci D)]), (aV [(Ci A), (Ci B), (Ci C), (Ci D)]), (oV 0 v0), (oV 16 v'158), (aV [(Ci E), (Ci F), (Ci G), (Ci H)]), (aV [(Ci E), (Ci F), (Ci G), (Ci H)]), (uV [(Ao 17 v'160), (Ag [(Ci E), (Ci F), (Ci G), (Ci (stepN A B C D E F G H x0))]), (Ab (stepOk A B C D E F G H x0))]), (uV [(Ao 17 v'160), (Ag [(Ci E), (Ci F), (Ci G), (Ci (stepN A B C D E F G H x0))]), (Ab (stepOk A B C D E F G H x0))]), (oV 17 v'160), (aV [(Ci E), (Ci F), (Ci G), (Ci (stepN A B C D E F G H x0))]), (bV (stepOk A B C D E F G H x0)), (pV 14 b156 0), (pV 15 b157 0), (bV (stepOk A B C D E F G H x0))] [(Ho false rs0), (Hc b0 23 [(Ci A), (Ci B), (Ci C), (Ci D)]), (Hw b1 27 true 3 (Co 0 v0)), (Hc b2 29 [(Ci E), (Ci F), (Ci G), (Ci H)]), (Hw b5 33 true 3 (Co 7 v'9)), (Hc b6 34 [(Ci E), (Ci F), (Ci G), (Ci (stepN A B C D E F G H x0))]), (Ho true rs'8), (Ho true rs'10), (Ho true rs'23), (Hw b13 33 true 3 (Co 8 v'11)), (Hw b14 33 true 3 (Co 12 v'16)), (Hc b15 34 [(Ci E), (Ci F), (Ci G), (Ci (stepN A B C D E F G H x0))]), (Ho true rs'26), (Ho true rs'20), (Hw b156 33 true 3 (Co 17 v'160)), (Hc b157 34 [(Ci E), (Ci F), (Ci G), (Ci (stepN A B C D E F G H x0))]), (Ho true rs'159), (Ho true rs'161)])))))))))))))))) →
 (Q155 [(aV [(Ci A), (Ci B), (Ci C), (Ci D)]), (aV [(Ci A), (Ci B), (Ci C), (Ci D)]), (oV 0 v0), (oV 16 v'36), (aV [(Ci E), (Ci F), (Ci G), (Ci H)]), (aV [(Ci E), (Ci F), (Ci G), (Ci H)]), (uV [(Ao 17 v'153), (Ag [(Ci E), (Ci F), (Ci G), (Ci (stepN A B C D E F G H x0))]), (Ab (stepOk A B C D E F G H x0))]), (uV [(Ao 17 v'153), (Ag [(Ci E), (Ci F), (Ci G), (Ci (stepN A B C D E F G H x0))]), (Ab (stepOk A B C D E F G H x0))]), (oV 17 v'153), (aV [(Ci E), (Ci F), (Ci G), (Ci (stepN A B C D E F G H x0))]), (bV (stepOk A B C D E F G H x0)), (pV 14 b152 0), (pV 15 b131 0), (bV (stepOk A B C D E F G H x0))] [(Ho false rs0), (Hc b0 23 [(Ci A), (Ci B), (Ci C), (Ci D)]), (Hw b1 27 true 3 (Co 0 v0)), (Hc b2 29 [(Ci E), (Ci F), (Ci G), (Ci H)]), (Hw b5 33 true 3 (Co 7 v'9)), (Hc b6 34 [(Ci E), (Ci F), (Ci G), (Ci (stepN A B C D E F G H x0))]), (Ho true rs'8), (Ho true rs'10), (Ho true rs'23), (Hw b13 33 true 3 (Co 8 v'11)), (Hw b14 33 true 3 (Co 12 v'16)), (Hc b15 34 [(Ci E), (Ci F), (Ci G), (Ci (stepN A B C D E F G H x0))]), (Ho true rs'26), (Ho true rs'20), (Hw b152 33 true 3 (Co 17 v'153)), (Hc b131 34 [(Ci E), (Ci F), (Ci G), (Ci (stepN A B C D E F G H x0))]), (Ho true rs'37), (Ho true rs'154)])))))))))))))))))))))))))) ∧
 ((∀ b162 : Nat,
 (True ∧
 ((((isArray v0 x0 rs0) ∧
 (capAx x0)) ∧
 (∀ v'163 : Value,
 (∀ rs'164 : (List Row),
 ((isArray v'163 x0 rs'164) →
 (True ∧
 ((True ∧
 ((((isArray v'163 x0 rs'164) ∧
 (capAx x0)) ∧
 (∀ v'165 : Value,
 (∀ rs'166 : (List Row),
 ((isArray v'165 (stepA A B C D E F G H x0) rs'166) →
 (True ∧
 (∀ b167 : Nat,
 (True ∧
 ((b162 = b162 ∧
 (wholeC true v'165 3)) ∧
 (True ∧
 (b167 = b167 ∧
 (True ∧
 (true = true ∧
 (∀ Q168 : ((List SV) →
 ((List Ch) →
 Prop)),
 ((∀ b169 : Nat,
 (∀ b170 : Nat,
 (b0 = b0 ∧
 (b1 = b1 ∧
 (((isArray v0 x0 rs0) ∧
 (capAx x0)) ∧
 (∀ v'171 : Value,
 (∀ rs'172 : (List Row),
 ((isArray v'171 x0 rs'172) →
 (b2 = b2 ∧
 (((isArray v'171 x0 rs'172) ∧
 (capAx x0)) ∧
 (∀ v'173 : Value,
 (∀ rs'174 : (List Row),
 ((isArray v'173 (stepA A B C D E F G H x0) rs'174) →
 ((b169 = b169 ∧
 (wholeC true v'173 3)) ∧
 (b170 = b170 ∧
 (Q168 [(aV [(Ci A), (Ci B), (Ci C), (Ci D)]), (aV [(Ci A), (Ci B), (Ci C), (Ci D)]), (oV 0 v0), (oV 16 v'171), (aV [(Ci E), (Ci F), (Ci G), (Ci H)]), (aV [(Ci E), (Ci F), (Ci G), (Ci H)]), (uV [(Ao 17 v'173), (Ag [(Ci E), (Ci F), (Ci G), (Ci (stepN A B C D E F G H x0))]), (Ab (stepOk A B C D E F G H x0))]), (uV [(Ao 17 v'173), (Ag [(Ci E), (Ci F), (Ci G), (Ci (stepN A B C D E F G H x0))]), (Ab (stepOk A B C D E F G H x0))]), (oV 17 v'173), (aV [(Ci E), (Ci F), (Ci G), (Ci (stepN A B C D E F G H x0))]), (bV (stepOk A B C D E F G H x0)), (pV 14 b169 0), (pV 15 b170 0), (bV (stepOk A B C D E F G H x0))] [(Ho false rs0), (Hc b0 23 [(Ci A), (Ci B), (Ci C), (Ci D)]), (Hw b1 27 true 3 (Co 0 v0)), (Hc b2 29 [(Ci E), (Ci F), (Ci G), (Ci H)]), (Hw b5 33 true 3 (Co 7 v'9)), (Hc b6 34 [(Ci E), (Ci F), (Ci G), (Ci (stepN A B C D E F G H x0))]), (Ho true rs'8), (Ho true rs'10), (Ho true rs'23), (Hw b13 33 true 3 (Co 8 v'11)), (Hw b14 33 true 3 (Co 12 v'16)), (Hc b15 34 [(Ci E), (Ci F), (Ci G), (Ci (stepN A B C D E F G H x0))]), (Ho true rs'26), (Ho true rs'20), (Hw b169 33 true 3 (Co 17 v'173)), (Hc b170 34 [(Ci E), (Ci F), (Ci G), (Ci (stepN A B C D E F G H x0))]), (Ho true rs'172), (Ho true rs'174)])))))))))))))))) →
 (Q168 [(aV [(Ci A), (Ci B), (Ci C), (Ci D)]), (aV [(Ci A), (Ci B), (Ci C), (Ci D)]), (oV 0 v0), (oV 16 v'163), (aV [(Ci E), (Ci F), (Ci G), (Ci H)]), (aV [(Ci E), (Ci F), (Ci G), (Ci H)]), (uV [(Ao 17 v'165), (Ag [(Ci E), (Ci F), (Ci G), (Ci (stepN A B C D E F G H x0))]), (Ab (stepOk A B C D E F G H x0))]), (uV [(Ao 17 v'165), (Ag [(Ci E), (Ci F), (Ci G), (Ci (stepN A B C D E F G H x0))]), (Ab (stepOk A B C D E F G H x0))]), (oV 17 v'165), (aV [(Ci E), (Ci F), (Ci G), (Ci (stepN A B C D E F G H x0))]), (bV (stepOk A B C D E F G H x0)), (pV 14 b162 0), (pV 15 b167 0), (bV (stepOk A B C D E F G H x0))] [(Ho false rs0), (Hc b0 23 [(Ci A), (Ci B), (Ci C), (Ci D)]), (Hw b1 27 true 3 (Co 0 v0)), (Hc b2 29 [(Ci E), (Ci F), (Ci G), (Ci H)]), (Hw b5 33 true 3 (Co 7 v'9)), (Hc b6 34 [(Ci E), (Ci F), (Ci G), (Ci (stepN A B C D E F G H x0))]), (Ho true rs'8), (Ho true rs'10), (Ho true rs'23), (Hw b13 33 true 3 (Co 8 v'11)), (Hw b14 33 true 3 (Co 12 v'16)), (Hc b15 34 [(Ci E), (Ci F), (Ci G), (Ci (stepN A B C D E F G H x0))]), (Ho true rs'26), (Ho true rs'20), (Hw b162 33 true 3 (Co 17 v'165)), (Hc b167 34 [(Ci E), (Ci F), (Ci G), (Ci (stepN A B C D E F G H x0))]), (Ho true rs'164), (Ho true rs'166)]))))))))))))))) ∧
 (∀ b175 : Nat,
 (True ∧
 (((isArray v'163 x0 rs'164) ∧
 (capAx x0)) ∧
 (∀ v'176 : Value,
 (∀ rs'177 : (List Row),
 ((isArray v'176 (stepA A B C D E F G H x0) rs'177) →
 (True ∧
 ((b162 = b162 ∧
 (wholeC true v'176 3)) ∧
 (True ∧
 (b175 = b175 ∧
 (True ∧
 (true = true ∧
 (∀ Q178 : ((List SV) →
 ((List Ch) →
 Prop)),
 ((∀ b179 : Nat,
 (∀ b180 : Nat,
 (b0 = b0 ∧
 (b1 = b1 ∧
 (((isArray v0 x0 rs0) ∧
 (capAx x0)) ∧
 (∀ v'181 : Value,
 (∀ rs'182 : (List Row),
 ((isArray v'181 x0 rs'182) →
 (b2 = b2 ∧
 (((isArray v'181 x0 rs'182) ∧
 (capAx x0)) ∧
 (∀ v'183 : Value,
 (∀ rs'184 : (List Row),
 ((isArray v'183 (stepA A B C D E F G H x0) rs'184) →
 ((b179 = b179 ∧
 (wholeC true v'183 3)) ∧
 (b180 = b180 ∧
 (Q178 [(aV [(Ci A), (Ci B), (Ci C), (Ci D)]), (aV [(Ci A), (Ci B), (Ci C), (Ci D)]), (oV 0 v0), (oV 16 v'181), (aV [(Ci E), (Ci F), (Ci G), (Ci H)]), (aV [(Ci E), (Ci F), (Ci G), (Ci H)]), (uV [(Ao 17 v'183), (Ag [(Ci E), (Ci F), (Ci G), (Ci (stepN A B C D E F G H x0))]), (Ab (stepOk A B C D E F G H x0))]), (uV [(Ao 17 v'183), (Ag [(Ci E), (Ci F), (Ci G), (Ci (stepN A B C D E F G H x0))]), (Ab (stepOk A B C D E F G H x0))]), (oV 17 v'183), (aV [(Ci E), (Ci F), (Ci G), (Ci (stepN A B C D E F G H x0))]), (bV (stepOk A B C D E F G H x0)), (pV 14 b179 0), (pV 15 b180 0), (bV (stepOk A B C D E F G H x0))] [(Ho false rs0), (Hc b0 23 [(Ci A), (Ci B), (Ci C), (Ci D)]), (Hw b1 27 true 3 (Co 0 v0)), (Hc b2 29 [(Ci E), (Ci F), (Ci G), (Ci H)]), (Hw b5 33 true 3 (Co 7 v'9)), (Hc b6 34 [(Ci E), (Ci F), (Ci G), (Ci (stepN A B C D E F G H x0))]), (Ho true rs'8), (Ho true rs'10), (Ho true rs'23), (Hw b13 33 true 3 (Co 8 v'11)), (Hw b14 33 true 3 (Co 12 v'16)), (Hc b15 34 [(Ci E), (Ci F), (Ci G), (Ci (stepN A B C D E F G H x0))]), (Ho true rs'26), (Ho true rs'20), (Hw b179 33 true 3 (Co 17 v'183)), (Hc b180 34 [(Ci E), (Ci F), (Ci G), (Ci (stepN A B C D E F G H x0))]), (Ho true rs'182), (Ho true rs'184)])))))))))))))))) →
 (Q178 [(aV [(Ci A), (Ci B), (Ci C), (Ci D)]), (aV [(Ci A), (Ci B), (Ci C), (Ci D)]), (oV 0 v0), (oV 16 v'163), (aV [(Ci E), (Ci F), (Ci G), (Ci H)]), (aV [(Ci E), (Ci F), (Ci G), (Ci H)]), (uV [(Ao 17 v'176), (Ag [(Ci E), (Ci F), (Ci G), (Ci (stepN A B C D E F G H x0))]), (Ab (stepOk A B C D E F G H x0))]), (uV [(Ao 17 v'176), (Ag [(Ci E), (Ci F), (Ci G), (Ci (stepN A B C D E F G H x0))]), (Ab (stepOk A B C D E F G H x0))]), (oV 17 v'176), (aV [(Ci E), (Ci F), (Ci G), (Ci (stepN A B C D E F G H x0))]), (bV (stepOk A B C D E F G H x0)), (pV 14 b162 0), (pV 15 b175 0), (bV (stepOk A B C D E F G H x0))] [(Ho false rs0), (Hc b0 23 [(Ci A), (Ci B), (Ci C), (Ci D)]), (Hw b1 27 true 3 (Co 0 v0)), (Hc b2 29 [(Ci E), (Ci F), (Ci G), (Ci H)]), (Hw b5 33 true 3 (Co 7 v'9)), (Hc b6 34 [(Ci E), (Ci F), (Ci G), (Ci (stepN A B C D E F G H x0))]), (Ho true rs'8), (Ho true rs'10), (Ho true rs'23), (Hw b13 33 true 3 (Co 8 v'11)), (Hw b14 33 true 3 (Co 12 v'16)), (Hc b15 34 [(Ci E), (Ci F), (Ci G), (Ci (stepN A B C D E F G H x0))]), (Ho true rs'26), (Ho true rs'20), (Hw b162 33 true 3 (Co 17 v'176)), (Hc b175 34 [(Ci E), (Ci F), (Ci G), (Ci (stepN A B C D E F G H x0))]), (Ho true rs'164), (Ho true rs'177)]))))))))))))))))) ∧
 (∀ b185 : Nat,
 (True ∧
 (True ∧
 (((isArray v'163 x0 rs'164) ∧
 (capAx x0)) ∧
 (∀ v'186 : Value,
 (∀ rs'187 : (List Row),
 ((isArray v'186 (stepA A B C D E F G H x0) rs'187) →
 (True ∧
 ((b162 = b162 ∧
 (wholeC true v'186 3)) ∧
 (True ∧
 (b185 = b185 ∧
 (True ∧
 (true = true ∧
 (∀ Q188 : ((List SV) →
 ((List Ch) →
 Prop)),
 ((∀ b189 : Nat,
 (∀ b190 : Nat,
 (b0 = b0 ∧
 (b1 = b1 ∧
 (((isArray v0 x0 rs0) ∧
 (capAx x0)) ∧
 (∀ v'191 : Value,
 (∀ rs'192 : (List Row),
 ((isArray v'191 x0 rs'192) →
 (b2 = b2 ∧
 (((isArray v'191 x0 rs'192) ∧
 (capAx x0)) ∧
 (∀ v'193 : Value,
 (∀ rs'194 : (List Row),
 ((isArray v'193 (stepA A B C D E F G H x0) rs'194) →
 ((b189 = b189 ∧
 (wholeC true v'193 3)) ∧
 (b190 = b190 ∧
 (Q188 [(aV [(Ci A), (Ci B), (Ci C), (Ci D)]), (aV [(Ci A), (Ci B), (Ci C), (Ci D)]), (oV 0 v0), (oV 16 v'191), (aV [(Ci E), (Ci F), (Ci G), (Ci H)]), (aV [(Ci E), (Ci F), (Ci G), (Ci H)]), (uV [(Ao 17 v'193), (Ag [(Ci E), (Ci F), (Ci G), (Ci (stepN A B C D E F G H x0))]), (Ab (stepOk A B C D E F G H x0))]), (uV [(Ao 17 v'193), (Ag [(Ci E), (Ci F), (Ci G), (Ci (stepN A B C D E F G H x0))]), (Ab (stepOk A B C D E F G H x0))]), (oV 17 v'193), (aV [(Ci E), (Ci F), (Ci G), (Ci (stepN A B C D E F G H x0))]), (bV (stepOk A B C D E F G H x0)), (pV 14 b189 0), (pV 15 b190 0), (bV (stepOk A B C D E F G H x0))] [(Ho false rs0), (Hc b0 23 [(Ci A), (Ci B), (Ci C), (Ci D)]), (Hw b1 27 true 3 (Co 0 v0)), (Hc b2 29 [(Ci E), (Ci F), (Ci G), (Ci H)]), (Hw b5 33 true 3 (Co 7 v'9)), (Hc b6 34 [(Ci E), (Ci F), (Ci G), (Ci (stepN A B C D E F G H x0))]), (Ho true rs'8), (Ho true rs'10), (Ho true rs'23), (Hw b13 33 true 3 (Co 8 v'11)), (Hw b14 33 true 3 (Co 12 v'16)), (Hc b15 34 [(Ci E), (Ci F), (Ci G), (Ci (stepN A B C D E F G H x0))]), (Ho true rs'26), (Ho true rs'20), (Hw b189 33 true 3 (Co 17 v'193)), (Hc b190 34 [(Ci E), (Ci F), (Ci G), (Ci (stepN A B C D E F G H x0))]), (Ho true rs'192), (Ho true rs'194)])))))))))))))))) →
 (Q188 [(aV [(Ci A), (Ci B), (Ci C), (Ci D)]), (aV [(Ci A), (Ci B), (Ci C), (Ci D)]), (oV 0 v0), (oV 16 v'163), (aV [(Ci E), (Ci F), (Ci G), (Ci H)]), (aV [(Ci E), (Ci F), (Ci G), (Ci H)]), (uV [(Ao 17 v'186), (Ag [(Ci E), (Ci F), (Ci G), (Ci (stepN A B C D E F G H x0))]), (Ab (stepOk A B C D E F G H x0))]), (uV [(Ao 17 v'186), (Ag [(Ci E), (Ci F), (Ci G), (Ci (stepN A B C D E F G H x0))]), (Ab (stepOk A B C D E F G H x0))]), (oV 17 v'186), (aV [(Ci E), (Ci F), (Ci G), (Ci (stepN A B C D E F G H x0))]), (bV (stepOk A B C D E F G H x0)), (pV 14 b162 0), (pV 15 b185 0), (bV (stepOk A B C D E F G H x0))] [(Ho false rs0), (Hc b0 23 [(Ci A), (Ci B), (Ci C), (Ci D)]), (Hw b1 27 true 3 (Co 0 v0)), (Hc b2 29 [(Ci E), (Ci F), (Ci G), (Ci H)]), (Hw b5 33 true 3 (Co 7 v'9)), (Hc b6 34 [(Ci E), (Ci F), (Ci G), (Ci (stepN A B C D E F G H x0))]), (Ho true rs'8), (Ho true rs'10), (Ho true rs'23), (Hw b13 33 true 3 (Co 8 v'11)), (Hw b14 33 true 3 (Co 12 v'16)), (Hc b15 34 [(Ci E), (Ci F), (Ci G), (Ci (stepN A B C D E F G H x0))]), (Ho true rs'26), (Ho true rs'20), (Hw b162 33 true 3 (Co 17 v'186)), (Hc b185 34 [(Ci E), (Ci F), (Ci G), (Ci (stepN A B C D E F G H x0))]), (Ho true rs'164), (Ho true rs'187)])))))))))))))))))))))) ∧
 (∀ b195 : Nat,
 (True ∧
 (((isArray v0 x0 rs0) ∧
 (capAx x0)) ∧
 (∀ v'196 : Value,
 (∀ rs'197 : (List Row),
 ((isArray v'196 x0 rs'197) →
 (True ∧
 (True ∧
 (((isArray v'196 x0 rs'197) ∧
 (capAx x0)) ∧
 (∀ v'198 : Value,
 (∀ rs'199 : (List Row),
 ((isArray v'198 (stepA A B C D E F G H x0) rs'199) →
 (True ∧
 ((b162 = b162 ∧
 (wholeC true v'198 3)) ∧
 (True ∧
 (b195 = b195 ∧
 (True ∧
 (true = true ∧
 (∀ Q200 : ((List SV) →
 ((List Ch) →
 Prop)),
 ((∀ b201 : Nat,
 (∀ b202 : Nat,
 (b0 = b0 ∧
 (b1 = b1 ∧
 (((isArray v0 x0 rs0) ∧
 (capAx x0)) ∧
 (∀ v'203 : Value,
 (∀ rs'204 : (List Row),
 ((isArray v'203 x0 rs'204) →
 (b2 = b2 ∧
 (((isArray v'203 x0 rs'204) ∧
 (capAx x0)) ∧
 (∀ v'205 : Value,
 (∀ rs'206 : (List Row),
 ((isArray v'205 (stepA A B C D E F G H x0) rs'206) →
 ((b201 = b201 ∧
 (wholeC true v'205 3)) ∧
 (b202 = b202 ∧
 (Q200 [(aV [(Ci A), (Ci B), (Ci C), (Ci D)]), (aV [(Ci A), (Ci B), (Ci C), (Ci D)]), (oV 0 v0), (oV 16 v'203), (aV [(Ci E), (Ci F), (Ci G), (Ci H)]), (aV [(Ci E), (Ci F), (Ci G), (Ci H)]), (uV [(Ao 17 v'205), (Ag [(Ci E), (Ci F), (Ci G), (Ci (stepN A B C D E F G H x0))]), (Ab (stepOk A B C D E F G H x0))]), (uV [(Ao 17 v'205), (Ag [(Ci E), (Ci F), (Ci G), (Ci (stepN A B C D E F G H x0))]), (Ab (stepOk A B C D E F G H x0))]), (oV 17 v'205), (aV [(Ci E), (Ci F), (Ci G), (Ci (stepN A B C D E F G H x0))]), (bV (stepOk A B C D E F G H x0)), (pV 14 b201 0), (pV 15 b202 0), (bV (stepOk A B C D E F G H x0))] [(Ho false rs0), (Hc b0 23 [(Ci A), (Ci B), (Ci C), (Ci D)]), (Hw b1 27 true 3 (Co 0 v0)), (Hc b2 29 [(Ci E), (Ci F), (Ci G), (Ci H)]), (Hw b5 33 true 3 (Co 7 v'9)), (Hc b6 34 [(Ci E), (Ci F), (Ci G), (Ci (stepN A B C D E F G H x0))]), (Ho true rs'8), (Ho true rs'10), (Ho true rs'23), (Hw b13 33 true 3 (Co 8 v'11)), (Hw b14 33 true 3 (Co 12 v'16)), (Hc b15 34 [(Ci E), (Ci F), (Ci G), (Ci (stepN A B C D E F G H x0))]), (Ho true rs'26), (Ho true rs'20), (Hw b201 33 true 3 (Co 17 v'205)), (Hc b202 34 [(Ci E), (Ci F), (Ci G), (Ci (stepN A B C D E F G H x0))]), (Ho true rs'204), (Ho true rs'206)])))))))))))))))) →
 (Q200 [(aV [(Ci A), (Ci B), (Ci C), (Ci D)]), (aV [(Ci A), (Ci B), (Ci C), (Ci D)]), (oV 0 v0), (oV 16 v'196), (aV [(Ci E), (Ci F), (Ci G), (Ci H)]), (aV [(Ci E), (Ci F), (Ci G), (Ci H)]), (uV [(Ao 17 v'198), (Ag [(Ci E), (Ci F), (Ci G), (Ci (stepN A B C D E F G H x0))]), (Ab (stepOk A B C D E F G H x0))]), (uV [(Ao 17 v'198), (Ag [(Ci E), (Ci F), (Ci G), (Ci (stepN A B C D E F G H x0))]), (Ab (stepOk A B C D E F G H x0))]), (oV 17 v'198), (aV [(Ci E), (Ci F), (Ci G), (Ci (stepN A B C D E F G H x0))]), (bV (stepOk A B C D E F G H x0)), (pV 14 b162 0), (pV 15 b195 0), (bV (stepOk A B C D E F G H x0))] [(Ho false rs0), (Hc b0 23 [(Ci A), (Ci B), (Ci C), (Ci D)]), (Hw b1 27 true 3 (Co 0 v0)), (Hc b2 29 [(Ci E), (Ci F), (Ci G), (Ci H)]), (Hw b5 33 true 3 (Co 7 v'9)), (Hc b6 34 [(Ci E), (Ci F), (Ci G), (Ci (stepN A B C D E F G H x0))]), (Ho true rs'8), (Ho true rs'10), (Ho true rs'23), (Hw b13 33 true 3 (Co 8 v'11)), (Hw b14 33 true 3 (Co 12 v'16)), (Hc b15 34 [(Ci E), (Ci F), (Ci G), (Ci (stepN A B C D E F G H x0))]), (Ho true rs'26), (Ho true rs'20), (Hw b162 33 true 3 (Co 17 v'198)), (Hc b195 34 [(Ci E), (Ci F), (Ci G), (Ci (stepN A B C D E F G H x0))]), (Ho true rs'197), (Ho true rs'199)])))))))))))))))))))))))) ∧
 (∀ b207 : Nat,
 (True ∧
 ((((isArray v0 x0 rs0) ∧
 (capAx x0)) ∧
 (∀ v'208 : Value,
 (∀ rs'209 : (List Row),
 ((isArray v'208 x0 rs'209) →
 (True ∧
 ((True ∧
 ((((isArray v'208 x0 rs'209) ∧
 (capAx x0)) ∧
 (∀ v'210 : Value,
 (∀ rs'211 : (List Row),
 ((isArray v'210 (stepA A B C D E F G H x0) rs'211) →
 (True ∧
 (∀ b212 : Nat,
 (True ∧
 ((b212 = b212 ∧
 (wholeC true v'210 3)) ∧
 (True ∧
 (b207 = b207 ∧
 (True ∧
 (true = true ∧
 (∀ Q213 : ((List SV) →
 ((List Ch) →
 Prop)),
 ((∀ b214 : Nat,
 (∀ b215 : Nat,
 (b0 = b0 ∧
 (b1 = b1 ∧
 (((isArray v0 x0 rs0) ∧
 (capAx x0)) ∧
 (∀ v'216 : Value,
 (∀ rs'217 : (List Row),
 ((isArray v'216 x0 rs'217) →
 (b2 = b2 ∧
 (((isArray v'216 x0 rs'217) ∧
 (capAx x0)) ∧
 (∀ v'218 : Value,
 (∀ rs'219 : (List Row),
 ((isArray v'218 (stepA A B C D E F G H x0) rs'219) →
 ((b214 = b214 ∧
 (wholeC true v'218 3)) ∧
 (b215 = b215 ∧
 (Q213 [(aV [(Ci A), (Ci B), (Ci C), (Ci D)]), (aV [(Ci A), (Ci B), (Ci C), (Ci D)]), (oV 0 v0), (oV 16 v'216), (aV [(Ci E), (Ci F), (Ci G), (Ci H)]), (aV [(Ci E), (Ci F), (Ci G), (Ci H)]), (uV [(Ao 17 v'218), (Ag [(Ci E), (Ci F), (Ci G), (Ci (stepN A B C D E F G H x0))]), (Ab (stepOk A B C D E F G H x0))]), (uV [(Ao 17 v'218), (Ag [(Ci E), (Ci F), (Ci G), (Ci (stepN A B C D E F G H x0))]), (Ab (stepOk A B C D E F G H x0))]), (oV 17 v'218), (aV [(Ci E), (Ci F), (Ci G), (Ci (stepN A B C D E F G H x0))]), (bV (stepOk A B C D E F G H x0)), (pV 14 b214 0), (pV 15 b215 0), (bV (stepOk A B C D E F G H x0))] [(Ho false rs0), (Hc b0 23 [(Ci A), (Ci B), (Ci C), (Ci D)]), (Hw b1 27 true 3 (Co 0 v0)), (Hc b2 29 [(Ci E), (Ci F), (Ci G), (Ci H)]), (Hw b5 33 true 3 (Co 7 v'9)), (Hc b6 34 [(Ci E), (Ci F), (Ci G), (Ci (stepN A B C D E F G H x0))]), (Ho true rs'8), (Ho true rs'10), (Ho true rs'23), (Hw b13 33 true 3 (Co 8 v'11)), (Hw b14 33 true 3 (Co 12 v'16)), (Hc b15 34 [(Ci E), (Ci F), (Ci G), (Ci (stepN A B C D E F G H x0))]), (Ho true rs'26), (Ho true rs'20), (Hw b214 33 true 3 (Co 17 v'218)), (Hc b215 34 [(Ci E), (Ci F), (Ci G), (Ci (stepN A B C D E F G H x0))]), (Ho true rs'217), (Ho true rs'219)])))))))))))))))) →
 (Q213 [(aV [(Ci A), (Ci B), (Ci C), (Ci D)]), (aV [(Ci A), (Ci B), (Ci C), (Ci D)]), (oV 0 v0), (oV 16 v'208), (aV [(Ci E), (Ci F), (Ci G), (Ci H)]), (aV [(Ci E), (Ci F), (Ci G), (Ci H)]), (uV [(Ao 17 v'210), (Ag [(Ci E), (Ci F), (Ci G), (Ci (stepN A B C D E F G H x0))]), (Ab (stepOk A B C D E F G H x0))]), (uV [(Ao 17 v'210), (Ag [(Ci E), (Ci F), (Ci G), (Ci (stepN A B C D E F G H x0))]), (Ab (stepOk A B C D E F G H x0))]), (oV 17 v'210), (aV [(Ci E), (Ci F), (Ci G), (Ci (stepN A B C D E F G H x0))]), (bV (stepOk A B C D E F G H x0)), (pV 14 b212 0), (pV 15 b207 0), (bV (stepOk A B C D E F G H x0))] [(Ho false rs0), (Hc b0 23 [(Ci A), (Ci B), (Ci C), (Ci D)]), (Hw b1 27 true 3 (Co 0 v0)), (Hc b2 29 [(Ci E), (Ci F), (Ci G), (Ci H)]), (Hw b5 33 true 3 (Co 7 v'9)), (Hc b6 34 [(Ci E), (Ci F), (Ci G), (Ci (stepN A B C D E F G H x0))]), (Ho true rs'8), (Ho true rs'10), (Ho true rs'23), (Hw b13 33 true 3 (Co 8 v'11)), (Hw b14 33 true 3 (Co 12 v'16)), (Hc b15 34 [(Ci E), (Ci F), (Ci G), (Ci (stepN A B C D E F G H x0))]), (Ho true rs'26), (Ho true rs'20), (Hw b212 33 true 3 (Co 17 v'210)), (Hc b207 34 [(Ci E), (Ci F), (Ci G), (Ci (stepN A B C D E F G H x0))]), (Ho true rs'209), (Ho true rs'211)]))))))))))))))) ∧
 (∀ b220 : Nat,
 (True ∧
 (((isArray v'208 x0 rs'209) ∧
 (capAx x0)) ∧
 (∀ v'221 : Value,
 (∀ rs'222 : (List Row),
 ((isArray v'221 (stepA A B C D E F G H x0) rs'222) →
 (True ∧
 ((b220 = b220 ∧
 (wholeC true v'221 3)) ∧
 (True ∧
 (b207 = b207 ∧
 (True ∧
 (true = true ∧
 (∀ Q223 : ((List SV) →
 ((List Ch) →
 Prop)),
 ((∀ b224 : Nat,
 (∀ b225 : Nat,
 (b0 = b0 ∧
 (b1 = b1 ∧
 (((isArray v0 x0 rs0) ∧
 (capAx x0)) ∧
 (∀ v'226 : Value,
 (∀ rs'227 : (List Row),
 ((isArray v'226 x0 rs'227) →
 (b2 = b2 ∧
 (((isArray v'226 x0 rs'227) ∧
 (capAx x0)) ∧
 (∀ v'228 : Value,
 (∀ rs'229 : (List Row),
 ((isArray v'228 (stepA A B C D E F G H x0) rs'229) →
 ((b224 = b224 ∧
 (wholeC true v'228 3)) ∧
 (b225 = b225 ∧
 (Q223 [(aV [(Ci A), (Ci B), (Ci C), (Ci D)]), (aV [(Ci A), (Ci B), (Ci C), (Ci D)]), (oV 0 v0), (oV 16 v'226), (aV [(Ci E), (Ci F), (Ci G), (Ci H)]), (aV [(Ci E), (Ci F), (Ci G), (Ci H)]), (uV [(Ao 17 v'228), (Ag [(Ci E), (Ci F), (Ci G), (Ci (stepN A B C D E F G H x0))]), (Ab (stepOk A B C D E F G H x0))]), (uV [(Ao 17 v'228), (Ag [(Ci E), (Ci F), (Ci G), (Ci (stepN A B C D E F G H x0))]), (Ab (stepOk A B C D E F G H x0))]), (oV 17 v'228), (aV [(Ci E), (Ci F), (Ci G), (Ci (stepN A B C D E F G H x0))]), (bV (stepOk A B C D E F G H x0)), (pV 14 b224 0), (pV 15 b225 0), (bV (stepOk A B C D E F G H x0))] [(Ho false rs0), (Hc b0 23 [(Ci A), (Ci B), (Ci C), (Ci D)]), (Hw b1 27 true 3 (Co 0 v0)), (Hc b2 29 [(Ci E), (Ci F), (Ci G), (Ci H)]), (Hw b5 33 true 3 (Co 7 v'9)), (Hc b6 34 [(Ci E), (Ci F), (Ci G), (Ci (stepN A B C D E F G H x0))]), (Ho true rs'8), (Ho true rs'10), (Ho true rs'23), (Hw b13 33 true 3 (Co 8 v'11)), (Hw b14 33 true 3 (Co 12 v'16)), (Hc b15 34 [(Ci E), (Ci F), (Ci G), (Ci (stepN A B C D E F G H x0))]), (Ho true rs'26), (Ho true rs'20), (Hw b224 33 true 3 (Co 17 v'228)), (Hc b225 34 [(Ci E), (Ci F), (Ci G), (Ci (stepN A B C D E F G H x0))]), (Ho true rs'227), (Ho true rs'229)])))))))))))))))) →
 (Q223 [(aV [(Ci A), (Ci B), (Ci C), (Ci D)]), (aV [(Ci A), (Ci B), (Ci C), (Ci D)]), (oV 0 v0), (oV 16 v'208), (aV [(Ci E), (Ci F), (Ci G), (Ci H)]), (aV [(Ci E), (Ci F), (Ci G), (Ci H)]), (uV [(Ao 17 v'221), (Ag [(Ci E), (Ci F), (Ci G), (Ci (stepN A B C D E F G H x0))]), (Ab (stepOk A B C D E F G H x0))]), (uV [(Ao 17 v'221), (Ag [(Ci E), (Ci F), (Ci G), (Ci (stepN A B C D E F G H x0))]), (Ab (stepOk A B C D E F G H x0))]), (oV 17 v'221), (aV [(Ci E), (Ci F), (Ci G), (Ci (stepN A B C D E F G H x0))]), (bV (stepOk A B C D E F G H x0)), (pV 14 b220 0), (pV 15 b207 0), (bV (stepOk A B C D E F G H x0))] [(Ho false rs0), (Hc b0 23 [(Ci A), (Ci B), (Ci C), (Ci D)]), (Hw b1 27 true 3 (Co 0 v0)), (Hc b2 29 [(Ci E), (Ci F), (Ci G), (Ci H)]), (Hw b5 33 true 3 (Co 7 v'9)), (Hc b6 34 [(Ci E), (Ci F), (Ci G), (Ci (stepN A B C D E F G H x0))]), (Ho true rs'8), (Ho true rs'10), (Ho true rs'23), (Hw b13 33 true 3 (Co 8 v'11)), (Hw b14 33 true 3 (Co 12 v'16)), (Hc b15 34 [(Ci E), (Ci F), (Ci G), (Ci (stepN A B C D E F G H x0))]), (Ho true rs'26), (Ho true rs'20), (Hw b220 33 true 3 (Co 17 v'221)), (Hc b207 34 [(Ci E), (Ci F), (Ci G), (Ci (stepN A B C D E F G H x0))]), (Ho true rs'209), (Ho true rs'222)]))))))))))))))))) ∧
 (∀ b230 : Nat,
 (True ∧
 (True ∧
 (((isArray v'208 x0 rs'209) ∧
 (capAx x0)) ∧
 (∀ v'231 : Value,
 (∀ rs'232 : (List Row),
 ((isArray v'231 (stepA A B C D E F G H x0) rs'232) →
 (True ∧
 ((b230 = b230 ∧
 (wholeC true v'231 3)) ∧
 (True ∧
 (b207 = b207 ∧
 (True ∧
 (true = true ∧
 (∀ Q233 : ((List SV) →
 ((List Ch) →
 Prop)),
 ((∀ b234 : Nat,
 (∀ b235 : Nat,
 (b0 = b0 ∧
 (b1 = b1 ∧
 (((isArray v0 x0 rs0) ∧
 (capAx x0)) ∧
 (∀ v'236 : Value,
 (∀ rs'237 : (List Row),
 ((isArray v'236 x0 rs'237) →
 (b2 = b2 ∧
 (((isArray v'236 x0 rs'237) ∧
 (capAx x0)) ∧
 (∀ v'238 : Value,
 (∀ rs'239 : (List Row),
 ((isArray v'238 (stepA A B C D E F G H x0) rs'239) →
 ((b234 = b234 ∧
 (wholeC true v'238 3)) ∧
 (b235 = b235 ∧
 (Q233 [(aV [(Ci A), (Ci B), (Ci C), (Ci D)]), (aV [(Ci A), (Ci B), (Ci C), (Ci D)]), (oV 0 v0), (oV 16 v'236), (aV [(Ci E), (Ci F), (Ci G), (Ci H)]), (aV [(Ci E), (Ci F), (Ci G), (Ci H)]), (uV [(Ao 17 v'238), (Ag [(Ci E), (Ci F), (Ci G), (Ci (stepN A B C D E F G H x0))]), (Ab (stepOk A B C D E F G H x0))]), (uV [(Ao 17 v'238), (Ag [(Ci E), (Ci F), (Ci G), (Ci (stepN A B C D E F G H x0))]), (Ab (stepOk A B C D E F G H x0))]), (oV 17 v'238), (aV [(Ci E), (Ci F), (Ci G), (Ci (stepN A B C D E F G H x0))]), (bV (stepOk A B C D E F G H x0)), (pV 14 b234 0), (pV 15 b235 0), (bV (stepOk A B C D E F G H x0))] [(Ho false rs0), (Hc b0 23 [(Ci A), (Ci B), (Ci C), (Ci D)]), (Hw b1 27 true 3 (Co 0 v0)), (Hc b2 29 [(Ci E), (Ci F), (Ci G), (Ci H)]), (Hw b5 33 true 3 (Co 7 v'9)), (Hc b6 34 [(Ci E), (Ci F), (Ci G), (Ci (stepN A B C D E F G H x0))]), (Ho true rs'8), (Ho true rs'10), (Ho true rs'23), (Hw b13 33 true 3 (Co 8 v'11)), (Hw b14 33 true 3 (Co 12 v'16)), (Hc b15 34 [(Ci E), (Ci F), (Ci G), (Ci (stepN A B C D E F G H x0))]), (Ho true rs'26), (Ho true rs'20), (Hw b234 33 true 3 (Co 17 v'238)), (Hc b235 34 [(Ci E), (Ci F), (Ci G), (Ci (stepN A B C D E F G H x0))]), (Ho true rs'237), (Ho true rs'239)])))))))))))))))) →
 (Q233 [(aV [(Ci A), (Ci B), (Ci C), (Ci D)]), (aV [(Ci A), (Ci B), (Ci C), (Ci D)]), (oV 0 v0), (oV 16 v'208), (aV [(Ci E), (Ci F), (Ci G), (Ci H)]), (aV [(Ci E), (Ci F), (Ci G), (Ci H)]), (uV [(Ao 17 v'231), (Ag [(Ci E), (Ci F), (Ci G), (Ci (stepN A B C D E F G H x0))]), (Ab (stepOk A B C D E F G H x0))]), (uV [(Ao 17 v'231), (Ag [(Ci E), (Ci F), (Ci G), (Ci (stepN A B C D E F G H x0))]), (Ab (stepOk A B C D E F G H x0))]), (oV 17 v'231), (aV [(Ci E), (Ci F), (Ci G), (Ci (stepN A B C D E F G H x0))]), (bV (stepOk A B C D E F G H x0)), (pV 14 b230 0), (pV 15 b207 0), (bV (stepOk A B C D E F G H x0))] [(Ho false rs0), (Hc b0 23 [(Ci A), (Ci B), (Ci C), (Ci D)]), (Hw b1 27 true 3 (Co 0 v0)), (Hc b2 29 [(Ci E), (Ci F), (Ci G), (Ci H)]), (Hw b5 33 true 3 (Co 7 v'9)), (Hc b6 34 [(Ci E), (Ci F), (Ci G), (Ci (stepN A B C D E F G H x0))]), (Ho true rs'8), (Ho true rs'10), (Ho true rs'23), (Hw b13 33 true 3 (Co 8 v'11)), (Hw b14 33 true 3 (Co 12 v'16)), (Hc b15 34 [(Ci E), (Ci F), (Ci G), (Ci (stepN A B C D E F G H x0))]), (Ho true rs'26), (Ho true rs'20), (Hw b230 33 true 3 (Co 17 v'231)), (Hc b207 34 [(Ci E), (Ci F), (Ci G), (Ci (stepN A B C D E F G H x0))]), (Ho true rs'209), (Ho true rs'232)])))))))))))))))))))))) ∧
 (∀ b240 : Nat,
 (True ∧
 (((isArray v0 x0 rs0) ∧
 (capAx x0)) ∧
 (∀ v'241 : Value,
 (∀ rs'242 : (List Row),
 ((isArray v'241 x0 rs'242) →
 (True ∧
 (True ∧
 (((isArray v'241 x0 rs'242) ∧
 (capAx x0)) ∧
 (∀ v'243 : Value,
 (∀ rs'244 : (List Row),
 ((isArray v'243 (stepA A B C D E F G H x0) rs'244) →
 (True ∧
 ((b240 = b240 ∧
 (wholeC true v'243 3)) ∧
 (True ∧
 (b207 = b207 ∧
 (True ∧
 (true = true ∧
 (∀ Q245 : ((List SV) →
 ((List Ch) →
 Prop)),
 ((∀ b246 : Nat,
 (∀ b247 : Nat,
 (b0 = b0 ∧
 (b1 = b1 ∧
 (((isArray v0 x0 rs0) ∧
 (capAx x0)) ∧
 (∀ v'248 : Value,
 (∀ rs'249 : (List Row),
 ((isArray v'248 x0 rs'249) →
 (b2 = b2 ∧
 (((isArray v'248 x0 rs'249) ∧
 (capAx x0)) ∧
 (∀ v'250 : Value,
 (∀ rs'251 : (List Row),
 ((isArray v'250 (stepA A B C D E F G H x0) rs'251) →
 ((b246 = b246 ∧
 (wholeC true v'250 3)) ∧
 (b247 = b247 ∧
 (Q245 [(aV [(Ci A), (Ci B), (Ci C), (Ci D)]), (aV [(Ci A), (Ci B), (Ci C), (Ci D)]), (oV 0 v0), (oV 16 v'248), (aV [(Ci E), (Ci F), (Ci G), (Ci H)]), (aV [(Ci E), (Ci F), (Ci G), (Ci H)]), (uV [(Ao 17 v'250), (Ag [(Ci E), (Ci F), (Ci G), (Ci (stepN A B C D E F G H x0))]), (Ab (stepOk A B C D E F G H x0))]), (uV [(Ao 17 v'250), (Ag [(Ci E), (Ci F), (Ci G), (Ci (stepN A B C D E F G H x0))]), (Ab (stepOk A B C D E F G H x0))]), (oV 17 v'250), (aV [(Ci E), (Ci F), (Ci G), (Ci (stepN A B C D E F G H x0))]), (bV (stepOk A B C D E F G H x0)), (pV 14 b246 0), (pV 15 b247 0), (bV (stepOk A B C D E F G H x0))] [(Ho false rs0), (Hc b0 23 [(Ci A), (Ci B), (Ci C), (Ci D)]), (Hw b1 27 true 3 (Co 0 v0)), (Hc b2 29 [(Ci E), (Ci F), (Ci G), (Ci H)]), (Hw b5 33 true 3 (Co 7 v'9)), (Hc b6 34 [(Ci E), (Ci F), (Ci G), (Ci (stepN A B C D E F G H x0))]), (Ho true rs'8), (Ho true rs'10), (Ho true rs'23), (Hw b13 33 true 3 (Co 8 v'11)), (Hw b14 33 true 3 (Co 12 v'16)), (Hc b15 34 [(Ci E), (Ci F), (Ci G), (Ci (stepN A B C D E F G H x0))]), (Ho true rs'26), (Ho true rs'20), (Hw b246 33 true 3 (Co 17 v'250)), (Hc b247 34 [(Ci E), (Ci F), (Ci G), (Ci (stepN A B C D E F G H x0))]), (Ho true rs'249), (Ho true rs'251)])))))))))))))))) →
 (Q245 [(aV [(Ci A), (Ci B), (Ci C), (Ci D)]), (aV [(Ci A), (Ci B), (Ci C), (Ci D)]), (oV 0 v0), (oV 16 v'241), (aV [(Ci E), (Ci F), (Ci G), (Ci H)]), (aV [(Ci E), (Ci F), (Ci G), (Ci H)]), (uV [(Ao 17 v'243), (Ag [(Ci E), (Ci F), (Ci G), (Ci (stepN A B C D E F G H x0))]), (Ab (stepOk A B C D E F G H x0))]), (uV [(Ao 17 v'243), (Ag [(Ci E), (Ci F), (Ci G), (Ci (stepN A B C D E F G H x0))]), (Ab (stepOk A B C D E F G H x0))]), (oV 17 v'243), (aV [(Ci E), (Ci F), (Ci G), (Ci (stepN A B C D E F G H x0))]), (bV (stepOk A B C D E F G H x0)), (pV 14 b240 0), (pV 15 b207 0), (bV (stepOk A B C D E F G H x0))] [(Ho false rs0), (Hc b0 23 [(Ci A), (Ci B), (Ci C), (Ci D)]), (Hw b1 27 true 3 (Co 0 v0)), (Hc b2 29 [(Ci E), (Ci F), (Ci G), (Ci H)]), (Hw b5 33 true 3 (Co 7 v'9)), (Hc b6 34 [(Ci E), (Ci F), (Ci G), (Ci (stepN A B C D E F G H x0))]), (Ho true rs'8), (Ho true rs'10), (Ho true rs'23), (Hw b13 33 true 3 (Co 8 v'11)), (Hw b14 33 true 3 (Co 12 v'16)), (Hc b15 34 [(Ci E), (Ci F), (Ci G), (Ci (stepN A B C D E F G H x0))]), (Ho true rs'26), (Ho true rs'20), (Hw b240 33 true 3 (Co 17 v'243)), (Hc b207 34 [(Ci E), (Ci F), (Ci G), (Ci (stepN A B C D E F G H x0))]), (Ho true rs'242), (Ho true rs'244)]))))))))))))))))))))))))))) ∧
 ((∀ b252 : Nat,
 (True ∧
 ((True ∧
 ((((isArray v0 x0 rs0) ∧
 (capAx x0)) ∧
 (∀ v'253 : Value,
 (∀ rs'254 : (List Row),
 ((isArray v'253 x0 rs'254) →
 (True ∧
 ((True ∧
 ((((isArray v'253 x0 rs'254) ∧
 (capAx x0)) ∧
 (∀ v'255 : Value,
 (∀ rs'256 : (List Row),
 ((isArray v'255 (stepA A B C D E F G H x0) rs'256) →
 (True ∧
 (∀ b257 : Nat,
 (True ∧
 ((b252 = b252 ∧
 (wholeC true v'255 3)) ∧
 (True ∧
 (b257 = b257 ∧
 (True ∧
 (true = true ∧
 (∀ Q258 : ((List SV) →
 ((List Ch) →
 Prop)),
 ((∀ b259 : Nat,
 (∀ b260 : Nat,
 (b0 = b0 ∧
 (b1 = b1 ∧
 (((isArray v0 x0 rs0) ∧
 (capAx x0)) ∧
 (∀ v'261 : Value,
 (∀ rs'262 : (List Row),
 ((isArray v'261 x0 rs'262) →
 (b2 = b2 ∧
 (((isArray v'261 x0 rs'262) ∧
 (capAx x0)) ∧
 (∀ v'263 : Value,
 (∀ rs'264 : (List Row),
 ((isArray v'263 (stepA A B C D E F G H x0) rs'264) →
 ((b259 = b259 ∧
 (wholeC true v'263 3)) ∧
 (b260 = b260 ∧
 (Q258 [(aV [(Ci A), (Ci B), (Ci C), (Ci D)]), (aV [(Ci A), (Ci B), (Ci C), (Ci D)]), (oV 0 v0), (oV 16 v'261), (aV [(Ci E), (Ci F), (Ci G), (Ci H)]), (aV [(Ci E), (Ci F), (Ci G), (Ci H)]), (uV [(Ao 17 v'263), (Ag [(Ci E), (Ci F), (Ci G), (Ci (stepN A B C D E F G H x0))]), (Ab (stepOk A B C D E F G H x0))]), (uV [(Ao 17 v'263), (Ag [(Ci E), (Ci F), (Ci G), (Ci (stepN A B C D E F G H x0))]), (Ab (stepOk A B C D E F G H x0))]), (oV 17 v'263), (aV [(Ci E), (Ci F), (Ci G), (Ci (stepN A B C D E F G H x0))]), (bV (stepOk A B C D E F G H x0)), (pV 14 b259 0), (pV 15 b260 0), (bV (stepOk A B C D E F G H x0))] [(Ho false rs0), (Hc b0 23 [(Ci A), (Ci B), (Ci C), (Ci D)]), (Hw b1 27 true 3 (Co 0 v0)), (Hc b2 29 [(Ci E), (Ci F), (Ci G), (Ci H)]), (Hw b5 33 true 3 (Co 7 v'9)), (Hc b6 34 [(Ci E), (Ci F), (Ci G), (Ci (stepN A B C D E F G H x0))]), (Ho true rs'8), (Ho true rs'10), (Ho true rs'23), (Hw b13 33 true 3 (Co 8 v'11)), (Hw b14 33 true 3 (Co 12 v'16)), (Hc b15 34 [(Ci E), (Ci F), (Ci G), (Ci (stepN A B C D E F G H x0))]), (Ho true rs'26), (Ho true rs'20), (Hw b259 33 true 3 (Co 17 v'263)), (Hc b260 34 [(Ci E), (Ci F), (Ci G), (Ci (stepN A B C D E F G H x0))]), (Ho true rs'262), (Ho true rs'264)])))))))))))))))) →
 (Q258 [(aV [(Ci A), (Ci B), (Ci C), (Ci D)]), (aV [(Ci A), (Ci B), (Ci C), (Ci D)]), (oV 0 v0), (oV 16 v'253), (aV [(Ci E), (Ci F), (Ci G), (Ci H)]), (aV [(Ci E), (Ci F), (Ci G), (Ci H)]), (uV [(Ao 17 v'255), (Ag [(Ci E), (Ci F), (Ci G), (Ci (stepN A B C D E F G H x0))]), (Ab (stepOk A B C D E F G H x0))]), (uV [(Ao 17 v'255), (Ag [(Ci E), (Ci F), (Ci G), (Ci (stepN A B C D E F G H x0))]), (Ab (stepOk A B C D E F G H x0))]), (oV 17 v'255), (aV [(Ci E), (Ci F), (Ci G), (Ci (stepN A B C D E F G H x0))]), (bV (stepOk A B C D E F G H x0)), (pV 14 b252 0), (pV 15 b257 0), (bV (stepOk A B C D E F G H x0))] [(Ho false rs0), (Hc b0 23 [(Ci A), (Ci B), (Ci C), (Ci D)]), (Hw b1 27 true 3 (Co 0 v0)), (Hc b2 29 [(Ci E), (Ci F), (Ci G), (Ci H)]), (Hw b5 33 true 3 (Co 7 v'9)), (Hc b6 34 [(Ci E), (Ci F), (Ci G), (Ci (stepN A B C D E F G H x0))]), (Ho true rs'8), (Ho true rs'10), (Ho true rs'23), (Hw b13 33 true 3 (Co 8 v'11)), (Hw b14 33 true 3 (Co 12 v'16)), (Hc b15 34 [(Ci E), (Ci F), (Ci G), (Ci (stepN A B C D E F G H x0))]), (Ho true rs'26), (Ho true rs'20), (Hw b252 33 true 3 (Co 17 v'255)), (Hc b257 34 [(Ci E), (Ci F), (Ci G), (Ci (stepN A B C D E F G H x0))]), (Ho true rs'254), (Ho true rs'256)]))))))))))))))) ∧
 (∀ b265 : Nat,
 (True ∧
 (((isArray v'253 x0 rs'254) ∧
 (capAx x0)) ∧
 (∀ v'266 : Value,
 (∀ rs'267 : (List Row),
 ((isArray v'266 (stepA A B C D E F G H x0) rs'267) →
 (True ∧
 ((b252 = b252 ∧
 (wholeC true v'266 3)) ∧
 (True ∧
 (b265 = b265 ∧
 (True ∧
 (true = true ∧
 (∀ Q268 : ((List SV) →
 ((List Ch) →
 Prop)),
 ((∀ b269 : Nat,
 (∀ b270 : Nat,
 (b0 = b0 ∧
 (b1 = b1 ∧
 (((isArray v0 x0 rs0) ∧
 (capAx x0)) ∧
 (∀ v'271 : Value,
 (∀ rs'272 : (List Row),
 ((isArray v'271 x0 rs'272) →
 (b2 = b2 ∧
 (((isArray v'271 x0 rs'272) ∧
 (capAx x0)) ∧
 (∀ v'273 : Value,
 (∀ rs'274 : (List Row),
 ((isArray v'273 (stepA A B C D E F G H x0) rs'274) →
 ((b269 = b269 ∧
 (wholeC true v'273 3)) ∧
 (b270 = b270 ∧
 (Q268 [(aV [(Ci A), (Ci B), (Ci C), (Ci D)]), (aV [(Ci A), (Ci B), (Ci C), (Ci D)]), (oV 0 v0), (oV 16 v'271), (aV [(Ci E), (Ci F), (Ci G), (Ci H)]), (aV [(Ci E), (Ci F), (Ci G), (Ci H)]), (uV [(Ao 17 v'273), (Ag [(Ci E), (Ci F), (Ci G), (Ci (stepN A B C D E F G H x0))]), (Ab (stepOk A B C D E F G H x0))]), (uV [(Ao 17 v'273), (Ag [(Ci E), (Ci F), (Ci G), (Ci (stepN A B C D E F G H x0))]), (Ab (stepOk A B C D E F G H x0))]), (oV 17 v'273), (aV [(Ci E), (Ci F), (Ci G), (Ci (stepN A B C D E F G H x0))]), (bV (stepOk A B C D E F G H x0)), (pV 14 b269 0), (pV 15 b270 0), (bV (stepOk A B C D E F G H x0))] [(Ho false rs0), (Hc b0 23 [(Ci A), (Ci B), (Ci C), (Ci D)]), (Hw b1 27 true 3 (Co 0 v0)), (Hc b2 29 [(Ci E), (Ci F), (Ci G), (Ci H)]), (Hw b5 33 true 3 (Co 7 v'9)), (Hc b6 34 [(Ci E), (Ci F), (Ci G), (Ci (stepN A B C D E F G H x0))]), (Ho true rs'8), (Ho true rs'10), (Ho true rs'23), (Hw b13 33 true 3 (Co 8 v'11)), (Hw b14 33 true 3 (Co 12 v'16)), (Hc b15 34 [(Ci E), (Ci F), (Ci G), (Ci (stepN A B C D E F G H x0))]), (Ho true rs'26), (Ho true rs'20), (Hw b269 33 true 3 (Co 17 v'273)), (Hc b270 34 [(Ci E), (Ci F), (Ci G), (Ci (stepN A B C D E F G H x0))]), (Ho true rs'272), (Ho true rs'274)])))))))))))))))) →
 (Q268 [(aV [(Ci A), (Ci B), (Ci C), (Ci D)]), (aV [(Ci A), (Ci B), (Ci C), (Ci D)]), (oV 0 v0), (oV 16 v'253), (aV [(Ci E), (Ci F), (Ci G), (Ci H)]), (aV [(Ci E), (Ci F), (Ci G), (Ci H)]), (uV [(Ao 17 v'266), (Ag [(Ci E), (Ci F), (Ci G), (Ci (stepN A B C D E F G H x0))]), (Ab (stepOk A B C D E F G H x0))]), (uV [(Ao 17 v'266), (Ag [(Ci E), (Ci F), (Ci G), (Ci (stepN A B C D E F G H x0))]), (Ab (stepOk A B C D E F G H x0))]), (oV 17 v'266), (aV [(Ci E), (Ci F), (Ci G), (Ci (stepN A B C D E F G H x0))]), (bV (stepOk A B C D E F G H x0)), (pV 14 b252 0), (pV 15 b265 0), (bV (stepOk A B C D E F G H x0))] [(Ho false rs0), (Hc b0 23 [(Ci A), (Ci B), (Ci C), (Ci D)]), (Hw b1 27 true 3 (Co 0 v0)), (Hc b2 29 [(Ci E), (Ci F), (Ci G), (Ci H)]), (Hw b5 33 true 3 (Co 7 v'9)), (Hc b6 34 [(Ci E), (Ci F), (Ci G), (Ci (stepN A B C D E F G H x0))]), (Ho true rs'8), (Ho true rs'10), (Ho true rs'23), (Hw b13 33 true 3 (Co 8 v'11)), (Hw b14 33 true 3 (Co 12 v'16)), (Hc b15 34 [(Ci E), (Ci F), (Ci G), (Ci (stepN A B C D E F G H x0))]), (Ho true rs'26), (Ho true rs'20), (Hw b252 33 true 3 (Co 17 v'266)), (Hc b265 34 [(Ci E), (Ci F), (Ci G), (Ci (stepN A B C D E F G H x0))]), (Ho true rs'254), (Ho true rs'267)]))))))))))))))))) ∧
 (∀ b275 : Nat,
 (True ∧
 (True ∧
 (((isArray v'253 x0 rs'254) ∧
 (capAx x0)) ∧
 (∀ v'276 : Value,
 (∀ rs'277 : (List Row),
 ((isArray v'276 (stepA A B C D E F G H x0) rs'277) →
 (True ∧
 ((b252 = b252 ∧
 (wholeC true v'276 3)) ∧
 (True ∧
 (b275 = b275 ∧
 (True ∧
 (true = true ∧
 (∀ Q278 : ((List SV) →
 ((List Ch) →
 Prop)),
 ((∀ b279 : Nat,
 (∀ b280 : Nat,
 (b0 = b0 ∧
 (b1 = b1 ∧
 (((isArray v0 x0 rs0) ∧
 (capAx x0)) ∧
 (∀ v'281 : Value,
 (∀ rs'282 : (List Row),
 ((isArray v'281 x0 rs'282) →
 (b2 = b2 ∧
 (((isArray v'281 x0 rs'282) ∧
 (capAx x0)) ∧
 (∀ v'283 : Value,
 (∀ rs'284 : (List Row),
 ((isArray v'283 (stepA A B C D E F G H x0) rs'284) →
 ((b279 = b279 ∧
 (wholeC true v'283 3)) ∧
 (b280 = b280 ∧
 (Q278 [(aV [(Ci A), (Ci B), (Ci C), (Ci D)]), (aV [(Ci A), (Ci B), (Ci C), (Ci D)]), (oV 0 v0), (oV 16 v'281), (aV [(Ci E), (Ci F), (Ci G), (Ci H)]), (aV [(Ci E), (Ci F), (Ci G), (Ci H)]), (uV [(Ao 17 v'283), (Ag [(Ci E), (Ci F), (Ci G), (Ci (stepN A B C D E F G H x0))]), (Ab (stepOk A B C D E F G H x0))]), (uV [(Ao 17 v'283), (Ag [(Ci E), (Ci F), (Ci G), (Ci (stepN A B C D E F G H x0))]), (Ab (stepOk A B C D E F G H x0))]), (oV 17 v'283), (aV [(Ci E), (Ci F), (Ci G), (Ci (stepN A B C D E F G H x0))]), (bV (stepOk A B C D E F G H x0)), (pV 14 b279 0), (pV 15 b280 0), (bV (stepOk A B C D E F G H x0))] [(Ho false rs0), (Hc b0 23 [(Ci A), (Ci B), (Ci C), (Ci D)]), (Hw b1 27 true 3 (Co 0 v0)), (Hc b2 29 [(Ci E), (Ci F), (Ci G), (Ci H)]), (Hw b5 33 true 3 (Co 7 v'9)), (Hc b6 34 [(Ci E), (Ci F), (Ci G), (Ci (stepN A B C D E F G H x0))]), (Ho true rs'8), (Ho true rs'10), (Ho true rs'23), (Hw b13 33 true 3 (Co 8 v'11)), (Hw b14 33 true 3 (Co 12 v'16)), (Hc b15 34 [(Ci E), (Ci F), (Ci G), (Ci (stepN A B C D E F G H x0))]), (Ho true rs'26), (Ho true rs'20), (Hw b279 33 true 3 (Co 17 v'283)), (Hc b280 34 [(Ci E), (Ci F), (Ci G), (Ci (stepN A B C D E F G H x0))]), (Ho true rs'282), (Ho true rs'284)])))))))))))))))) →
 (Q278 [(aV [(Ci A), (Ci B), (Ci C), (Ci D)]), (aV [(Ci A), (Ci B), (Ci C), (Ci D)]), (oV 0 v0), (oV 16 v'253), (aV [(Ci E), (Ci F), (Ci G), (Ci H)]), (aV [(Ci E), (Ci F), (Ci G), (Ci H)]), (uV [(Ao 17 v'276), (Ag [(Ci E), (Ci F), (Ci G), (Ci (stepN A B C D E F G H x0))]), (Ab (stepOk A B C D E F G H x0))]), (uV [(Ao 17 v'276), (Ag [(Ci E), (Ci F), (Ci G), (Ci (stepN A B C D E F G H x0))]), (Ab (stepOk A B C D E F G H x0))]), (oV 17 v'276), (aV [(Ci E), (Ci F), (Ci G), (Ci (stepN A B C D E F G H x0))]), (bV (stepOk A B C D E F G H x0)), (pV 14 b252 0), (pV 15 b275 0), (bV (stepOk A B C D E F G H x0))] [(Ho false rs0), (Hc b0 23 [(Ci A), (Ci B), (Ci C), (Ci D)]), (Hw b1 27 true 3 (Co 0 v0)), (Hc b2 29 [(Ci E), (Ci F), (Ci G), (Ci H)]), (Hw b5 33 true 3 (Co 7 v'9)), (Hc b6 34 [(Ci E), (Ci F), (Ci G), (Ci (stepN A B C D E F G H x0))]), (Ho true rs'8), (Ho true rs'10), (Ho true rs'23), (Hw b13 33 true 3 (Co 8 v'11)), (Hw b14 33 true 3 (Co 12 v'16)), (Hc b15 34 [(Ci E), (Ci F), (Ci G), (Ci (stepN A B C D E F G H x0))]), (Ho true rs'26), (Ho true rs'20), (Hw b252 33 true 3 (Co 17 v'276)), (Hc b275 34 [(Ci E), (Ci F), (Ci G), (Ci (stepN A B C D E F G H x0))]), (Ho true rs'254), (Ho true rs'277)])))))))))))))))))))))) ∧
 (∀ b285 : Nat,
 (True ∧
 (((isArray v0 x0 rs0) ∧
 (capAx x0)) ∧
 (∀ v'286 : Value,
 (∀ rs'287 : (List Row),
 ((isArray v'286 x0 rs'287) →
 (True ∧
 (True ∧
 (((isArray v'286 x0 rs'287) ∧
 (capAx x0)) ∧
 (∀ v'288 : Value,
 (∀ rs'289 : (List Row),
 ((isArray v'288 (stepA A B C D E F G H x0) rs'289) →
 (True ∧
 ((b252 = b252 ∧
 (wholeC true v'288 3)) ∧
 (True ∧
 (b285 = b285 ∧
 (True ∧
 (true = true ∧
 (∀ Q290 : ((List SV) →
 ((List Ch) →
 Prop)),
 ((∀ b291 : Nat,
 (∀ b292 : Nat,
 (b0 = b0 ∧
 (b1 = b1 ∧
 (((isArray v0 x0 rs0) ∧
 (capAx x0)) ∧
 (∀ v'293 : Value,
 (∀ rs'294 : (List Row),
 ((isArray v'293 x0 rs'294) →
 (b2 = b2 ∧
 (((isArray v'293 x0 rs'294) ∧
 (capAx x0)) ∧
 (∀ v'295 : Value,
 (∀ rs'296 : (List Row),
 ((isArray v'295 (stepA A B C D E F G H x0) rs'296) →
 ((b291 = b291 ∧
 (wholeC true v'295 3)) ∧
 (b292 = b292 ∧
 (Q290 [(aV [(Ci A), (Ci B), (Ci C), (Ci D)]), (aV [(Ci A), (Ci B), (Ci C), (Ci D)]), (oV 0 v0), (oV 16 v'293), (aV [(Ci E), (Ci F), (Ci G), (Ci H)]), (aV [(Ci E), (Ci F), (Ci G), (Ci H)]), (uV [(Ao 17 v'295), (Ag [(Ci E), (Ci F), (Ci G), (Ci (stepN A B C D E F G H x0))]), (Ab (stepOk A B C D E F G H x0))]), (uV [(Ao 17 v'295), (Ag [(Ci E), (Ci F), (Ci G), (Ci (stepN A B C D E F G H x0))]), (Ab (stepOk A B C D E F G H x0))]), (oV 17 v'295), (aV [(Ci E), (Ci F), (Ci G), (Ci (stepN A B C D E F G H x0))]), (bV (stepOk A B C D E F G H x0)), (pV 14 b291 0), (pV 15 b292 0), (bV (stepOk A B C D E F G H x0))] [(Ho false rs0), (Hc b0 23 [(Ci A), (Ci B), (Ci C), (Ci D)]), (Hw b1 27 true 3 (Co 0 v0)), (Hc b2 29 [(Ci E), (Ci F), (Ci G), (Ci H)]), (Hw b5 33 true 3 (Co 7 v'9)), (Hc b6 34 [(Ci E), (Ci F), (Ci G), (Ci (stepN A B C D E F G H x0))]), (Ho true rs'8), (Ho true rs'10), (Ho true rs'23), (Hw b13 33 true 3 (Co 8 v'11)), (Hw b14 33 true 3 (Co 12 v'16)), (Hc b15 34 [(Ci E), (Ci F), (Ci G), (Ci (stepN A B C D E F G H x0))]), (Ho true rs'26), (Ho true rs'20), (Hw b291 33 true 3 (Co 17 v'295)), (Hc b292 34 [(Ci E), (Ci F), (Ci G), (Ci (stepN A B C D E F G H x0))]), (Ho true rs'294), (Ho true rs'296)])))))))))))))))) →
 (Q290 [(aV [(Ci A), (Ci B), (Ci C), (Ci D)]), (aV [(Ci A), (Ci B), (Ci C), (Ci D)]), (oV 0 v0), (oV 16 v'286), (aV [(Ci E), (Ci F), (Ci G), (Ci H)]), (aV [(Ci E), (Ci F), (Ci G), (Ci H)]), (uV [(Ao 17 v'288), (Ag [(Ci E), (Ci F), (Ci G), (Ci (stepN A B C D E F G H x0))]), (Ab (stepOk A B C D E F G H x0))]), (uV [(Ao 17 v'288), (Ag [(Ci E), (Ci F), (Ci G), (Ci (stepN A B C D E F G H x0))]), (Ab (stepOk A B C D E F G H x0))]), (oV 17 v'288), (aV [(Ci E), (Ci F), (Ci G), (Ci (stepN A B C D E F G H x0))]), (bV (stepOk A B C D E F G H x0)), (pV 14 b252 0), (pV 15 b285 0), (bV (stepOk A B C D E F G H x0))] [(Ho false rs0), (Hc b0 23 [(Ci A), (Ci B), (Ci C), (Ci D)]), (Hw b1 27 true 3 (Co 0 v0)), (Hc b2 29 [(Ci E), (Ci F), (Ci G), (Ci H)]), (Hw b5 33 true 3 (Co 7 v'9)), (Hc b6 34 [(Ci E), (Ci F), (Ci G), (Ci (stepN A B C D E F G H x0))]), (Ho true rs'8), (Ho true rs'10), (Ho true rs'23), (Hw b13 33 true 3 (Co 8 v'11)), (Hw b14 33 true 3 (Co 12 v'16)), (Hc b15 34 [(Ci E), (Ci F), (Ci G), (Ci (stepN A B C D E F G H x0))]), (Ho true rs'26), (Ho true rs'20), (Hw b252 33 true 3 (Co 17 v'288)), (Hc b285 34 [(Ci E), (Ci F), (Ci G), (Ci (stepN A B C D E F G H x0))]), (Ho true rs'287), (Ho true rs'289)]))))))))))))))))))))))) ∧
 (∀ b297 : Nat,
 (True ∧
 (True ∧
 (((isArray v0 x0 rs0) ∧
 (capAx x0)) ∧
 (∀ v'298 : Value,
 (∀ rs'299 : (List Row),
 ((isArray v'298 x0 rs'299) →
 (True ∧
 (True ∧
 (((isArray v'298 x0 rs'299) ∧
 (capAx x0)) ∧
 (∀ v'300 : Value,
 (∀ rs'301 : (List Row),
 ((isArray v'300 (stepA A B C D E F G H x0) rs'301) →
 (True ∧
 ((b252 = b252 ∧
 (wholeC true v'300 3)) ∧
 (True ∧
 (b297 = b297 ∧
 (True ∧
 (true = true ∧
 (∀ Q302 : ((List SV) →
 ((List Ch) →
 Prop)),
 ((∀ b303 : Nat,
 (∀ b304 : Nat,
 (b0 = b0 ∧
 (b1 = b1 ∧
 (((isArray v0 x0 rs0) ∧
 (capAx x0)) ∧
 (∀ v'305 : Value,
 (∀ rs'306 : (List Row),
 ((isArray v'305 x0 rs'306) →
 (b2 = b2 ∧
 (((isArray v'305 x0 rs'306) ∧
 (capAx x0)) ∧
 (∀ v'307 : Value,
 (∀ rs'308 : (List Row),
 ((isArray v'307 (stepA A B C D E F G H x0) rs'308) →
 ((b303 = b303 ∧
 (wholeC true v'307 3)) ∧
 (b304 = b304 ∧
 (Q302 [(aV [(Ci A), (Ci B), (Ci C), (Ci D)]), (aV [(Ci A), (Ci B), (Ci C), (Ci D)]), (oV 0 v0), (oV 16 v'305), (aV [(Ci E), (Ci F), (Ci G), (Ci H)]), (aV [(Ci E), (Ci F), (Ci G), (Ci H)]), (uV [(Ao 17 v'307), (Ag [(Ci E), (Ci F), (Ci G), (Ci (stepN A B C D E F G H x0))]), (Ab (stepOk A B C D E F G H x0))]), (uV [(Ao 17 v'307), (Ag [(Ci E), (Ci F), (Ci G), (Ci (stepN A B C D E F G H x0))]), (Ab (stepOk A B C D E F G H x0))]), (oV 17 v'307), (aV [(Ci E), (Ci F), (Ci G), (Ci (stepN A B C D E F G H x0))]), (bV (stepOk A B C D E F G H x0)), (pV 14 b303 0), (pV 15 b304 0), (bV (stepOk A B C D E F G H x0))] [(Ho false rs0), (Hc b0 23 [(Ci A), (Ci B), (Ci C), (Ci D)]), (Hw b1 27 true 3 (Co 0 v0)), (Hc b2 29 [(Ci E), (Ci F), (Ci G), (Ci H)]), (Hw b5 33 true 3 (Co 7 v'9)), (Hc b6 34 [(Ci E), (Ci F), (Ci G), (Ci (stepN A B C D E F G H x0))]), (Ho true rs'8), (Ho true rs'10), (Ho true rs'23), (Hw b13 33 true 3 (Co 8 v'11)), (Hw b14 33 true 3 (Co 12 v'16)), (Hc b15 34 [(Ci E), (Ci F), (Ci G), (Ci (stepN A B C D E F G H x0))]), (Ho true rs'26), (Ho true rs'20), (Hw b303 33 true 3 (Co 17 v'307)), (Hc b304 34 [(Ci E), (Ci F), (Ci G), (Ci (stepN A B C D E F G H x0))]), (Ho true rs'306), (Ho true rs'308)])))))))))))))))) →
 (Q302 [(aV [(Ci A), (Ci B), (Ci C), (Ci D)]), (aV [(Ci A), (Ci B), (Ci C), (Ci D)]), (oV 0 v0), (oV 16 v'298), (aV [(Ci E), (Ci F), (Ci G), (Ci H)]), (aV [(Ci E), (Ci F), (Ci G), (Ci H)]), (uV [(Ao 17 v'300), (Ag [(Ci E), (Ci F), (Ci G), (Ci (stepN A B C D E F G H x0))]), (Ab (stepOk A B C D E F G H x0))]), (uV [(Ao 17 v'300), (Ag [(Ci E), (Ci F), (Ci G), (Ci (stepN A B C D E F G H x0))]), (Ab (stepOk A B C D E F G H x0))]), (oV 17 v'300), (aV [(Ci E), (Ci F), (Ci G), (Ci (stepN A B C D E F G H x0))]), (bV (stepOk A B C D E F G H x0)), (pV 14 b252 0), (pV 15 b297 0), (bV (stepOk A B C D E F G H x0))] [(Ho false rs0), (Hc b0 23 [(Ci A), (Ci B), (Ci C), (Ci D)]), (Hw b1 27 true 3 (Co 0 v0)), (Hc b2 29 [(Ci E), (Ci F), (Ci G), (Ci H)]), (Hw b5 33 true 3 (Co 7 v'9)), (Hc b6 34 [(Ci E), (Ci F), (Ci G), (Ci (stepN A B C D E F G H x0))]), (Ho true rs'8), (Ho true rs'10), (Ho true rs'23), (Hw b13 33 true 3 (Co 8 v'11)), (Hw b14 33 true 3 (Co 12 v'16)), (Hc b15 34 [(Ci E), (Ci F), (Ci G), (Ci (stepN A B C D E F G H x0))]), (Ho true rs'26), (Ho true rs'20), (Hw b252 33 true 3 (Co 17 v'300)), (Hc b297 34 [(Ci E), (Ci F), (Ci G), (Ci (stepN A B C D E F G H x0))]), (Ho true rs'299), (Ho true rs'301)]))))))))))))))))))))))))) ∧
 (∀ b309 : Nat,
 (True ∧
 ((True ∧
 ((((isArray v0 x0 rs0) ∧
 (capAx x0)) ∧
 (∀ v'310 : Value,
 (∀ rs'311 : (List Row),
 ((isArray v'310 x0 rs'311) →
 (True ∧
 ((True ∧
 ((((isArray v'310 x0 rs'311) ∧
 (capAx x0)) ∧
 (∀ v'312 : Value,
 (∀ rs'313 : (List Row),
 ((isArray v'312 (stepA A B C D E F G H x0) rs'313) →
 (True ∧
 (∀ b314 : Nat,
 (True ∧
 ((b314 = b314 ∧
 (wholeC true v'312 3)) ∧
 (True ∧
 (b309 = b309 ∧
 (True ∧
 (true = true ∧
 (∀ Q315 : ((List SV) →
 ((List Ch) →
 Prop)),
 ((∀ b316 : Nat,
 (∀ b317 : Nat,
 (b0 = b0 ∧
 (b1 = b1 ∧
 (((isArray v0 x0 rs0) ∧
 (capAx x0)) ∧
 (∀ v'318 : Value,
 (∀ rs'319 : (List Row),
 ((isArray v'318 x0 rs'319) →
 (b2 = b2 ∧
 (((isArray v'318 x0 rs'319) ∧
 (capAx x0)) ∧
 (∀ v'320 : Value,
 (∀ rs'321 : (List Row),
 ((isArray v'320 (stepA A B C D E F G H x0) rs'321) →
 ((b316 = b316 ∧
 (wholeC true v'320 3)) ∧
 (b317 = b317 ∧
 (Q315 [(aV [(Ci A), (Ci B), (Ci C), (Ci D)]), (aV [(Ci A), (Ci B), (Ci C), (Ci D)]), (oV 0 v0), (oV 16 v'318), (aV [(Ci E), (Ci F), (Ci G), (Ci H)]), (aV [(Ci E), (Ci F), (Ci G), (Ci H)]), (uV [(Ao 17 v'320), (Ag [(Ci E), (Ci F), (Ci G), (Ci (stepN A B C D E F G H x0))]), (Ab (stepOk A B C D E F G H x0))]), (uV [(Ao 17 v'320), (Ag [(Ci E), (Ci F), (Ci G), (Ci (stepN A B C D E F G H x0))]), (Ab (stepOk A B C D E F G H x0))]), (oV 17 v'320), (aV [(Ci E), (Ci F), (Ci G), (Ci (stepN A B C D E F G H x0))]), (bV (stepOk A B C D E F G H x0)), (pV 14 b316 0), (pV 15 b317 0), (bV (stepOk A B C D E F G H x0))] [(Ho false rs0), (Hc b0 23 [(Ci A), (Ci B), (Ci C), (Ci D)]), (Hw b1 27 true 3 (Co 0 v0)), (Hc b2 29 [(Ci E), (Ci F), (Ci G), (Ci H)]), (Hw b5 33 true 3 (Co 7 v'9)), (Hc b6 34 [(Ci E), (Ci F), (Ci G), (Ci (stepN A B C D E F G H x0))]), (Ho true rs'8), (Ho true rs'10), (Ho true rs'23), (Hw b13 33 true 3 (Co 8 v'11)), (Hw b14 33 true 3 (Co 12 v'16)), (Hc b15 34 [(Ci E), (Ci F), (Ci G), (Ci (stepN A B C D E F G H x0))]), (Ho true rs'26), (Ho true rs'20), (Hw b316 33 true 3 (Co 17 v'320)), (Hc b317 34 [(Ci E), (Ci F), (Ci G), (Ci (stepN A B C D E F G H x0))]), (Ho true rs'319), (Ho true rs'321)])))))))))))))))) →
 (Q315 [(aV [(Ci A), (Ci B), (Ci C), (Ci D)]), (aV [(Ci A), (Ci B), (Ci C), (Ci D)]), (oV 0 v0), (oV 16 v'310), (aV [(Ci E), (Ci F), (Ci G), (Ci H)]), (aV [(Ci E), (Ci F), (Ci G), (Ci H)]), (uV [(Ao 17 v'312), (Ag [(Ci E), (Ci F), (Ci G), (Ci (stepN A B C D E F G H x0))]), (Ab (stepOk A B C D E F G H x0))]), (uV [(Ao 17 v'312), (Ag [(Ci E), (Ci F), (Ci G), (Ci (stepN A B C D E F G H x0))]), (Ab (stepOk A B C D E F G H x0))]), (oV 17 v'312), (aV [(Ci E), (Ci F), (Ci G), (Ci (stepN A B C D E F G H x0))]), (bV (stepOk A B C D E F G H x0)), (pV 14 b314 0), (pV 15 b309 0), (bV (stepOk A B C D E F G H x0))] [(Ho false rs0), (Hc b0 23 [(Ci A), (Ci B), (Ci C), (Ci D)]), (Hw b1 27 true 3 (Co 0 v0)), (Hc b2 29 [(Ci E), (Ci F), (Ci G), (Ci H)]), (Hw b5 33 true 3 (Co 7 v'9)), (Hc b6 34 [(Ci E), (Ci F), (Ci G), (Ci (stepN A B C D E F G H x0))]), (Ho true rs'8), (Ho true rs'10), (Ho true rs'23), (Hw b13 33 true 3 (Co 8 v'11)), (Hw b14 33 true 3 (Co 12 v'16)), (Hc b15 34 [(Ci E), (Ci F), (Ci G), (Ci (stepN A B C D E F G H x0))]), (Ho true rs'26), (Ho true rs'20), (Hw b314 33 true 3 (Co 17 v'312)), (Hc b309 34 [(Ci E), (Ci F), (Ci G), (Ci (stepN A B C D E F G H x0))]), (Ho true rs'311), (Ho true rs'313)]))))))))))))))) ∧
 (∀ b322 : Nat,
 (True ∧
 (((isArray v'310 x0 rs'311) ∧
 (capAx x0)) ∧
 (∀ v'323 : Value,
 (∀ rs'324 : (List Row),
 ((isArray v'323 (stepA A B C D E F G H x0) rs'324) →
 (True ∧
 ((b322 = b322 ∧
 (wholeC true v'323 3)) ∧
 (True ∧
 (b309 = b309 ∧
 (True ∧
 (true = true ∧
 (∀ Q325 : ((List SV) →
 ((List Ch) →
 Prop)),
 ((∀ b326 : Nat,
 (∀ b327 : Nat,
 (b0 = b0 ∧
 (b1 = b1 ∧
 (((isArray v0 x0 rs0) ∧
 (capAx x0)) ∧
 (∀ v'328 : Value,
 (∀ rs'329 : (List Row),
 ((isArray v'328 x0 rs'329) →
 (b2 = b2 ∧
 (((isArray v'328 x0 rs'329) ∧
 (capAx x0)) ∧
 (∀ v'330 : Value,
 (∀ rs'331 : (List Row),
 ((isArray v'330 (stepA A B C D E F G H x0) rs'331) →
 ((b326 = b326 ∧
 (wholeC true v'330 3)) ∧
 (b327 = b327 ∧
 (Q325 [(aV [(Ci A), (Ci B), (Ci C), (Ci D)]), (aV [(Ci A), (Ci B), (Ci C), (Ci D)]), (oV 0 v0), (oV 16 v'328), (aV [(Ci E), (Ci F), (Ci G), (Ci H)]), (aV [(Ci E), (Ci F), (Ci G), (Ci H)]), (uV [(Ao 17 v'330), (Ag [(Ci E), (Ci F), (Ci G), (Ci (stepN A B C D E F G H x0))]), (Ab (stepOk A B C D E F G H x0))]), (uV [(Ao 17 v'330), (Ag [(Ci E), (Ci F), (Ci G), (Ci (stepN A B C D E F G H x0))]), (Ab (stepOk A B C D E F G H x0))]), (oV 17 v'330), (aV [(Ci E), (Ci F), (Ci G), (Ci (stepN A B C D E F G H x0))]), (bV (stepOk A B C D E F G H x0)), (pV 14 b326 0), (pV 15 b327 0), (bV (stepOk A B C D E F G H x0))] [(Ho false rs0), (Hc b0 23 [(Ci A), (Ci B), (Ci C), (Ci D)]), (Hw b1 27 true 3 (Co 0 v0)), (Hc b2 29 [(Ci E), (Ci F), (Ci G), (Ci H)]), (Hw b5 33 true 3 (Co 7 v'9)), (Hc b6 34 [(Ci E), (Ci F), (Ci G), (Ci (stepN A B C D E F G H x0))]), (Ho true rs'8), (Ho true rs'10), (Ho true rs'23), (Hw b13 33 true 3 (Co 8 v'11)), (Hw b14 33 true 3 (Co 12 v'16)), (Hc b15 34 [(Ci E), (Ci F), (Ci G), (Ci (stepN A B C D E F G H x0))]), (Ho true rs'26), (Ho true rs'20), (Hw b326 33 true 3 (Co 17 v'330)), (Hc b327 34 [(Ci E), (Ci F), (Ci G), (Ci (stepN A B C D E F G H x0))]), (Ho true rs'329), (Ho true rs'331)])))))))))))))))) →
 (Q325 [(aV [(Ci A), (Ci B), (Ci C), (Ci D)]), (aV [(Ci A), (Ci B), (Ci C), (Ci D)]), (oV 0 v0), (oV 16 v'310), (aV [(Ci E), (Ci F), (Ci G), (Ci H)]), (aV [(Ci E), (Ci F), (Ci G), (Ci H)]), (uV [(Ao 17 v'323), (Ag [(Ci E), (Ci F), (Ci G), (Ci (stepN A B C D E F G H x0))]), (Ab (stepOk A B C D E F G H x0))]), (uV [(Ao 17 v'323), (Ag [(Ci E), (Ci F), (Ci G), (Ci (stepN A B C D E F G H x0))]), (Ab (stepOk A B C D E F G H x0))]), (oV 17 v'323), (aV [(Ci E), (Ci F), (Ci G), (Ci (stepN A B C D E F G H x0))]), (bV (stepOk A B C D E F G H x0)), (pV 14 b322 0), (pV 15 b309 0), (bV (stepOk A B C D E F G H x0))] [(Ho false rs0), (Hc b0 23 [(Ci A), (Ci B), (Ci C), (Ci D)]), (Hw b1 27 true 3 (Co 0 v0)), (Hc b2 29 [(Ci E), (Ci F), (Ci G), (Ci H)]), (Hw b5 33 true 3 (Co 7 v'9)), (Hc b6 34 [(Ci E), (Ci F), (Ci G), (Ci (stepN A B C D E F G H x0))]), (Ho true rs'8), (Ho true rs'10), (Ho true rs'23), (Hw b13 33 true 3 (Co 8 v'11)), (Hw b14 33 true 3 (Co 12 v'16)), (Hc b15 34 [(Ci E), (Ci F), (Ci G), (Ci (stepN A B C D E F G H x0))]), (Ho true rs'26), (Ho true rs'20), (Hw b322 33 true 3 (Co 17 v'323)), (Hc b309 34 [(Ci E), (Ci F), (Ci G), (Ci (stepN A B C D E F G H x0))]), (Ho true rs'311), (Ho true rs'324)]))))))))))))))))) ∧
 (∀ b332 : Nat,
 (True ∧
 (True ∧
 (((isArray v'310 x0 rs'311) ∧
 (capAx x0)) ∧
 (∀ v'333 : Value,
 (∀ rs'334 : (List Row),
 ((isArray v'333 (stepA A B C D E F G H x0) rs'334) →
 (True ∧
 ((b332 = b332 ∧
 (wholeC true v'333 3)) ∧
 (True ∧
 (b309 = b309 ∧
 (True ∧
 (true = true ∧
 (∀ Q335 : ((List SV) →
 ((List Ch) →
 Prop)),
 ((∀ b336 : Nat,
 (∀ b337 : Nat,
 (b0 = b0 ∧
 (b1 = b1 ∧
 (((isArray v0 x0 rs0) ∧
 (capAx x0)) ∧
 (∀ v'338 : Value,
 (∀ rs'339 : (List Row),
 ((isArray v'338 x0 rs'339) →
 (b2 = b2 ∧
 (((isArray v'338 x0 rs'339) ∧
 (capAx x0)) ∧
 (∀ v'340 : Value,
 (∀ rs'341 : (List Row),
 ((isArray v'340 (stepA A B C D E F G H x0) rs'341) →
 ((b336 = b336 ∧
 (wholeC true v'340 3)) ∧
 (b337 = b337 ∧
 (Q335 [(aV [(Ci A), (Ci B), (Ci C), (Ci D)]), (aV [(Ci A), (Ci B), (Ci C), (Ci D)]), (oV 0 v0), (oV 16 v'338), (aV [(Ci E), (Ci F), (Ci G), (Ci H)]), (aV [(Ci E), (Ci F), (Ci G), (Ci H)]), (uV [(Ao 17 v'340), (Ag [(Ci E), (Ci F), (Ci G), (Ci (stepN A B C D E F G H x0))]), (Ab (stepOk A B C D E F G H x0))]), (uV [(Ao 17 v'340), (Ag [(Ci E), (Ci F), (Ci G), (Ci (stepN A B C D E F G H x0))]), (Ab (stepOk A B C D E F G H x0))]), (oV 17 v'340), (aV [(Ci E), (Ci F), (Ci G), (Ci (stepN A B C D E F G H x0))]), (bV (stepOk A B C D E F G H x0)), (pV 14 b336 0), (pV 15 b337 0), (bV (stepOk A B C D E F G H x0))] [(Ho false rs0), (Hc b0 23 [(Ci A), (Ci B), (Ci C), (Ci D)]), (Hw b1 27 true 3 (Co 0 v0)), (Hc b2 29 [(Ci E), (Ci F), (Ci G), (Ci H)]), (Hw b5 33 true 3 (Co 7 v'9)), (Hc b6 34 [(Ci E), (Ci F), (Ci G), (Ci (stepN A B C D E F G H x0))]), (Ho true rs'8), (Ho true rs'10), (Ho true rs'23), (Hw b13 33 true 3 (Co 8 v'11)), (Hw b14 33 true 3 (Co 12 v'16)), (Hc b15 34 [(Ci E), (Ci F), (Ci G), (Ci (stepN A B C D E F G H x0))]), (Ho true rs'26), (Ho true rs'20), (Hw b336 33 true 3 (Co 17 v'340)), (Hc b337 34 [(Ci E), (Ci F), (Ci G), (Ci (stepN A B C D E F G H x0))]), (Ho true rs'339), (Ho true rs'341)])))))))))))))))) →
 (Q335 [(aV [(Ci A), (Ci B), (Ci C), (Ci D)]), (aV [(Ci A), (Ci B), (Ci C), (Ci D)]), (oV 0 v0), (oV 16 v'310), (aV [(Ci E), (Ci F), (Ci G), (Ci H)]), (aV [(Ci E), (Ci F), (Ci G), (Ci H)]), (uV [(Ao 17 v'333), (Ag [(Ci E), (Ci F), (Ci G), (Ci (stepN A B C D E F G H x0))]), (Ab (stepOk A B C D E F G H x0))]), (uV [(Ao 17 v'333), (Ag [(Ci E), (Ci F), (Ci G), (Ci (stepN A B C D E F G H x0))]), (Ab (stepOk A B C D E F G H x0))]), (oV 17 v'333), (aV [(Ci E), (Ci F), (Ci G), (Ci (stepN A B C D E F G H x0))]), (bV (stepOk A B C D E F G H x0)), (pV 14 b332 0), (pV 15 b309 0), (bV (stepOk A B C D E F G H x0))] [(Ho false rs0), (Hc b0 23 [(Ci A), (Ci B), (Ci C), (Ci D)]), (Hw b1 27 true 3 (Co 0 v0)), (Hc b2 29 [(Ci E), (Ci F), (Ci G), (Ci H)]), (Hw b5 33 true 3 (Co 7 v'9)), (Hc b6 34 [(Ci E), (Ci F), (Ci G), (Ci (stepN A B C D E F G H x0))]), (Ho true rs'8), (Ho true rs'10), (Ho true rs'23), (Hw b13 33 true 3 (Co 8 v'11)), (Hw b14 33 true 3 (Co 12 v'16)), (Hc b15 34 [(Ci E), (Ci F), (Ci G), (Ci (stepN A B C D E F G H x0))]), (Ho true rs'26), (Ho true rs'20), (Hw b332 33 true 3 (Co 17 v'333)), (Hc b309 34 [(Ci E), (Ci F), (Ci G), (Ci (stepN A B C D E F G H x0))]), (Ho true rs'311), (Ho true rs'334)])))))))))))))))))))))) ∧
 (∀ b342 : Nat,
 (True ∧
 (((isArray v0 x0 rs0) ∧
 (capAx x0)) ∧
 (∀ v'343 : Value,
 (∀ rs'344 : (List Row),
 ((isArray v'343 x0 rs'344) →
 (True ∧
 (True ∧
 (((isArray v'343 x0 rs'344) ∧
 (capAx x0)) ∧
 (∀ v'345 : Value,
 (∀ rs'346 : (List Row),
 ((isArray v'345 (stepA A B C D E F G H x0) rs'346) →
 (True ∧
 ((b342 = b342 ∧
 (wholeC true v'345 3)) ∧
 (True ∧
 (b309 = b309 ∧
 (True ∧
 (true = true ∧
 (∀ Q347 : ((List SV) →
 ((List Ch) →
 Prop)),
 ((∀ b348 : Nat,
 (∀ b349 : Nat,
 (b0 = b0 ∧
 (b1 = b1 ∧
 (((isArray v0 x0 rs0) ∧
 (capAx x0)) ∧
 (∀ v'350 : Value,
 (∀ rs'351 : (List Row),
 ((isArray v'350 x0 rs'351) →
 (b2 = b2 ∧
 (((isArray v'350 x0 rs'351) ∧
 (capAx x0)) ∧
 (∀ v'352 : Value,
 (∀ rs'353 : (List Row),
 ((isArray v'352 (stepA A B C D E F G H x0) rs'353) →
 ((b348 = b348 ∧
 (wholeC true v'352 3)) ∧
 (b349 = b349 ∧
 (Q347 [(aV [(Ci A), (Ci B), (Ci C), (Ci D)]), (aV [(Ci A), (Ci B), (Ci C), (Ci D)]), (oV 0 v0), (oV 16 v'350), (aV [(Ci E), (Ci F), (Ci G), (Ci H)]), (aV [(Ci E), (Ci F), (Ci G), (Ci H)]), (uV [(Ao 17 v'352), (Ag [(Ci E), (Ci F), (Ci G), (Ci (stepN A B C D E F G H x0))]), (Ab (stepOk A B C D E F G H x0))]), (uV [(Ao 17 v'352), (Ag [(Ci E), (Ci F), (Ci G), (Ci (stepN A B C D E F G H x0))]), (Ab (stepOk A B C D E F G H x0))]), (oV 17 v'352), (aV [(Ci E), (Ci F), (Ci G), (Ci (stepN A B C D E F G H x0))]), (bV (stepOk A B C D E F G H x0)), (pV 14 b348 0), (pV 15 b349 0), (bV (stepOk A B C D E F G H x0))] [(Ho false rs0), (Hc b0 23 [(Ci A), (Ci B), (Ci C), (Ci D)]), (Hw b1 27 true 3 (Co 0 v0)), (Hc b2 29 [(Ci E), (Ci F), (Ci G), (Ci H)]), (Hw b5 33 true 3 (Co 7 v'9)), (Hc b6 34 [(Ci E), (Ci F), (Ci G), (Ci (stepN A B C D E F G H x0))]), (Ho true rs'8), (Ho true rs'10), (Ho true rs'23), (Hw b13 33 true 3 (Co 8 v'11)), (Hw b14 33 true 3 (Co 12 v'16)), (Hc b15 34 [(Ci E), (Ci F), (Ci G), (Ci (stepN A B C D E F G H x0))]), (Ho true rs'26), (Ho true rs'20), (Hw b348 33 true 3 (Co 17 v'352)), (Hc b349 34 [(Ci E), (Ci F), (Ci G), (Ci (stepN A B C D E F G H x0))]), (Ho true rs'351), (Ho true rs'353)])))))))))))))))) →
 (Q347 [(aV [(Ci A), (Ci B), (Ci C), (Ci D)]), (aV [(Ci A), (Ci B), (Ci C), (Ci D)]), (oV 0 v0), (oV 16 v'343), (aV [(Ci E), (Ci F), (Ci G), (Ci H)]), (aV [(Ci E), (Ci F), (Ci G), (Ci H)]), (uV [(Ao 17 v'345), (Ag [(Ci E), (Ci F), (Ci G), (Ci (stepN A B C D E F G H x0))]), (Ab (stepOk A B C D E F G H x0))]), (uV [(Ao 17 v'345), (Ag [(Ci E), (Ci F), (Ci G), (Ci (stepN A B C D E F G H x0))]), (Ab (stepOk A B C D E F G H x0))]), (oV 17 v'345), (aV [(Ci E), (Ci F), (Ci G), (Ci (stepN A B C D E F G H x0))]), (bV (stepOk A B C D E F G H x0)), (pV 14 b342 0), (pV 15 b309 0), (bV (stepOk A B C D E F G H x0))] [(Ho false rs0), (Hc b0 23 [(Ci A), (Ci B), (Ci C), (Ci D)]), (Hw b1 27 true 3 (Co 0 v0)), (Hc b2 29 [(Ci E), (Ci F), (Ci G), (Ci H)]), (Hw b5 33 true 3 (Co 7 v'9)), (Hc b6 34 [(Ci E), (Ci F), (Ci G), (Ci (stepN A B C D E F G H x0))]), (Ho true rs'8), (Ho true rs'10), (Ho true rs'23), (Hw b13 33 true 3 (Co 8 v'11)), (Hw b14 33 true 3 (Co 12 v'16)), (Hc b15 34 [(Ci E), (Ci F), (Ci G), (Ci (stepN A B C D E F G H x0))]), (Ho true rs'26), (Ho true rs'20), (Hw b342 33 true 3 (Co 17 v'345)), (Hc b309 34 [(Ci E), (Ci F), (Ci G), (Ci (stepN A B C D E F G H x0))]), (Ho true rs'344), (Ho true rs'346)]))))))))))))))))))))))) ∧
 (∀ b354 : Nat,
 (True ∧
 (True ∧
 (((isArray v0 x0 rs0) ∧
 (capAx x0)) ∧
 (∀ v'355 : Value,
 (∀ rs'356 : (List Row),
 ((isArray v'355 x0 rs'356) →
 (True ∧
 (True ∧
 (((isArray v'355 x0 rs'356) ∧
 (capAx x0)) ∧
 (∀ v'357 : Value,
 (∀ rs'358 : (List Row),
 ((isArray v'357 (stepA A B C D E F G H x0) rs'358) →
 (True ∧
 ((b354 = b354 ∧
 (wholeC true v'357 3)) ∧
 (True ∧
 (b309 = b309 ∧
 (True ∧
 (true = true ∧
 (∀ Q359 : ((List SV) →
 ((List Ch) →
 Prop)),
 ((∀ b360 : Nat,
 (∀ b361 : Nat,
 (b0 = b0 ∧
 (b1 = b1 ∧
 (((isArray v0 x0 rs0) ∧
 (capAx x0)) ∧
 (∀ v'362 : Value,
 (∀ rs'363 : (List Row),
 ((isArray v'362 x0 rs'363) →
 (b2 = b2 ∧
 (((isArray v'362 x0 rs'363) ∧
 (capAx x0)) ∧
 (∀ v'364 : Value,
 (∀ rs'365 : (List Row),
 ((isArray v'364 (stepA A B C D E F G H x0) rs'365) →
 ((b360 = b360 ∧
 (wholeC true v'364 3)) ∧
 (b361 = b361 ∧
 (Q359 [(aV [(Ci A), (Ci B), (Ci C), (Ci D)]), (aV [(Ci A), (Ci B), (Ci C), (Ci D)]), (oV 0 v0), (oV 16 v'362), (aV [(Ci E), (Ci F), (Ci G), (Ci H)]), (aV [(Ci E), (Ci F), (Ci G), (Ci H)]), (uV [(Ao 17 v'364), (Ag [(Ci E), (Ci F), (Ci G), (Ci (stepN A B C D E F G H x0))]), (Ab (stepOk A B C D E F G H x0))]), (uV [(Ao 17 v'364), (Ag [(Ci E), (Ci F), (Ci G), (Ci (stepN A B C D E F G H x0))]), (Ab (stepOk A B C D E F G H x0))]), (oV 17 v'364), (aV [(Ci E), (Ci F), (Ci G), (Ci (stepN A B C D E F G H x0))]), (bV (stepOk A B C D E F G H x0)), (pV 14 b360 0), (pV 15 b361 0), (bV (stepOk A B C D E F G H x0))] [(Ho false rs0), (Hc b0 23 [(Ci A), (Ci B), (Ci C), (Ci D)]), (Hw b1 27 true 3 (Co 0 v0)), (Hc b2 29 [(Ci E), (Ci F), (Ci G), (Ci H)]), (Hw b5 33 true 3 (Co 7 v'9)), (Hc b6 34 [(Ci E), (Ci F), (Ci G), (Ci (stepN A B C D E F G H x0))]), (Ho true rs'8), (Ho true rs'10), (Ho true rs'23), (Hw b13 33 true 3 (Co 8 v'11)), (Hw b14 33 true 3 (Co 12 v'16)), (Hc b15 34 [(Ci E), (Ci F), (Ci G), (Ci (stepN A B C D E F G H x0))]), (Ho true rs'26), (Ho true rs'20), (Hw b360 33 true 3 (Co 17 v'364)), (Hc b361 34 [(Ci E), (Ci F), (Ci G), (Ci (stepN A B C D E F G H x0))]), (Ho true rs'363), (Ho true rs'365)])))))))))))))))) →
 (Q359 [(aV [(Ci A), (Ci B), (Ci C), (Ci D)]), (aV [(Ci A), (Ci B), (Ci C), (Ci D)]), (oV 0 v0), (oV 16 v'355), (aV [(Ci E), (Ci F), (Ci G), (Ci H)]), (aV [(Ci E), (Ci F), (Ci G), (Ci H)]), (uV [(Ao 17 v'357), (Ag [(Ci E), (Ci F), (Ci G), (Ci (stepN A B C D E F G H x0))]), (Ab (stepOk A B C D E F G H x0))]), (uV [(Ao 17 v'357), (Ag [(Ci E), (Ci F), (Ci G), (Ci (stepN A B C D E F G H x0))]), (Ab (stepOk A B C D E F G H x0))]), (oV 17 v'357), (aV [(Ci E), (Ci F), (Ci G), (Ci (stepN A B C D E F G H x0))]), (bV (stepOk A B C D E F G H x0)), (pV 14 b354 0), (pV 15 b309 0), (bV (stepOk A B C D E F G H x0))] [(Ho false rs0), (Hc b0 23 [(Ci A), (Ci B), (Ci C), (Ci D)]), (Hw b1 27 true 3 (Co 0 v0)), (Hc b2 29 [(Ci E), (Ci F), (Ci G), (Ci H)]), (Hw b5 33 true 3 (Co 7 v'9)), (Hc b6 34 [(Ci E), (Ci F), (Ci G), (Ci (stepN A B C D E F G H x0))]), (Ho true rs'8), (Ho true rs'10), (Ho true rs'23), (Hw b13 33 true 3 (Co 8 v'11)), (Hw b14 33 true 3 (Co 12 v'16)), (Hc b15 34 [(Ci E), (Ci F), (Ci G), (Ci (stepN A B C D E F G H x0))]), (Ho true rs'26), (Ho true rs'20), (Hw b354 33 true 3 (Co 17 v'357)), (Hc b309 34 [(Ci E), (Ci F), (Ci G), (Ci (stepN A B C D E F G H x0))]), (Ho true rs'356), (Ho true rs'358)]))))))))))))))))))))))))))))))))))))))))))))))) ∧
 ((!(eqMvB E F G (stepN A B C D E F G H x0) E F G (stepN A B C D E F G H x0))) = true →
 (Wb false) = (Wb true)))))))))) ∧
 ((decide ((endArray (1 : Int) x22) < (0 : Int))) = true →
 (Wb false) = (Wb true)))))))))))))))))))))) ∧
 ((!(eqMvB E F G (stepN A B C D E F G H x0) E F G (stepN A B C D E F G H x0))) = true →
 (Wb false) = (Wb true)))))))))))))))))))) ∧
 (b0 = b0 ∧
 (b13 = b13 ∧
 (b2 = b2 ∧
 ((True ∧
 ((True ∧
 ((((isArray v'11 x0 rs'12) ∧
 (capAx x0)) ∧
 (∀ v'366 : Value,
 (∀ rs'367 : (List Row),
 ((isArray v'366 (stepA A B C D E F G H x0) rs'367) →
 (True ∧
 ((∀ b368 : Nat,
 (True ∧
 (∀ b369 : Nat,
 (True ∧
 ((b368 = b368 ∧
 (wholeC true v'366 3)) ∧
 (True ∧
 (b369 = b369 ∧
 (True ∧
 (true = true ∧
 (∀ Q370 : ((List SV) →
 ((List Ch) →
 Prop)),
 ((∀ b371 : Nat,
 (∀ b372 : Nat,
 (b0 = b0 ∧
 (b13 = b13 ∧
 (b2 = b2 ∧
 (((isArray v'11 x0 rs'12) ∧
 (capAx x0)) ∧
 (∀ v'373 : Value,
 (∀ rs'374 : (List Row),
 ((isArray v'373 (stepA A B C D E F G H x0) rs'374) →
 ((b371 = b371 ∧
 (wholeC true v'373 3)) ∧
 (b372 = b372 ∧
 (Q370 [(aV [(Ci A), (Ci B), (Ci C), (Ci D)]), (aV [(Ci A), (Ci B), (Ci C), (Ci D)]), (oV 8 v'11), (aV [(Ci E), (Ci F), (Ci G), (Ci H)]), (aV [(Ci E), (Ci F), (Ci G), (Ci H)]), (uV [(Ao 12 v'373), (Ag [(Ci E), (Ci F), (Ci G), (Ci (stepN A B C D E F G H x0))]), (Ab (stepOk A B C D E F G H x0))]), (uV [(Ao 12 v'373), (Ag [(Ci E), (Ci F), (Ci G), (Ci (stepN A B C D E F G H x0))]), (Ab (stepOk A B C D E F G H x0))]), (oV 12 v'373), (aV [(Ci E), (Ci F), (Ci G), (Ci (stepN A B C D E F G H x0))]), (bV (stepOk A B C D E F G H x0)), (pV 10 b371 0), (pV 11 b372 0), (bV (stepOk A B C D E F G H x0))] [(Ho false rs0), (Hc b0 23 [(Ci A), (Ci B), (Ci C), (Ci D)]), (Hw b1 27 true 3 (Co 0 v0)), (Hc b2 29 [(Ci E), (Ci F), (Ci G), (Ci H)]), (Hw b5 33 true 3 (Co 7 v'9)), (Hc b6 34 [(Ci E), (Ci F), (Ci G), (Ci (stepN A B C D E F G H x0))]), (Ho true rs'8), (Ho true rs'10), (Ho true rs'12), (Hw b13 33 true 3 (Co 8 v'11)), (Hw b371 33 true 3 (Co 12 v'373)), (Hc b372 34 [(Ci E), (Ci F), (Ci G), (Ci (stepN A B C D E F G H x0))]), (Ho true rs'374)])))))))))))) →
 (Q370 [(aV [(Ci A), (Ci B), (Ci C), (Ci D)]), (aV [(Ci A), (Ci B), (Ci C), (Ci D)]), (oV 8 v'11), (aV [(Ci E), (Ci F), (Ci G), (Ci H)]), (aV [(Ci E), (Ci F), (Ci G), (Ci H)]), (uV [(Ao 12 v'366), (Ag [(Ci E), (Ci F), (Ci G), (Ci (stepN A B C D E F G H x0))]), (Ab (stepOk A B C D E F G H x0))]), (uV [(Ao 12 v'366), (Ag [(Ci E), (Ci F), (Ci G), (Ci (stepN A B C D E F G H x0))]), (Ab (stepOk A B C D E F G H x0))]), (oV 12 v'366), (aV [(Ci E), (Ci F), (Ci G), (Ci (stepN A B C D E F G H x0))]), (bV (stepOk A B C D E F G H x0)), (pV 10 b368 0), (pV 11 b369 0), (bV (stepOk A B C D E F G H x0))] [(Ho false rs0), (Hc b0 23 [(Ci A), (Ci B), (Ci C), (Ci D)]), (Hw b1 27 true 3 (Co 0 v0)), (Hc b2 29 [(Ci E), (Ci F), (Ci G), (Ci H)]), (Hw b5 33 true 3 (Co 7 v'9)), (Hc b6 34 [(Ci E), (Ci F), (Ci G), (Ci (stepN A B C D E F G H x0))]), (Ho true rs'8), (Ho true rs'10), (Ho true rs'12), (Hw b13 33 true 3 (Co 8 v'11)), (Hw b368 33 true 3 (Co 12 v'366)), (Hc b369 34 [(Ci E), (Ci F), (Ci G), (Ci (stepN A B C D E F G H x0))]), (Ho true rs'367)])))))))))))) ∧
 (∀ b375 : Nat,
 (True ∧
 (∀ b376 : Nat,
 (True ∧
 ((b376 = b376 ∧
 (wholeC true v'366 3)) ∧
 (True ∧
 (b375 = b375 ∧
 (True ∧
 (true = true ∧
 (∀ Q377 : ((List SV) →
 ((List Ch) →
 Prop)),
 ((∀ b378 : Nat,
 (∀ b379 : Nat,
 (b0 = b0 ∧
 (b13 = b13 ∧
 (b2 = b2 ∧
 (((isArray v'11 x0 rs'12) ∧
 (capAx x0)) ∧
 (∀ v'380 : Value,
 (∀ rs'381 : (List Row),
 ((isArray v'380 (stepA A B C D E F G H x0) rs'381) →
 ((b378 = b378 ∧
 (wholeC true v'380 3)) ∧
 (b379 = b379 ∧
 (Q377 [(aV [(Ci A), (Ci B), (Ci C), (Ci D)]), (aV [(Ci A), (Ci B), (Ci C), (Ci D)]), (oV 8 v'11), (aV [(Ci E), (Ci F), (Ci G), (Ci H)]), (aV [(Ci E), (Ci F), (Ci G), (Ci H)]), (uV [(Ao 12 v'380), (Ag [(Ci E), (Ci F), (Ci G), (Ci (stepN A B C D E F G H x0))]), (Ab (stepOk A B C D E F G H x0))]), (uV [(Ao 12 v'380), (Ag [(Ci E), (Ci F), (Ci G), (Ci (stepN A B C D E F G H x0))]), (Ab (stepOk A B C D E F G H x0))]), (oV 12 v'380), (aV [(Ci E), (Ci F), (Ci G), (Ci (stepN A B C D E F G H x0))]), (bV (stepOk A B C D E F G H x0)), (pV 10 b378 0), (pV 11 b379 0), (bV (stepOk A B C D E F G H x0))] [(Ho false rs0), (Hc b0 23 [(Ci A), (Ci B), (Ci C), (Ci D)]), (Hw b1 27 true 3 (Co 0 v0)), (Hc b2 29 [(Ci E), (Ci F), (Ci G), (Ci H)]), (Hw b5 33 true 3 (Co 7 v'9)), (Hc b6 34 [(Ci E), (Ci F), (Ci G), (Ci (stepN A B C D E F G H x0))]), (Ho true rs'8), (Ho true rs'10), (Ho true rs'12), (Hw b13 33 true 3 (Co 8 v'11)), (Hw b378 33 true 3 (Co 12 v'380)), (Hc b379 34 [(Ci E), (Ci F), (Ci G), (Ci (stepN A B C D E F G H x0))]), (Ho true rs'381)])))))))))))) →
 (Q377 [(aV [(Ci A), (Ci B), (Ci C), (Ci D)]), (aV [(Ci A), (Ci B), (Ci C), (Ci D)]), (oV 8 v'11), (aV [(Ci E), (Ci F), (Ci G), (Ci H)]), (aV [(Ci E), (Ci F), (Ci G), (Ci H)]), (uV [(Ao 12 v'366), (Ag [(Ci E), (Ci F), (Ci G), (Ci (stepN A B C D E F G H x0))]), (Ab (stepOk A B C D E F G H x0))]), (uV [(Ao 12 v'366), (Ag [(Ci E), (Ci F), (Ci G), (Ci (stepN A B C D E F G H x0))]), (Ab (stepOk A B C D E F G H x0))]), (oV 12 v'366), (aV [(Ci E), (Ci F), (Ci G), (Ci (stepN A B C D E F G H x0))]), (bV (stepOk A B C D E F G H x0)), (pV 10 b376 0), (pV 11 b375 0), (bV (stepOk A B C D E F G H x0))] [(Ho false rs0), (Hc b0 23 [(Ci A), (Ci B), (Ci C), (Ci D)]), (Hw b1 27 true 3 (Co 0 v0)), (Hc b2 29 [(Ci E), (Ci F), (Ci G), (Ci H)]), (Hw b5 33 true 3 (Co 7 v'9)), (Hc b6 34 [(Ci E), (Ci F), (Ci G), (Ci (stepN A B C D E F G H x0))]), (Ho true rs'8), (Ho true rs'10), (Ho true rs'12), (Hw b13 33 true 3 (Co 8 v'11)), (Hw b376 33 true 3 (Co 12 v'366)), (Hc b375 34 [(Ci E), (Ci F), (Ci G), (Ci (stepN A B C D E F G H x0))]), (Ho true rs'367)])))))))))))))))))) ∧
 ((∀ b382 : Nat,
 (True ∧
 ((((isArray v'11 x0 rs'12) ∧
 (capAx x0)) ∧
 (∀ v'383 : Value,
 (∀ rs'384 : (List Row),
 ((isArray v'383 (stepA A B C D E F G H x0) rs'384) →
 (True ∧
 (∀ b385 : Nat,
 (True ∧
 ((b382 = b382 ∧
 (wholeC true v'383 3)) ∧
 (True ∧
 (b385 = b385 ∧
 (True ∧
 (true = true ∧
 (∀ Q386 : ((List SV) →
 ((List Ch) →
 Prop)),
 ((∀ b387 : Nat,
 (∀ b388 : Nat,
 (b0 = b0 ∧
 (b13 = b13 ∧
 (b2 = b2 ∧
 (((isArray v'11 x0 rs'12) ∧
 (capAx x0)) ∧
 (∀ v'389 : Value,
 (∀ rs'390 : (List Row),
 ((isArray v'389 (stepA A B C D E F G H x0) rs'390) →
 ((b387 = b387 ∧
 (wholeC true v'389 3)) ∧
 (b388 = b388 ∧
 (Q386 [(aV [(Ci A), (Ci B), (Ci C), (Ci D)]), (aV [(Ci A), (Ci B), (Ci C), (Ci D)]), (oV 8 v'11), (aV [(Ci E), (Ci F), (Ci G), (Ci H)]), (aV [(Ci E), (Ci F), (Ci G), (Ci H)]), (uV [(Ao 12 v'389), (Ag [(Ci E), (Ci F), (Ci G), (Ci (stepN A B C D E F G H x0))]), (Ab (stepOk A B C D E F G H x0))]), (uV [(Ao 12 v'389), (Ag [(Ci E), (Ci F), (Ci G), (Ci (stepN A B C D E F G H x0))]), (Ab (stepOk A B C D E F G H x0))]), (oV 12 v'389), (aV [(Ci E), (Ci F), (Ci G), (Ci (stepN A B C D E F G H x0))]), (bV (stepOk A B C D E F G H x0)), (pV 10 b387 0), (pV 11 b388 0), (bV (stepOk A B C D E F G H x0))] [(Ho false rs0), (Hc b0 23 [(Ci A), (Ci B), (Ci C), (Ci D)]), (Hw b1 27 true 3 (Co 0 v0)), (Hc b2 29 [(Ci E), (Ci F), (Ci G), (Ci H)]), (Hw b5 33 true 3 (Co 7 v'9)), (Hc b6 34 [(Ci E), (Ci F), (Ci G), (Ci (stepN A B C D E F G H x0))]), (Ho true rs'8), (Ho true rs'10), (Ho true rs'12), (Hw b13 33 true 3 (Co 8 v'11)), (Hw b387 33 true 3 (Co 12 v'389)), (Hc b388 34 [(Ci E), (Ci F), (Ci G), (Ci (stepN A B C D E F G H x0))]), (Ho true rs'390)])))))))))))) →
 (Q386 [(aV [(Ci A), (Ci B), (Ci C), (Ci D)]), (aV [(Ci A), (Ci B), (Ci C), (Ci D)]), (oV 8 v'11), (aV [(Ci E), (Ci F), (Ci G), (Ci H)]), (aV [(Ci E), (Ci F), (Ci G), (Ci H)]), (uV [(Ao 12 v'383), (Ag [(Ci E), (Ci F), (Ci G), (Ci (stepN A B C D E F G H x0))]), (Ab (stepOk A B C D E F G H x0))]), (uV [(Ao 12 v'383), (Ag [(Ci E), (Ci F), (Ci G), (Ci (stepN A B C D E F G H x0))]), (Ab (stepOk A B C D E F G H x0))]), (oV 12 v'383), (aV [(Ci E), (Ci F), (Ci G), (Ci (stepN A B C D E F G H x0))]), (bV (stepOk A B C D E F G H x0)), (pV 10 b382 0), (pV 11 b385 0), (bV (stepOk A B C D E F G H x0))] [(Ho false rs0), (Hc b0 23 [(Ci A), (Ci B), (Ci C), (Ci D)]), (Hw b1 27 true 3 (Co 0 v0)), (Hc b2 29 [(Ci E), (Ci F), (Ci G), (Ci H)]), (Hw b5 33 true 3 (Co 7 v'9)), (Hc b6 34 [(Ci E), (Ci F), (Ci G), (Ci (stepN A B C D E F G H x0))]), (Ho true rs'8), (Ho true rs'10), (Ho true rs'12), (Hw b13 33 true 3 (Co 8 v'11)), (Hw b382 33 true 3 (Co 12 v'383)), (Hc b385 34 [(Ci E), (Ci F), (Ci G), (Ci (stepN A B C D E F G H x0))]), (Ho true rs'384)]))))))))))))))) ∧
 (∀ b391 : Nat,
 (True ∧
 (((isArray v'11 x0 rs'12) ∧
 (capAx x0)) ∧
 (∀ v'392 : Value,
 (∀ rs'393 : (List Row),
 ((isArray v'392 (stepA A B C D E F G H x0) rs'393) →
 (True ∧
 ((b382 = b382 ∧
 (wholeC true v'392 3)) ∧
 (True ∧
 (b391 = b391 ∧
 (True ∧
 (true = true ∧
 (∀ Q394 : ((List SV) →
 ((List Ch) →
 Prop)),
 ((∀ b395 : Nat,
 (∀ b396 : Nat,
 (b0 = b0 ∧
 (b13 = b13 ∧
 (b2 = b2 ∧
 (((isArray v'11 x0 rs'12) ∧
 (capAx x0)) ∧
 (∀ v'397 : Value,
 (∀ rs'398 : (List Row),
 ((isArray v'397 (stepA A B C D E F G H x0) rs'398) →
 ((b395 = b395 ∧
 (wholeC true v'397 3)) ∧
 (b396 = b396 ∧
 (Q394 [(aV [(Ci A), (Ci B), (Ci C), (Ci D)]), (aV [(Ci A), (Ci B), (Ci C), (Ci D)]), (oV 8 v'11), (aV [(Ci E), (Ci F), (Ci G), (Ci H)]), (aV [(Ci E), (Ci F), (Ci G), (Ci H)]), (uV [(Ao 12 v'397), (Ag [(Ci E), (Ci F), (Ci G), (Ci (stepN A B C D E F G H x0))]), (Ab (stepOk A B C D E F G H x0))]), (uV [(Ao 12 v'397), (Ag [(Ci E), (Ci F), (Ci G), (Ci (stepN A B C D E F G H x0))]), (Ab (stepOk A B C D E F G H x0))]), (oV 12 v'397), (aV [(Ci E), (Ci F), (Ci G), (Ci (stepN A B C D E F G H x0))]), (bV (stepOk A B C D E F G H x0)), (pV 10 b395 0), (pV 11 b396 0), (bV (stepOk A B C D E F G H x0))] [(Ho false rs0), (Hc b0 23 [(Ci A), (Ci B), (Ci C), (Ci D)]), (Hw b1 27 true 3 (Co 0 v0)), (Hc b2 29 [(Ci E), (Ci F), (Ci G), (Ci H)]), (Hw b5 33 true 3 (Co 7 v'9)), (Hc b6 34 [(Ci E), (Ci F), (Ci G), (Ci (stepN A B C D E F G H x0))]), (Ho true rs'8), (Ho true rs'10), (Ho true rs'12), (Hw b13 33 true 3 (Co 8 v'11)), (Hw b395 33 true 3 (Co 12 v'397)), (Hc b396 34 [(Ci E), (Ci F), (Ci G), (Ci (stepN A B C D E F G H x0))]), (Ho true rs'398)])))))))))))) →
 (Q394 [(aV [(Ci A), (Ci B), (Ci C), (Ci D)]), (aV [(Ci A), (Ci B), (Ci C), (Ci D)]), (oV 8 v'11), (aV [(Ci E), (Ci F), (Ci G), (Ci H)]), (aV [(Ci E), (Ci F), (Ci G), (Ci H)]), (uV [(Ao 12 v'392), (Ag [(Ci E), (Ci F), (Ci G), (Ci (stepN A B C D E F G H x0))]), (Ab (stepOk A B C D E F G H x0))]), (uV [(Ao 12 v'392), (Ag [(Ci E), (Ci F), (Ci G), (Ci (stepN A B C D E F G H x0))]), (Ab (stepOk A B C D E F G H x0))]), (oV 12 v'392), (aV [(Ci E), (Ci F), (Ci G), (Ci (stepN A B C D E F G H x0))]), (bV (stepOk A B C D E F G H x0)), (pV 10 b382 0), (pV 11 b391 0), (bV (stepOk A B C D E F G H x0))] [(Ho false rs0), (Hc b0 23 [(Ci A), (Ci B), (Ci C), (Ci D)]), (Hw b1 27 true 3 (Co 0 v0)), (Hc b2 29 [(Ci E), (Ci F), (Ci G), (Ci H)]), (Hw b5 33 true 3 (Co 7 v'9)), (Hc b6 34 [(Ci E), (Ci F), (Ci G), (Ci (stepN A B C D E F G H x0))]), (Ho true rs'8), (Ho true rs'10), (Ho true rs'12), (Hw b13 33 true 3 (Co 8 v'11)), (Hw b382 33 true 3 (Co 12 v'392)), (Hc b391 34 [(Ci E), (Ci F), (Ci G), (Ci (stepN A B C D E F G H x0))]), (Ho true rs'393)])))))))))))))))))) ∧
 (∀ b399 : Nat,
 (True ∧
 ((((isArray v'11 x0 rs'12) ∧
 (capAx x0)) ∧
 (∀ v'400 : Value,
 (∀ rs'401 : (List Row),
 ((isArray v'400 (stepA A B C D E F G H x0) rs'401) →
 (True ∧
 (∀ b402 : Nat,
 (True ∧
 ((b402 = b402 ∧
 (wholeC true v'400 3)) ∧
 (True ∧
 (b399 = b399 ∧
 (True ∧
 (true = true ∧
 (∀ Q403 : ((List SV) →
 ((List Ch) →
 Prop)),
 ((∀ b404 : Nat,
 (∀ b405 : Nat,
 (b0 = b0 ∧
 (b13 = b13 ∧
 (b2 = b2 ∧
 (((isArray v'11 x0 rs'12) ∧
 (capAx x0)) ∧
 (∀ v'406 : Value,
 (∀ rs'407 : (List Row),
 ((isArray v'406 (stepA A B C D E F G H x0) rs'407) →
 ((b404 = b404 ∧
 (wholeC true v'406 3)) ∧
 (b405 = b405 ∧
 (Q403 [(aV [(Ci A), (Ci B), (Ci C), (Ci D)]), (aV [(Ci A), (Ci B), (Ci C), (Ci D)]), (oV 8 v'11), (aV [(Ci E), (Ci F), (Ci G), (Ci H)]), (aV [(Ci E), (Ci F), (Ci G), (Ci H)]), (uV [(Ao 12 v'406), (Ag [(Ci E), (Ci F), (Ci G), (Ci (stepN A B C D E F G H x0))]), (Ab (stepOk A B C D E F G H x0))]), (uV [(Ao 12 v'406), (Ag [(Ci E), (Ci F), (Ci G), (Ci (stepN A B C D E F G H x0))]), (Ab (stepOk A B C D E F G H x0))]), (oV 12 v'406), (aV [(Ci E), (Ci F), (Ci G), (Ci (stepN A B C D E F G H x0))]), (bV (stepOk A B C D E F G H x0)), (pV 10 b404 0), (pV 11 b405 0), (bV (stepOk A B C D E F G H x0))] [(Ho false rs0), (Hc b0 23 [(Ci A), (Ci B), (Ci C), (Ci D)]), (Hw b1 27 true 3 (Co 0 v0)), (Hc b2 29 [(Ci E), (Ci F), (Ci G), (Ci H)]), (Hw b5 33 true 3 (Co 7 v'9)), (Hc b6 34 [(Ci E), (Ci F), (Ci G), (Ci (stepN A B C D E F G H x0))]), (Ho true rs'8), (Ho true rs'10), (Ho true rs'12), (Hw b13 33 true 3 (Co 8 v'11)), (Hw b404 33 true 3 (Co 12 v'406)), (Hc b405 34 [(Ci E), (Ci F), (Ci G), (Ci (stepN A B C D E F G H x0))]), (Ho true rs'407)])))))))))))) →
 (Q403 [(aV [(Ci A), (Ci B), (Ci C), (Ci D)]), (aV [(Ci A), (Ci B), (Ci C), (Ci D)]), (oV 8 v'11), (aV [(Ci E), (Ci F), (Ci G), (Ci H)]), (aV [(Ci E), (Ci F), (Ci G), (Ci H)]), (uV [(Ao 12 v'400), (Ag [(Ci E), (Ci F), (Ci G), (Ci (stepN A B C D E F G H x0))]), (Ab (stepOk A B C D E F G H x0))]), (uV [(Ao 12 v'400), (Ag [(Ci E), (Ci F), (Ci G), (Ci (stepN A B C D E F G H x0))]), (Ab (stepOk A B C D E F G H x0))]), (oV 12 v'400), (aV [(Ci E), (Ci F), (Ci G), (Ci (stepN A B C D E F G H x0))]), (bV (stepOk A B C D E F G H x0)), (pV 10 b402 0), (pV 11 b399 0), (bV (stepOk A B C D E F G H x0))] [(Ho false rs0), (Hc b0 23 [(Ci A), (Ci B), (Ci C), (Ci D)]), (Hw b1 27 true 3 (Co 0 v0)), (Hc b2 29 [(Ci E), (Ci F), (Ci G), (Ci H)]), (Hw b5 33 true 3 (Co 7 v'9)), (Hc b6 34 [(Ci E), (Ci F), (Ci G), (Ci (stepN A B C D E F G H x0))]), (Ho true rs'8), (Ho true rs'10), (Ho true rs'12), (Hw b13 33 true 3 (Co 8 v'11)), (Hw b402 33 true 3 (Co 12 v'400)), (Hc b399 34 [(Ci E), (Ci F), (Ci G), (Ci (stepN A B C D E F G H x0))]), (Ho true rs'401)]))))))))))))))) ∧
 (∀ b408 : Nat,
 (True ∧
 (((isArray v'11 x0 rs'12) ∧
 (capAx x0)) ∧
 (∀ v'409 : Value,
 (∀ rs'410 : (List Row),
 ((isArray v'409 (stepA A B C D E F G H x0) rs'410) →
 (True ∧
 ((b408 = b408 ∧
 (wholeC true v'409 3)) ∧
 (True ∧
 (b399 = b399 ∧
 (True ∧
 (true = true ∧
 (∀ Q411 : ((List SV) →
 ((List Ch) →
 Prop)),
 ((∀ b412 : Nat,
 (∀ b413 : Nat,
 (b0 = b0 ∧
 (b13 = b13 ∧
 (b2 = b2 ∧
 (((isArray v'11 x0 rs'12) ∧
 (capAx x0)) ∧
 (∀ v'414 : Value,
 (∀ rs'415 : (List Row),
 ((isArray v'414 (stepA A B C D E F G H x0) rs'415) →
 ((b412 = b412 ∧
 (wholeC true v'414 3)) ∧
 (b413 = b413 ∧
 (Q411 [(aV [(Ci A), (Ci B), (Ci C), (Ci D)]), (aV [(Ci A), (Ci B), (Ci C), (Ci D)]), (oV 8 v'11), (aV [(Ci E), (Ci F), (Ci G), (Ci H)]), (aV [(Ci E), (Ci F), (Ci G), (Ci H)]), (uV [(Ao 12 v'414), (Ag [(Ci E), (Ci F), (Ci G), (Ci (stepN A B C D E F G H x0))]), (Ab (stepOk A B C D E F G H x0))]), (uV [(Ao 12 v'414), (Ag [(Ci E), (Ci F), (Ci G), (Ci (stepN A B C D E F G H x0))]), (Ab (stepOk A B C D E F G H x0))]), (oV 12 v'414), (aV [(Ci E), (Ci F), (Ci G), (Ci (stepN A B C D E F G H x0))]), (bV (stepOk A B C D E F G H x0)), (pV 10 b412 0), (pV 11 b413 0), (bV (stepOk A B C D E F G H x0))] [(Ho false rs0), (Hc b0 23 [(Ci A), (Ci B), (Ci C), (Ci D)]), (Hw b1 27 true 3 (Co 0 v0)), (Hc b2 29 [(Ci E), (Ci F), (Ci G), (Ci H)]), (Hw b5 33 true 3 (Co 7 v'9)), (Hc b6 34 [(Ci E), (Ci F), (Ci G), (Ci (stepN A B C D E F G H x0))]), (Ho true rs'8), (Ho true rs'10), (Ho true rs'12), (Hw b13 33 true 3 (Co 8 v'11)), (Hw b412 33 true 3 (Co 12 v'414)), (Hc b413 34 [(Ci E), (Ci F), (Ci G), (Ci (stepN A B C D E F G H x0))]), (Ho true rs'415)])))))))))))) →
 (Q411 [(aV [(Ci A), (Ci B), (Ci C), (Ci D)]), (aV [(Ci A), (Ci B), (Ci C), (Ci D)]), (oV 8 v'11), (aV [(Ci E), (Ci F), (Ci G), (Ci H)]), (aV [(Ci E), (Ci F), (Ci G), (Ci H)]), (uV [(Ao 12 v'409), (Ag [(Ci E), (Ci F), (Ci G), (Ci (stepN A B C D E F G H x0))]), (Ab (stepOk A B C D E F G H x0))]), (uV [(Ao 12 v'409), (Ag [(Ci E), (Ci F), (Ci G), (Ci (stepN A B C D E F G H x0))]), (Ab (stepOk A B C D E F G H x0))]), (oV 12 v'409), (aV [(Ci E), (Ci F), (Ci G), (Ci (stepN A B C D E F G H x0))]), (bV (stepOk A B C D E F G H x0)), (pV 10 b408 0), (pV 11 b399 0), (bV (stepOk A B C D E F G H x0))] [(Ho false rs0), (Hc b0 23 [(Ci A), (Ci B), (Ci C), (Ci D)]), (Hw b1 27 true 3 (Co 0 v0)), (Hc b2 29 [(Ci E), (Ci F), (Ci G), (Ci H)]), (Hw b5 33 true 3 (Co 7 v'9)), (Hc b6 34 [(Ci E), (Ci F), (Ci G), (Ci (stepN A B C D E F G H x0))]), (Ho true rs'8), (Ho true rs'10), (Ho true rs'12), (Hw b13 33 true 3 (Co 8 v'11)), (Hw b408 33 true 3 (Co 12 v'409)), (Hc b399 34 [(Ci E), (Ci F), (Ci G), (Ci (stepN A B C D E F G H x0))]), (Ho true rs'410)]))))))))))))))))))))) ∧
 ((∀ b416 : Nat,
 (True ∧
 ((True ∧
 ((((isArray v'11 x0 rs'12) ∧
 (capAx x0)) ∧
 (∀ v'417 : Value,
 (∀ rs'418 : (List Row),
 ((isArray v'417 (stepA A B C D E F G H x0) rs'418) →
 (True ∧
 (∀ b419 : Nat,
 (True ∧
 ((b416 = b416 ∧
 (wholeC true v'417 3)) ∧
 (True ∧
 (b419 = b419 ∧
 (True ∧
 (true = true ∧
 (∀ Q420 : ((List SV) →
 ((List Ch) →
 Prop)),
 ((∀ b421 : Nat,
 (∀ b422 : Nat,
 (b0 = b0 ∧
 (b13 = b13 ∧
 (b2 = b2 ∧
 (((isArray v'11 x0 rs'12) ∧
 (capAx x0)) ∧
 (∀ v'423 : Value,
 (∀ rs'424 : (List Row),
 ((isArray v'423 (stepA A B C D E F G H x0) rs'424) →
 ((b421 = b421 ∧
 (wholeC true v'423 3)) ∧
 (b422 = b422 ∧
 (Q420 [(aV [(Ci A), (Ci B), (Ci C), (Ci D)]), (aV [(Ci A), (Ci B), (Ci C), (Ci D)]), (oV 8 v'11), (aV [(Ci E), (Ci F), (Ci G), (Ci H)]), (aV [(Ci E), (Ci F), (Ci G), (Ci H)]), (uV [(Ao 12 v'423), (Ag [(Ci E), (Ci F), (Ci G), (Ci (stepN A B C D E F G H x0))]), (Ab (stepOk A B C D E F G H x0))]), (uV [(Ao 12 v'423), (Ag [(Ci E), (Ci F), (Ci G), (Ci (stepN A B C D E F G H x0))]), (Ab (stepOk A B C D E F G H x0))]), (oV 12 v'423), (aV [(Ci E), (Ci F), (Ci G), (Ci (stepN A B C D E F G H x0))]), (bV (stepOk A B C D E F G H x0)), (pV 10 b421 0), (pV 11 b422 0), (bV (stepOk A B C D E F G H x0))] [(Ho false rs0), (Hc b0 23 [(Ci A), (Ci B), (Ci C), (Ci D)]), (Hw b1 27 true 3 (Co 0 v0)), (Hc b2 29 [(Ci E), (Ci F), (Ci G), (Ci H)]), (Hw b5 33 true 3 (Co 7 v'9)), (Hc b6 34 [(Ci E), (Ci F), (Ci G), (Ci (stepN A B C D E F G H x0))]), (Ho true rs'8), (Ho true rs'10), (Ho true rs'12), (Hw b13 33 true 3 (Co 8 v'11)), (Hw b421 33 true 3 (Co 12 v'423)), (Hc b422 34 [(Ci E), (Ci F), (Ci G), (Ci (stepN A B C D E F G H x0))]), (Ho true rs'424)])))))))))))) →
 (Q420 [(aV [(Ci A), (Ci B), (Ci C), (Ci D)]), (aV [(Ci A), (Ci B), (Ci C), (Ci D)]), (oV 8 v'11), (aV [(Ci E), (Ci F), (Ci G), (Ci H)]), (aV [(Ci E), (Ci F), (Ci G), (Ci H)]), (uV [(Ao 12 v'417), (Ag [(Ci E), (Ci F), (Ci G), (Ci (stepN A B C D E F G H x0))]), (Ab (stepOk A B C D E F G H x0))]), (uV [(Ao 12 v'417), (Ag [(Ci E), (Ci F), (Ci G), (Ci (stepN A B C D E F G H x0))]), (Ab (stepOk A B C D E F G H x0))]), (oV 12 v'417), (aV [(Ci E), (Ci F), (Ci G), (Ci (stepN A B C D E F G H x0))]), (bV (stepOk A B C D E F G H x0)), (pV 10 b416 0), (pV 11 b419 0), (bV (stepOk A B C D E F G H x0))] [(Ho false rs0), (Hc b0 23 [(Ci A), (Ci B), (Ci C), (Ci D)]), (Hw b1 27 true 3 (Co 0 v0)), (Hc b2 29 [(Ci E), (Ci F), (Ci G), (Ci H)]), (Hw b5 33 true 3 (Co 7 v'9)), (Hc b6 34 [(Ci E), (Ci F), (Ci G), (Ci (stepN A B C D E F G H x0))]), (Ho true rs'8), (Ho true rs'10), (Ho true rs'12), (Hw b13 33 true 3 (Co 8 v'11)), (Hw b416 33 true 3 (Co 12 v'417)), (Hc b419 34 [(Ci E), (Ci F), (Ci G), (Ci (stepN A B C D E F G H x0))]), (Ho true rs'418)]))))))))))))))) ∧
 (∀ b425 : Nat,
 (True ∧
 (((isArray v'11 x0 rs'12) ∧
 (capAx x0)) ∧
 (∀ v'426 : Value,
 (∀ rs'427 : (List Row),
 ((isArray v'426 (stepA A B C D E F G H x0) rs'427) →
 (True ∧
 ((b416 = b416 ∧
 (wholeC true v'426 3)) ∧
 (True ∧
 (b425 = b425 ∧
 (True ∧
 (true = true ∧
 (∀ Q428 : ((List SV) →
 ((List Ch) →
 Prop)),
 ((∀ b429 : Nat,
 (∀ b430 : Nat,
 (b0 = b0 ∧
 (b13 = b13 ∧
 (b2 = b2 ∧
 (((isArray v'11 x0 rs'12) ∧
 (capAx x0)) ∧
 (∀ v'431 : Value,
 (∀ rs'432 : (List Row),
 ((isArray v'431 (stepA A B C D E F G H x0) rs'432) →
 ((b429 = b429 ∧
 (wholeC true v'431 3)) ∧
 (b430 = b430 ∧
 (Q428 [(aV [(Ci A), (Ci B), (Ci C), (Ci D)]), (aV [(Ci A), (Ci B), (Ci C), (Ci D)]), (oV 8 v'11), (aV [(Ci E), (Ci F), (Ci G), (Ci H)]), (aV [(Ci E), (Ci F), (Ci G), (Ci H)]), (uV [(Ao 12 v'431), (Ag [(Ci E), (Ci F), (Ci G), (Ci (stepN A B C D E F G H x0))]), (Ab (stepOk A B C D E F G H x0))]), (uV [(Ao 12 v'431), (Ag [(Ci E), (Ci F), (Ci G), (Ci (stepN A B C D E F G H x0))]), (Ab (stepOk A B C D E F G H x0))]), (oV 12 v'431), (aV [(Ci E), (Ci F), (Ci G), (Ci (stepN A B C D E F G H x0))]), (bV (stepOk A B C D E F G H x0)), (pV 10 b429 0), (pV 11 b430 0), (bV (stepOk A B C D E F G H x0))] [(Ho false rs0), (Hc b0 23 [(Ci A), (Ci B), (Ci C), (Ci D)]), (Hw b1 27 true 3 (Co 0 v0)), (Hc b2 29 [(Ci E), (Ci F), (Ci G), (Ci H)]), (Hw b5 33 true 3 (Co 7 v'9)), (Hc b6 34 [(Ci E), (Ci F), (Ci G), (Ci (stepN A B C D E F G H x0))]), (Ho true rs'8), (Ho true rs'10), (Ho true rs'12), (Hw b13 33 true 3 (Co 8 v'11)), (Hw b429 33 true 3 (Co 12 v'431)), (Hc b430 34 [(Ci E), (Ci F), (Ci G), (Ci (stepN A B C D E F G H x0))]), (Ho true rs'432)])))))))))))) →
 (Q428 [(aV [(Ci A), (Ci B), (Ci C), (Ci D)]), (aV [(Ci A), (Ci B), (Ci C), (Ci D)]), (oV 8 v'11), (aV [(Ci E), (Ci F), (Ci G), (Ci H)]), (aV [(Ci E), (Ci F), (Ci G), (Ci H)]), (uV [(Ao 12 v'426), (Ag [(Ci E), (Ci F), (Ci G), (Ci (stepN A B C D E F G H x0))]), (Ab (stepOk A B C D E F G H x0))]), (uV [(Ao 12 v'426), (Ag [(Ci E), (Ci F), (Ci G), (Ci (stepN A B C D E F G H x0))]), (Ab (stepOk A B C D E F G H x0))]), (oV 12 v'426), (aV [(Ci E), (Ci F), (Ci G), (Ci (stepN A B C D E F G H x0))]), (bV (stepOk A B C D E F G H x0)), (pV 10 b416 0), (pV 11 b425 0), (bV (stepOk A B C D E F G H x0))] [(Ho false rs0), (Hc b0 23 [(Ci A), (Ci B), (Ci C), (Ci D)]), (Hw b1 27 true 3 (Co 0 v0)), (Hc b2 29 [(Ci E), (Ci F), (Ci G), (Ci H)]), (Hw b5 33 true 3 (Co 7 v'9)), (Hc b6 34 [(Ci E), (Ci F), (Ci G), (Ci (stepN A B C D E F G H x0))]), (Ho true rs'8), (Ho true rs'10), (Ho true rs'12), (Hw b13 33 true 3 (Co 8 v'11)), (Hw b416 33 true 3 (Co 12 v'426)), (Hc b425 34 [(Ci E), (Ci F), (Ci G), (Ci (stepN A B C D E F G H x0))]), (Ho true rs'427)]))))))))))))))))) ∧
 (∀ b433 : Nat,
 (True ∧
 (True ∧
 (((isArray v'11 x0 rs'12) ∧
 (capAx x0)) ∧
 (∀ v'434 : Value,
 (∀ rs'435 : (List Row),
 ((isArray v'434 (stepA A B C D E F G H x0) rs'435) →
 (True ∧
 ((b416 = b416 ∧
 (wholeC true v'434 3)) ∧
 (True ∧
 (b433 = b433 ∧
 (True ∧
 (true = true ∧
 (∀ Q436 : ((List SV) →
 ((List Ch) →
 Prop)),
 ((∀ b437 : Nat,
 (∀ b438 : Nat,
 (b0 = b0 ∧
 (b13 = b13 ∧
 (b2 = b2 ∧
 (((isArray v'11 x0 rs'12) ∧
 (capAx x0)) ∧
 (∀ v'439 : Value,
 (∀ rs'440 : (List Row),
 ((isArray v'439 (stepA A B C D E F G H x0) rs'440) →
 ((b437 = b437 ∧
 (wholeC true v'439 3)) ∧
 (b438 = b438 ∧
 (Q436 [(aV [(Ci A), (Ci B), (Ci C), (Ci D)]), (aV [(Ci A), (Ci B), (Ci C), (Ci D)]), (oV 8 v'11), (aV [(Ci E), (Ci F), (Ci G), (Ci H)]), (aV [(Ci E), (Ci F), (Ci G), (Ci H)]), (uV [(Ao 12 v'439), (Ag [(Ci E), (Ci F), (Ci G), (Ci (stepN A B C D E F G H x0))]), (Ab (stepOk A B C D E F G H x0))]), (uV [(Ao 12 v'439), (Ag [(Ci E), (Ci F), (Ci G), (Ci (stepN A B C D E F G H x0))]), (Ab (stepOk A B C D E F G H x0))]), (oV 12 v'439), (aV [(Ci E), (Ci F), (Ci G), (Ci (stepN A B C D E F G H x0))]), (bV (stepOk A B C D E F G H x0)), (pV 10 b437 0), (pV 11 b438 0), (bV (stepOk A B C D E F G H x0))] [(Ho false rs0), (Hc b0 23 [(Ci A), (Ci B), (Ci C), (Ci D)]), (Hw b1 27 true 3 (Co 0 v0)), (Hc b2 29 [(Ci E), (Ci F), (Ci G), (Ci H)]), (Hw b5 33 true 3 (Co 7 v'9)), (Hc b6 34 [(Ci E), (Ci F), (Ci G), (Ci (stepN A B C D E F G H x0))]), (Ho true rs'8), (Ho true rs'10), (Ho true rs'12), (Hw b13 33 true 3 (Co 8 v'11)), (Hw b437 33 true 3 (Co 12 v'439)), (Hc b438 34 [(Ci E), (Ci F), (Ci G), (Ci (stepN A B C D E F G H x0))]), (Ho true rs'440)])))))))))))) →
 (Q436 [(aV [(Ci A), (Ci B), (Ci C), (Ci D)]), (aV [(Ci A), (Ci B), (Ci C), (Ci D)]), (oV 8 v'11), (aV [(Ci E), (Ci F), (Ci G), (Ci H)]), (aV [(Ci E), (Ci F), (Ci G), (Ci H)]), (uV [(Ao 12 v'434), (Ag [(Ci E), (Ci F), (Ci G), (Ci (stepN A B C D E F G H x0))]), (Ab (stepOk A B C D E F G H x0))]), (uV [(Ao 12 v'434), (Ag [(Ci E), (Ci F), (Ci G), (Ci (stepN A B C D E F G H x0))]), (Ab (stepOk A B C D E F G H x0))]), (oV 12 v'434), (aV [(Ci E), (Ci F), (Ci G), (Ci (stepN A B C D E F G H x0))]), (bV (stepOk A B C D E F G H x0)), (pV 10 b416 0), (pV 11 b433 0), (bV (stepOk A B C D E F G H x0))] [(Ho false rs0), (Hc b0 23 [(Ci A), (Ci B), (Ci C), (Ci D)]), (Hw b1 27 true 3 (Co 0 v0)), (Hc b2 29 [(Ci E), (Ci F), (Ci G), (Ci H)]), (Hw b5 33 true 3 (Co 7 v'9)), (Hc b6 34 [(Ci E), (Ci F), (Ci G), (Ci (stepN A B C D E F G H x0))]), (Ho true rs'8), (Ho true rs'10), (Ho true rs'12), (Hw b13 33 true 3 (Co 8 v'11)), (Hw b416 33 true 3 (Co 12 v'434)), (Hc b433 34 [(Ci E), (Ci F), (Ci G), (Ci (stepN A B C D E F G H x0))]), (Ho true rs'435)]))))))))))))))))))) ∧
 (∀ b441 : Nat,
 (True ∧
 ((True ∧
 ((((isArray v'11 x0 rs'12) ∧
 (capAx x0)) ∧
 (∀ v'442 : Value,
 (∀ rs'443 : (List Row),
 ((isArray v'442 (stepA A B C D E F G H x0) rs'443) →
 (True ∧
 (∀ b444 : Nat,
 (True ∧
 ((b444 = b444 ∧
 (wholeC true v'442 3)) ∧
 (True ∧
 (b441 = b441 ∧
 (True ∧
 (true = true ∧
 (∀ Q445 : ((List SV) →
 ((List Ch) →
 Prop)),
 ((∀ b446 : Nat,
 (∀ b447 : Nat,
 (b0 = b0 ∧
 (b13 = b13 ∧
 (b2 = b2 ∧
 (((isArray v'11 x0 rs'12) ∧
 (capAx x0)) ∧
 (∀ v'448 : Value,
 (∀ rs'449 : (List Row),
 ((isArray v'448 (stepA A B C D E F G H x0) rs'449) →
 ((b446 = b446 ∧
 (wholeC true v'448 3)) ∧
 (b447 = b447 ∧
 (Q445 [(aV [(Ci A), (Ci B), (Ci C), (Ci D)]), (aV [(Ci A), (Ci B), (Ci C), (Ci D)]), (oV 8 v'11), (aV [(Ci E), (Ci F), (Ci G), (Ci H)]), (aV [(Ci E), (Ci F), (Ci G), (Ci H)]), (uV [(Ao 12 v'448), (Ag [(Ci E), (Ci F), (Ci G), (Ci (stepN A B C D E F G H x0))]), (Ab (stepOk A B C D E F G H x0))]), (uV [(Ao 12 v'448), (Ag [(Ci E), (Ci F), (Ci G), (Ci (stepN A B C D E F G H x0))]), (Ab (stepOk A B C D E F G H x0))]), (oV 12 v'448), (aV [(Ci E), (Ci F), (Ci G), (Ci (stepN A B C D E F G H x0))]), (bV (stepOk A B C D E F G H x0)), (pV 10 b446 0), (pV 11 b447 0), (bV (stepOk A B C D E F G H x0))] [(Ho false rs0), (Hc b0 23 [(Ci A), (Ci B), (Ci C), (Ci D)]), (Hw b1 27 true 3 (Co 0 v0)), (Hc b2 29 [(Ci E), (Ci F), (Ci G), (Ci H)]), (Hw b5 33 true 3 (Co 7 v'9)), (Hc b6 34 [(Ci E), (Ci F), (Ci G), (Ci (stepN A B C D E F G H x0))]), (Ho true rs'8), (Ho true rs'10), (Ho true rs'12), (Hw b13 33 true 3 (Co 8 v'11)), (Hw b446 33 true 3 (Co 12 v'448)), (Hc b447 34 [(Ci E), (Ci F), (Ci G), (Ci (stepN A B C D E F G H x0))]), (Ho true rs'449)])))))))))))) →
 (Q445 [(aV [(Ci A), (Ci B), (Ci C), (Ci D)]), (aV [(Ci A), (Ci B), (Ci C), (Ci D)]), (oV 8 v'11), (aV [(Ci E), (Ci F), (Ci G), (Ci H)]), (aV [(Ci E), (Ci F), (Ci G), (Ci H)]), (uV [(Ao 12 v'442), (Ag [(Ci E), (Ci F), (Ci G), (Ci (stepN A B C D E F G H x0))]), (Ab (stepOk A B C D E F G H x0))]), (uV [(Ao 12 v'442), (Ag [(Ci E), (Ci F), (Ci G), (Ci (stepN A B C D E F G H x0))]), (Ab (stepOk A B C D E F G H x0))]), (oV 12 v'442), (aV [(Ci E), (Ci F), (Ci G), (Ci (stepN A B C D E F G H x0))]), (bV (stepOk A B C D E F G H x0)), (pV 10 b444 0), (pV 11 b441 0), (bV (stepOk A B C D E F G H x0))] [(Ho false rs0), (Hc b0 23 [(Ci A), (Ci B), (Ci C), (Ci D)]), (Hw b1 27 true 3 (Co 0 v0)), (Hc b2 29 [(Ci E), (Ci F), (Ci G), (Ci H)]), (Hw b5 33 true 3 (Co 7 v'9)), (Hc b6 34 [(Ci E), (Ci F), (Ci G), (Ci (stepN A B C D E F G H x0))]), (Ho true rs'8), (Ho true rs'10), (Ho true rs'12), (Hw b13 33 true 3 (Co 8 v'11)), (Hw b444 33 true 3 (Co 12 v'442)), (Hc b441 34 [(Ci E), (Ci F), (Ci G), (Ci (stepN A B C D E F G H x0))]), (Ho true rs'443)]))))))))))))))) ∧
 (∀ b450 : Nat,
 (True ∧
 (((isArray v'11 x0 rs'12) ∧
 (capAx x0)) ∧
 (∀ v'451 : Value,
 (∀ rs'452 : (List Row),
 ((isArray v'451 (stepA A B C D E F G H x0) rs'452) →
 (True ∧
 ((b450 = b450 ∧
 (wholeC true v'451 3)) ∧
 (True ∧
 (b441 = b441 ∧
 (True ∧
 (true = true ∧
 (∀ Q453 : ((List SV) →
 ((List Ch) →
 Prop)),
 ((∀ b454 : Nat,
 (∀ b455 : Nat,
 (b0 = b0 ∧
 (b13 = b13 ∧
 (b2 = b2 ∧
 (((isArray v'11 x0 rs'12) ∧
 (capAx x0)) ∧
 (∀ v'456 : Value,
 (∀ rs'457 : (List Row),
 ((isArray v'456 (stepA A B C D E F G H x0) rs'457) →
 ((b454 = b454 ∧
 (wholeC true v'456 3)) ∧
 (b455 = b455 ∧
 (Q453 [(aV [(Ci A), (Ci B), (Ci C), (Ci D)]), (aV [(Ci A), (Ci B), (Ci C), (Ci D)]), (oV 8 v'11), (aV [(Ci E), (Ci F), (Ci G), (Ci H)]), (aV [(Ci E), (Ci F), (Ci G), (Ci H)]), (uV [(Ao 12 v'456), (Ag [(Ci E), (Ci F), (Ci G), (Ci (stepN A B C D E F G H x0))]), (Ab (stepOk A B C D E F G H x0))]), (uV [(Ao 12 v'456), (Ag [(Ci E), (Ci F), (Ci G), (Ci (stepN A B C D E F G H x0))]), (Ab (stepOk A B C D E F G H x0))]), (oV 12 v'456), (aV [(Ci E), (Ci F), (Ci G), (Ci (stepN A B C D E F G H x0))]), (bV (stepOk A B C D E F G H x0)), (pV 10 b454 0), (pV 11 b455 0), (bV (stepOk A B C D E F G H x0))] [(Ho false rs0), (Hc b0 23 [(Ci A), (Ci B), (Ci C), (Ci D)]), (Hw b1 27 true 3 (Co 0 v0)), (Hc b2 29 [(Ci E), (Ci F), (Ci G), (Ci H)]), (Hw b5 33 true 3 (Co 7 v'9)), (Hc b6 34 [(Ci E), (Ci F), (Ci G), (Ci (stepN A B C D E F G H x0))]), (Ho true rs'8), (Ho true rs'10), (Ho true rs'12), (Hw b13 33 true 3 (Co 8 v'11)), (Hw b454 33 true 3 (Co 12 v'456)), (Hc b455 34 [(Ci E), (Ci F), (Ci G), (Ci (stepN A B C D E F G H x0))]), (Ho true rs'457)])))))))))))) →
 (Q453 [(aV [(Ci A), (Ci B), (Ci C), (Ci D)]), (aV [(Ci A), (Ci B), (Ci C), (Ci D)]), (oV 8 v'11), (aV [(Ci E), (Ci F), (Ci G), (Ci H)]), (aV [(Ci E), (Ci F), (Ci G), (Ci H)]), (uV [(Ao 12 v'451), (Ag [(Ci E), (Ci F), (Ci G), (Ci (stepN A B C D E F G H x0))]), (Ab (stepOk A B C D E F G H x0))]), (uV [(Ao 12 v'451), (Ag [(Ci E), (Ci F), (Ci G), (Ci (stepN A B C D E F G H x0))]), (Ab (stepOk A B C D E F G H x0))]), (oV 12 v'451), (aV [(Ci E), (Ci F), (Ci G), (Ci (stepN A B C D E F G H x0))]), (bV (stepOk A B C D E F G H x0)), (pV 10 b450 0), (pV 11 b441 0), (bV (stepOk A B C D E F G H x0))] [(Ho false rs0), (Hc b0 23 [(Ci A), (Ci B), (Ci C), (Ci D)]), (Hw b1 27 true 3 (Co 0 v0)), (Hc b2 29 [(Ci E), (Ci F), (Ci G), (Ci H)]), (Hw b5 33 true 3 (Co 7 v'9)), (Hc b6 34 [(Ci E), (Ci F), (Ci G), (Ci (stepN A B C D E F G H x0))]), (Ho true rs'8), (Ho true rs'10), (Ho true rs'12), (Hw b13 33 true 3 (Co 8 v'11)), (Hw b450 33 true 3 (Co 12 v'451)), (Hc b441 34 [(Ci E), (Ci F), (Ci G), (Ci (stepN A B C D E F G H x0))]), (Ho true rs'452)]))))))))))))))))) ∧
 (∀ b458 : Nat,
 (True ∧
 (True ∧
 (((isArray v'11 x0 rs'12) ∧
 (capAx x0)) ∧
 (∀ v'459 : Value,
 (∀ rs'460 : (List Row),
 ((isArray v'459 (stepA A B C D E F G H x0) rs'460) →
 (True ∧
 ((b458 = b458 ∧
 (wholeC true v'459 3)) ∧
 (True ∧
 (b441 = b441 ∧
 (True ∧
 (true = true ∧
 (∀ Q461 : ((List SV) →
 ((List Ch) →
 Prop)),
 ((∀ b462 : Nat,
 (∀ b463 : Nat,
 (b0 = b0 ∧
 (b13 = b13 ∧
 (b2 = b2 ∧
 (((isArray v'11 x0 rs'12) ∧
 (capAx x0)) ∧
 (∀ v'464 : Value,
 (∀ rs'465 : (List Row),
 ((isArray v'464 (stepA A B C D E F G H x0) rs'465) →
 ((b462 = b462 ∧
 (wholeC true v'464 3)) ∧
 (b463 = b463 ∧
 (Q461 [(aV [(Ci A), (Ci B), (Ci C), (Ci D)]), (aV [(Ci A), (Ci B), (Ci C), (Ci D)]), (oV 8 v'11), (aV [(Ci E), (Ci F), (Ci G), (Ci H)]), (aV [(Ci E), (Ci F), (Ci G), (Ci H)]), (uV [(Ao 12 v'464), (Ag [(Ci E), (Ci F), (Ci G), (Ci (stepN A B C D E F G H x0))]), (Ab (stepOk A B C D E F G H x0))]), (uV [(Ao 12 v'464), (Ag [(Ci E), (Ci F), (Ci G), (Ci (stepN A B C D E F G H x0))]), (Ab (stepOk A B C D E F G H x0))]), (oV 12 v'464), (aV [(Ci E), (Ci F), (Ci G), (Ci (stepN A B C D E F G H x0))]), (bV (stepOk A B C D E F G H x0)), (pV 10 b462 0), (pV 11 b463 0), (bV (stepOk A B C D E F G H x0))] [(Ho false rs0), (Hc b0 23 [(Ci A), (Ci B), (Ci C), (Ci D)]), (Hw b1 27 true 3 (Co 0 v0)), (Hc b2 29 [(Ci E), (Ci F), (Ci G), (Ci H)]), (Hw b5 33 true 3 (Co 7 v'9)), (Hc b6 34 [(Ci E), (Ci F), (Ci G), (Ci (stepN A B C D E F G H x0))]), (Ho true rs'8), (Ho true rs'10), (Ho true rs'12), (Hw b13 33 true 3 (Co 8 v'11)), (Hw b462 33 true 3 (Co 12 v'464)), (Hc b463 34 [(Ci E), (Ci F), (Ci G), (Ci (stepN A B C D E F G H x0))]), (Ho true rs'465)])))))))))))) →
 (Q461 [(aV [(Ci A), (Ci B), (Ci C), (Ci D)]), (aV [(Ci A), (Ci B), (Ci C), (Ci D)]), (oV 8 v'11), (aV [(Ci E), (Ci F), (Ci G), (Ci H)]), (aV [(Ci E), (Ci F), (Ci G), (Ci H)]), (uV [(Ao 12 v'459), (Ag [(Ci E), (Ci F), (Ci G), (Ci (stepN A B C D E F G H x0))]), (Ab (stepOk A B C D E F G H x0))]), (uV [(Ao 12 v'459), (Ag [(Ci E), (Ci F), (Ci G), (Ci (stepN A B C D E F G H x0))]), (Ab (stepOk A B C D E F G H x0))]), (oV 12 v'459), (aV [(Ci E), (Ci F), (Ci G), (Ci (stepN A B C D E F G H x0))]), (bV (stepOk A B C D E F G H x0)), (pV 10 b458 0), (pV 11 b441 0), (bV (stepOk A B C D E F G H x0))] [(Ho false rs0), (Hc b0 23 [(Ci A), (Ci B), (Ci C), (Ci D)]), (Hw b1 27 true 3 (Co 0 v0)), (Hc b2 29 [(Ci E), (Ci F), (Ci G), (Ci H)]), (Hw b5 33 true 3 (Co 7 v'9)), (Hc b6 34 [(Ci E), (Ci F), (Ci G), (Ci (stepN A B C D E F G H x0))]), (Ho true rs'8), (Ho true rs'10), (Ho true rs'12), (Hw b13 33 true 3 (Co 8 v'11)), (Hw b458 33 true 3 (Co 12 v'459)), (Hc b441 34 [(Ci E), (Ci F), (Ci G), (Ci (stepN A B C D E F G H x0))]), (Ho true rs'460)])))))))))))))))))))))) ∧
 ((∀ b466 : Nat,
 (True ∧
 ((True ∧
 ((True ∧
 ((((isArray v'11 x0 rs'12) ∧
 (capAx x0)) ∧
 (∀ v'467 : Value,
 (∀ rs'468 : (List Row),
 ((isArray v'467 (stepA A B C D E F G H x0) rs'468) →
 (True ∧
 (∀ b469 : Nat,
 (True ∧
 ((b466 = b466 ∧
 (wholeC true v'467 3)) ∧
 (True ∧
 (b469 = b469 ∧
 (True ∧
 (true = true ∧
 (∀ Q470 : ((List SV) →
 ((List Ch) →
 Prop)),
 ((∀ b471 : Nat,
 (∀ b472 : Nat,
 (b0 = b0 ∧
 (b13 = b13 ∧
 (b2 = b2 ∧
 (((isArray v'11 x0 rs'12) ∧
 (capAx x0)) ∧
 (∀ v'473 : Value,
 (∀ rs'474 : (List Row),
 ((isArray v'473 (stepA A B C D E F G H x0) rs'474) →
 ((b471 = b471 ∧
 (wholeC true v'473 3)) ∧
 (b472 = b472 ∧
 (Q470 [(aV [(Ci A), (Ci B), (Ci C), (Ci D)]), (aV [(Ci A), (Ci B), (Ci C), (Ci D)]), (oV 8 v'11), (aV [(Ci E), (Ci F), (Ci G), (Ci H)]), (aV [(Ci E), (Ci F), (Ci G), (Ci H)]), (uV [(Ao 12 v'473), (Ag [(Ci E), (Ci F), (Ci G), (Ci (stepN A B C D E F G H x0))]), (Ab (stepOk A B C D E F G H x0))]), (uV [(Ao 12 v'473), (Ag [(Ci E), (Ci F), (Ci G), (Ci (stepN A B C D E F G H x0))]), (Ab (stepOk A B C D E F G H x0))]), (oV 12 v'473), (aV [(Ci E), (Ci F), (Ci G), (Ci (stepN A B C D E F G H x0))]), (bV (stepOk A B C D E F G H x0)), (pV 10 b471 0), (pV 11 b472 0), (bV (stepOk A B C D E F G H x0))] [(Ho false rs0), (Hc b0 23 [(Ci A), (Ci B), (Ci C), (Ci D)]), (Hw b1 27 true 3 (Co 0 v0)), (Hc b2 29 [(Ci E), (Ci F), (Ci G), (Ci H)]), (Hw b5 33 true 3 (Co 7 v'9)), (Hc b6 34 [(Ci E), (Ci F), (Ci G), (Ci (stepN A B C D E F G H x0))]), (Ho true rs'8), (Ho true rs'10), (Ho true rs'12), (Hw b13 33 true 3 (Co 8 v'11)), (Hw b471 33 true 3 (Co 12 v'473)), (Hc b472 34 [(Ci E), (Ci F), (Ci G), (Ci (stepN A B C D E F G H x0))]), (Ho true rs'474)])))))))))))) →
 (Q470 [(aV [(Ci A), (Ci B), (Ci C), (Ci D)]), (aV [(Ci A), (Ci B), (Ci C), (Ci D)]), (oV 8 v'11), (aV [(Ci E), (Ci F), (Ci G), (Ci H)]), (aV [(Ci E), (Ci F), (Ci G), (Ci H)]), (uV [(Ao 12 v'467), (Ag [(Ci E), (Ci F), (Ci G), (Ci (stepN A B C D E F G H x0))]), (Ab (stepOk A B C D E F G H x0))]), (uV [(Ao 12 v'467), (Ag [(Ci E), (Ci F), (Ci G), (Ci (stepN A B C D E F G H x0))]), (Ab (stepOk A B C D E F G H x0))]), (oV 12 v'467), (aV [(Ci E), (Ci F), (Ci G), (Ci (stepN A B C D E F G H x0))]), (bV (stepOk A B C D E F G H x0)), (pV 10 b466 0), (pV 11 b469 0), (bV (stepOk A B C D E F G H x0))] [(Ho false rs0), (Hc b0 23 [(Ci A), (Ci B), (Ci C), (Ci D)]), (Hw b1 27 true 3 (Co 0 v0)), (Hc b2 29 [(Ci E), (Ci F), (Ci G), (Ci H)]), (Hw b5 33 true 3 (Co 7 v'9)), (Hc b6 34 [(Ci E), (Ci F), (Ci G), (Ci (stepN A B C D E F G H x0))]), (Ho true rs'8), (Ho true rs'10), (Ho true rs'12), (Hw b13 33 true 3 (Co 8 v'11)), (Hw b466 33 true 3 (Co 12 v'467)), (Hc b469 34 [(Ci E), (Ci F), (Ci G), (Ci (stepN A B C D E F G H x0))]), (Ho true rs'468)]))))))))))))))) ∧
 (∀ b475 : Nat,
 (True ∧
 (((isArray v'11 x0 rs'12) ∧
 (capAx x0)) ∧
 (∀ v'476 : Value,
 (∀ rs'477 : (List Row),
 ((isArray v'476 (stepA A B C D E F G H x0) rs'477) →
 (True ∧
 ((b466 = b466 ∧
 (wholeC true v'476 3)) ∧
 (True ∧
 (b475 = b475 ∧
 (True ∧
 (true = true ∧
 (∀ Q478 : ((List SV) →
 ((List Ch) →
 Prop)),
 ((∀ b479 : Nat,
 (∀ b480 : Nat,
 (b0 = b0 ∧
 (b13 = b13 ∧
 (b2 = b2 ∧
 (((isArray v'11 x0 rs'12) ∧
 (capAx x0)) ∧
 (∀ v'481 : Value,
 (∀ rs'482 : (List Row),
 ((isArray v'481 (stepA A B C D E F G H x0) rs'482) →
 ((b479 = b479 ∧
 (wholeC true v'481 3)) ∧
 (b480 = b480 ∧
 (Q478 [(aV [(Ci A), (Ci B), (Ci C), (Ci D)]), (aV [(Ci A), (Ci B), (Ci C), (Ci D)]), (oV 8 v'11), (aV [(Ci E), (Ci F), (Ci G), (Ci H)]), (aV [(Ci E), (Ci F), (Ci G), (Ci H)]), (uV [(Ao 12 v'481), (Ag [(Ci E), (Ci F), (Ci G), (Ci (stepN A B C D E F G H x0))]), (Ab (stepOk A B C D E F G H x0))]), (uV [(Ao 12 v'481), (Ag [(Ci E), (Ci F), (Ci G), (Ci (stepN A B C D E F G H x0))]), (Ab (stepOk A B C D E F G H x0))]), (oV 12 v'481), (aV [(Ci E), (Ci F), (Ci G), (Ci (stepN A B C D E F G H x0))]), (bV (stepOk A B C D E F G H x0)), (pV 10 b479 0), (pV 11 b480 0), (bV (stepOk A B C D E F G H x0))] [(Ho false rs0), (Hc b0 23 [(Ci A), (Ci B), (Ci C), (Ci D)]), (Hw b1 27 true 3 (Co 0 v0)), (Hc b2 29 [(Ci E), (Ci F), (Ci G), (Ci H)]), (Hw b5 33 true 3 (Co 7 v'9)), (Hc b6 34 [(Ci E), (Ci F), (Ci G), (Ci (stepN A B C D E F G H x0))]), (Ho true rs'8), (Ho true rs'10), (Ho true rs'12), (Hw b13 33 true 3 (Co 8 v'11)), (Hw b479 33 true 3 (Co 12 v'481)), (Hc b480 34 [(Ci E), (Ci F), (Ci G), (Ci (stepN A B C D E F G H x0))]), (Ho true rs'482)])))))))))))) →
 (Q478 [(aV [(Ci A), (Ci B), (Ci C), (Ci D)]), (aV [(Ci A), (Ci B), (Ci C), (Ci D)]), (oV 8 v'11), (aV [(Ci E), (Ci F), (Ci G), (Ci H)]), (aV [(Ci E), (Ci F), (Ci G), (Ci H)]), (uV [(Ao 12 v'476), (Ag [(Ci E), (Ci F), (Ci G), (Ci (stepN A B C D E F G H x0))]), (Ab (stepOk A B C D E F G H x0))]), (uV [(Ao 12 v'476), (Ag [(Ci E), (Ci F), (Ci G), (Ci (stepN A B C D E F G H x0))]), (Ab (stepOk A B C D E F G H x0))]), (oV 12 v'476), (aV [(Ci E), (Ci F), (Ci G), (Ci (stepN A B C D E F G H x0))]), (bV (stepOk A B C D E F G H x0)), (pV 10 b466 0), (pV 11 b475 0), (bV (stepOk A B C D E F G H x0))] [(Ho false rs0), (Hc b0 23 [(Ci A), (Ci B), (Ci C), (Ci D)]), (Hw b1 27 true 3 (Co 0 v0)), (Hc b2 29 [(Ci E), (Ci F), (Ci G), (Ci H)]), (Hw b5 33 true 3 (Co 7 v'9)), (Hc b6 34 [(Ci E), (Ci F), (Ci G), (Ci (stepN A B C D E F G H x0))]), (Ho true rs'8), (Ho true rs'10), (Ho true rs'12), (Hw b13 33 true 3 (Co 8 v'11)), (Hw b466 33 true 3 (Co 12 v'476)), (Hc b475 34 [(Ci E), (Ci F), (Ci G), (Ci (stepN A B C D E F G H x0))]), (Ho true rs'477)]))))))))))))))))) ∧
 (∀ b483 : Nat,
 (True ∧
 (True ∧
 (((isArray v'11 x0 rs'12) ∧
 (capAx x0)) ∧
 (∀ v'484 : Value,
 (∀ rs'485 : (List Row),
 ((isArray v'484 (stepA A B C D E F G H x0) rs'485) →
 (True ∧
 ((b466 = b466 ∧
 (wholeC true v'484 3)) ∧
 (True ∧
 (b483 = b483 ∧
 (True ∧
 (true = true ∧
 (∀ Q486 : ((List SV) →
 ((List Ch) →
 Prop)),
 ((∀ b487 : Nat,
 (∀ b488 : Nat,
 (b0 = b0 ∧
 (b13 = b13 ∧
 (b2 = b2 ∧
 (((isArray v'11 x0 rs'12) ∧
 (capAx x0)) ∧
 (∀ v'489 : Value,
 (∀ rs'490 : (List Row),
 ((isArray v'489 (stepA A B C D E F G H x0) rs'490) →
 ((b487 = b487 ∧
 (wholeC true v'489 3)) ∧
 (b488 = b488 ∧
 (Q486 [(aV [(Ci A), (Ci B), (Ci C), (Ci D)]), (aV [(Ci A), (Ci B), (Ci C), (Ci D)]), (oV 8 v'11), (aV [(Ci E), (Ci F), (Ci G), (Ci H)]), (aV [(Ci E), (Ci F), (Ci G), (Ci H)]), (uV [(Ao 12 v'489), (Ag [(Ci E), (Ci F), (Ci G), (Ci (stepN A B C D E F G H x0))]), (Ab (stepOk A B C D E F G H x0))]), (uV [(Ao 12 v'489), (Ag [(Ci E), (Ci F), (Ci G), (Ci (stepN A B C D E F G H x0))]), (Ab (stepOk A B C D E F G H x0))]), (oV 12 v'489), (aV [(Ci E), (Ci F), (Ci G), (Ci (stepN A B C D E F G H x0))]), (bV (stepOk A B C D E F G H x0)), (pV 10 b487 0), (pV 11 b488 0), (bV (stepOk A B C D E F G H x0))] [(Ho false rs0), (Hc b0 23 [(Ci A), (Ci B), (Ci C), (Ci D)]), (Hw b1 27 true 3 (Co 0 v0)), (Hc b2 29 [(Ci E), (Ci F), (Ci G), (Ci H)]), (Hw b5 33 true 3 (Co 7 v'9)), (Hc b6 34 [(Ci E), (Ci F), (Ci G), (Ci (stepN A B C D E F G H x0))]), (Ho true rs'8), (Ho true rs'10), (Ho true rs'12), (Hw b13 33 true 3 (Co 8 v'11)), (Hw b487 33 true 3 (Co 12 v'489)), (Hc b488 34 [(Ci E), (Ci F), (Ci G), (Ci (stepN A B C D E F G H x0))]), (Ho true rs'490)])))))))))))) →
 (Q486 [(aV [(Ci A), (Ci B), (Ci C), (Ci D)]), (aV [(Ci A), (Ci B), (Ci C), (Ci D)]), (oV 8 v'11), (aV [(Ci E), (Ci F), (Ci G), (Ci H)]), (aV [(Ci E), (Ci F), (Ci G), (Ci H)]), (uV [(Ao 12 v'484), (Ag [(Ci E), (Ci F), (Ci G), (Ci (stepN A B C D E F G H x0))]), (Ab (stepOk A B C D E F G H x0))]), (uV [(Ao 12 v'484), (Ag [(Ci E), (Ci F), (Ci G), (Ci (stepN A B C D E F G H x0))]), (Ab (stepOk A B C D E F G H x0))]), (oV 12 v'484), (aV [(Ci E), (Ci F), (Ci G), (Ci (stepN A B C D E F G H x0))]), (bV (stepOk A B C D E F G H x0)), (pV 10 b466 0), (pV 11 b483 0), (bV (stepOk A B C D E F G H x0))] [(Ho false rs0), (Hc b0 23 [(Ci A), (Ci B), (Ci C), (Ci D)]), (Hw b1 27 true 3 (Co 0 v0)), (Hc b2 29 [(Ci E), (Ci F), (Ci G), (Ci H)]), (Hw b5 33 true 3 (Co 7 v'9)), (Hc b6 34 [(Ci E), (Ci F), (Ci G), (Ci (stepN A B C D E F G H x0))]), (Ho true rs'8), (Ho true rs'10), (Ho true rs'12), (Hw b13 33 true 3 (Co 8 v'11)), (Hw b466 33 true 3 (Co 12 v'484)), (Hc b483 34 [(Ci E), (Ci F), (Ci G), (Ci (stepN A B C D E F G H x0))]), (Ho true rs'485)])))))))))))))))))) ∧
 (∀ b491 : Nat,
 (True ∧
 (True ∧
 (True ∧
 (((isArray v'11 x0 rs'12) ∧
 (capAx x0)) ∧
 (∀ v'492 : Value,
 (∀ rs'493 : (List Row),
 ((isArray v'492 (stepA A B C D E F G H x0) rs'493) →
 (True ∧
 ((b466 = b466 ∧
 (wholeC true v'492 3)) ∧
 (True ∧
 (b491 = b491 ∧
 (True ∧
 (true = true ∧
 (∀ Q494 : ((List SV) →
 ((List Ch) →
 Prop)),
 ((∀ b495 : Nat,
 (∀ b496 : Nat,
 (b0 = b0 ∧
 (b13 = b13 ∧
 (b2 = b2 ∧
 (((isArray v'11 x0 rs'12) ∧
 (capAx x0)) ∧
 (∀ v'497 : Value,
 (∀ rs'498 : (List Row),
 ((isArray v'497 (stepA A B C D E F G H x0) rs'498) →
 ((b495 = b495 ∧
 (wholeC true v'497 3)) ∧
 (b496 = b496 ∧
 (Q494 [(aV [(Ci A), (Ci B), (Ci C), (Ci D)]), (aV [(Ci A), (Ci B), (Ci C), (Ci D)]), (oV 8 v'11), (aV [(Ci E), (Ci F), (Ci G), (Ci H)]), (aV [(Ci E), (Ci F), (Ci G), (Ci H)]), (uV [(Ao 12 v'497), (Ag [(Ci E), (Ci F), (Ci G), (Ci (stepN A B C D E F G H x0))]), (Ab (stepOk A B C D E F G H x0))]), (uV [(Ao 12 v'497), (Ag [(Ci E), (Ci F), (Ci G), (Ci (stepN A B C D E F G H x0))]), (Ab (stepOk A B C D E F G H x0))]), (oV 12 v'497), (aV [(Ci E), (Ci F), (Ci G), (Ci (stepN A B C D E F G H x0))]), (bV (stepOk A B C D E F G H x0)), (pV 10 b495 0), (pV 11 b496 0), (bV (stepOk A B C D E F G H x0))] [(Ho false rs0), (Hc b0 23 [(Ci A), (Ci B), (Ci C), (Ci D)]), (Hw b1 27 true 3 (Co 0 v0)), (Hc b2 29 [(Ci E), (Ci F), (Ci G), (Ci H)]), (Hw b5 33 true 3 (Co 7 v'9)), (Hc b6 34 [(Ci E), (Ci F), (Ci G), (Ci (stepN A B C D E F G H x0))]), (Ho true rs'8), (Ho true rs'10), (Ho true rs'12), (Hw b13 33 true 3 (Co 8 v'11)), (Hw b495 33 true 3 (Co 12 v'497)), (Hc b496 34 [(Ci E), (Ci F), (Ci G), (Ci (stepN A B C D E F G H x0))]), (Ho true rs'498)])))))))))))) →
 (Q494 [(aV [(Ci A), (Ci B), (Ci C), (Ci D)]), (aV [(Ci A), (Ci B), (Ci C), (Ci D)]), (oV 8 v'11), (aV [(Ci E), (Ci F), (Ci G), (Ci H)]), (aV [(Ci E), (Ci F), (Ci G), (Ci H)]), (uV [(Ao 12 v'492), (Ag [(Ci E), (Ci F), (Ci G), (Ci (stepN A B C D E F G H x0))]), (Ab (stepOk A B C D E F G H x0))]), (uV [(Ao 12 v'492), (Ag [(Ci E), (Ci F), (Ci G), (Ci (stepN A B C D E F G H x0))]), (Ab (stepOk A B C D E F G H x0))]), (oV 12 v'492), (aV [(Ci E), (Ci F), (Ci G), (Ci (stepN A B C D E F G H x0))]), (bV (stepOk A B C D E F G H x0)), (pV 10 b466 0), (pV 11 b491 0), (bV (stepOk A B C D E F G H x0))] [(Ho false rs0), (Hc b0 23 [(Ci A), (Ci B), (Ci C), (Ci D)]), (Hw b1 27 true 3 (Co 0 v0)), (Hc b2 29 [(Ci E), (Ci F), (Ci G), (Ci H)]), (Hw b5 33 true 3 (Co 7 v'9)), (Hc b6 34 [(Ci E), (Ci F), (Ci G), (Ci (stepN A B C D E F G H x0))]), (Ho true rs'8), (Ho true rs'10), (Ho true rs'12), (Hw b13 33 true 3 (Co 8 v'11)), (Hw b466 33 true 3 (Co 12 v'492)), (Hc b491 34 [(Ci E), (Ci F), (Ci G), (Ci (stepN A B C D E F G H x0))]), (Ho true rs'493)])))))))))))))))))))) ∧
 (∀ b499 : Nat,
 (True ∧
 ((True ∧
 ((True ∧
 ((((isArray v'11 x0 rs'12) ∧
 (capAx x0)) ∧
 (∀ v'500 : Value,
 (∀ rs'501 : (List Row),
 ((isArray v'500 (stepA A B C D E F G H x0) rs'501) →
 (True ∧
 (∀ b502 : Nat,
 (True ∧
 ((b502 = b502 ∧
 (wholeC true v'500 3)) ∧
 (True ∧
 (b499 = b499 ∧
 (True ∧
 (true = true ∧
 (∀ Q503 : ((List SV) →
 ((List Ch) →
 Prop)),
 ((∀ b504 : Nat,
 (∀ b505 : Nat,
 (b0 = b0 ∧
 (b13 = b13 ∧
 (b2 = b2 ∧
 (((isArray v'11 x0 rs'12) ∧
 (capAx x0)) ∧
 (∀ v'506 : Value,
 (∀ rs'507 : (List Row),
 ((isArray v'506 (stepA A B C D E F G H x0) rs'507) →
 ((b504 = b504 ∧
 (wholeC true v'506 3)) ∧
 (b505 = b505 ∧
 (Q503 [(aV [(Ci A), (Ci B), (Ci C), (Ci D)]), (aV [(Ci A), (Ci B), (Ci C), (Ci D)]), (oV 8 v'11), (aV [(Ci E), (Ci F), (Ci G), (Ci H)]), (aV [(Ci E), (Ci F), (Ci G), (Ci H)]), (uV [(Ao 12 v'506), (Ag [(Ci E), (Ci F), (Ci G), (Ci (stepN A B C D E F G H x0))]), (Ab (stepOk A B C D E F G H x0))]), (uV [(Ao 12 v'506), (Ag [(Ci E), (Ci F), (Ci G), (Ci (stepN A B C D E F G H x0))]), (Ab (stepOk A B C D E F G H x0))]), (oV 12 v'506), (aV [(Ci E), (Ci F), (Ci G), (Ci (stepN A B C D E F G H x0))]), (bV (stepOk A B C D E F G H x0)), (pV 10 b504 0), (pV 11 b505 0), (bV (stepOk A B C D E F G H x0))] [(Ho false rs0), (Hc b0 23 [(Ci A), (Ci B), (Ci C), (Ci D)]), (Hw b1 27 true 3 (Co 0 v0)), (Hc b2 29 [(Ci E), (Ci F), (Ci G), (Ci H)]), (Hw b5 33 true 3 (Co 7 v'9)), (Hc b6 34 [(Ci E), (Ci F), (Ci G), (Ci (stepN A B C D E F G H x0))]), (Ho true rs'8), (Ho true rs'10), (Ho true rs'12), (Hw b13 33 true 3 (Co 8 v'11)), (Hw b504 33 true 3 (Co 12 v'506)), (Hc b505 34 [(Ci E), (Ci F), (Ci G), (Ci (stepN A B C D E F G H x0))]), (Ho true rs'507)])))))))))))) →
 (Q503 [(aV [(Ci A), (Ci B), (Ci C), (Ci D)]), (aV [(Ci A), (Ci B), (Ci C), (Ci D)]), (oV 8 v'11), (aV [(Ci E), (Ci F), (Ci G), (Ci H)]), (aV [(Ci E), (Ci F), (Ci G), (Ci H)]), (uV [(Ao 12 v'500), (Ag [(Ci E), (Ci F), (Ci G), (Ci (stepN A B C D E F G H x0))]), (Ab (stepOk A B C D E F G H x0))]), (uV [(Ao 12 v'500), (Ag [(Ci E), (Ci F), (Ci G), (Ci (stepN A B C D E F G H x0))]), (Ab (stepOk A B C D E F G H x0))]), (oV 12 v'500), (aV [(Ci E), (Ci F), (Ci G), (Ci (stepN A B C D E F G H x0))]), (bV (stepOk A B C D E F G H x0)), (pV 10 b502 0), (pV 11 b499 0), (bV (stepOk A B C D E F G H x0))] [(Ho false rs0), (Hc b0 23 [(Ci A), (Ci B), (Ci C), (Ci D)]), (Hw b1 27 true 3 (Co 0 v0)), (Hc b2 29 [(Ci E), (Ci F), (Ci G), (Ci H)]), (Hw b5 33 true 3 (Co 7 v'9)), (Hc b6 34 [(Ci E), (Ci F), (Ci G), (Ci (stepN A B C D E F G H x0))]), (Ho true rs'8), (Ho true rs'10), (Ho true rs'12), (Hw b13 33 true 3 (Co 8 v'11)), (Hw b502 33 true 3 (Co 12 v'500)), (Hc b499 34 [(Ci E), (Ci F), (Ci G), (Ci (stepN A B C D E F G H x0))]), (Ho true rs'501)]))))))))))))))) ∧
 (∀ b508 : Nat,
 (True ∧
 (((isArray v'11 x0 rs'12) ∧
 (capAx x0)) ∧
 (∀ v'509 : Value,
 (∀ rs'510 : (List Row),
 ((isArray v'509 (stepA A B C D E F G H x0) rs'510) →
 (True ∧
 ((b508 = b508 ∧
 (wholeC true v'509 3)) ∧
 (True ∧
 (b499 = b499 ∧
 (True ∧
 (true = true ∧
 (∀ Q511 : ((List SV) →
 ((List Ch) →
 Prop)),
 ((∀ b512 : Nat,
 (∀ b513 : Nat,
 (b0 = b0 ∧
 (b13 = b13 ∧
 (b2 = b2 ∧
 (((isArray v'11 x0 rs'12) ∧
 (capAx x0)) ∧
 (∀ v'514 : Value,
 (∀ rs'515 : (List Row),
 ((isArray v'514 (stepA A B C D E F G H x0) rs'515) →
 ((b512 = b512 ∧
 (wholeC true v'514 3)) ∧
 (b513 = b513 ∧
 (Q511 [(aV [(Ci A), (Ci B), (Ci C), (Ci D)]), (aV [(Ci A), (Ci B), (Ci C), (Ci D)]), (oV 8 v'11), (aV [(Ci E), (Ci F), (Ci G), (Ci H)]), (aV [(Ci E), (Ci F), (Ci G), (Ci H)]), (uV [(Ao 12 v'514), (Ag [(Ci E), (Ci F), (Ci G), (Ci (stepN A B C D E F G H x0))]), (Ab (stepOk A B C D E F G H x0))]), (uV [(Ao 12 v'514), (Ag [(Ci E), (Ci F), (Ci G), (Ci (stepN A B C D E F G H x0))]), (Ab (stepOk A B C D E F G H x0))]), (oV 12 v'514), (aV [(Ci E), (Ci F), (Ci G), (Ci (stepN A B C D E F G H x0))]), (bV (stepOk A B C D E F G H x0)), (pV 10 b512 0), (pV 11 b513 0), (bV (stepOk A B C D E F G H x0))] [(Ho false rs0), (Hc b0 23 [(Ci A), (Ci B), (Ci C), (Ci D)]), (Hw b1 27 true 3 (Co 0 v0)), (Hc b2 29 [(Ci E), (Ci F), (Ci G), (Ci H)]), (Hw b5 33 true 3 (Co 7 v'9)), (Hc b6 34 [(Ci E), (Ci F), (Ci G), (Ci (stepN A B C D E F G H x0))]), (Ho true rs'8), (Ho true rs'10), (Ho true rs'12), (Hw b13 33 true 3 (Co 8 v'11)), (Hw b512 33 true 3 (Co 12 v'514)), (Hc b513 34 [(Ci E), (Ci F), (Ci G), (Ci (stepN A B C D E F G H x0))]), (Ho true rs'515)])))))))))))) →
 (Q511 [(aV [(Ci A), (Ci B), (Ci C), (Ci D)]), (aV [(Ci A), (Ci B), (Ci C), (Ci D)]), (oV 8 v'11), (aV [(Ci E), (Ci F), (Ci G), (Ci H)]), (aV [(Ci E), (Ci F), (Ci G), (Ci H)]), (uV [(Ao 12 v'509), (Ag [(Ci E), (Ci F), (Ci G), (Ci (stepN A B C D E F G H x0))]), (Ab (stepOk A B C D E F G H x0))]), (uV [(Ao 12 v'509), (Ag [(Ci E), (Ci F), (Ci G), (Ci (stepN A B C D E F G H x0))]), (Ab (stepOk A B C D E F G H x0))]), (oV 12 v'509), (aV [(Ci E), (Ci F), (Ci G), (Ci (stepN A B C D E F G H x0))]), (bV (stepOk A B C D E F G H x0)), (pV 10 b508 0), (pV 11 b499 0), (bV (stepOk A B C D E F G H x0))] [(Ho false rs0), (Hc b0 23 [(Ci A), (Ci B), (Ci C), (Ci D)]), (Hw b1 27 true 3 (Co 0 v0)), (Hc b2 29 [(Ci E), (Ci F), (Ci G), (Ci H)]), (Hw b5 33 true 3 (Co 7 v'9)), (Hc b6 34 [(Ci E), (Ci F), (Ci G), (Ci (stepN A B C D E F G H x0))]), (Ho true rs'8), (Ho true rs'10), (Ho true rs'12), (Hw b13 33 true 3 (Co 8 v'11)), (Hw b508 33 true 3 (Co 12 v'509)), (Hc b499 34 [(Ci E), (Ci F), (Ci G), (Ci (stepN A B C D E F G H x0))]), (Ho true rs'510)]))))))))))))))))) ∧
 (∀ b516 : Nat,
 (True ∧
 (True ∧
 (((isArray v'11 x0 rs'12) ∧
 (capAx x0)) ∧
 (∀ v'517 : Value,
 (∀ rs'518 : (List Row),
 ((isArray v'517 (stepA A B C D E F G H x0) rs'518) →
 (True ∧
 ((b516 = b516 ∧
 (wholeC true v'517 3)) ∧
 (True ∧
 (b499 = b499 ∧
 (True ∧
 (true = true ∧
 (∀ Q519 : ((List SV) →
 ((List Ch) →
 Prop)),
 ((∀ b520 : Nat,
 (∀ b521 : Nat,
 (b0 = b0 ∧
 (b13 = b13 ∧
 (b2 = b2 ∧
 (((isArray v'11 x0 rs'12) ∧
 (capAx x0)) ∧
 (∀ v'522 : Value,
 (∀ rs'523 : (List Row),
 ((isArray v'522 (stepA A B C D E F G H x0) rs'523) →
 ((b520 = b520 ∧
 (wholeC true v'522 3)) ∧
 (b521 = b521 ∧
 (Q519 [(aV [(Ci A), (Ci B), (Ci C), (Ci D)]), (aV [(Ci A), (Ci B), (Ci C), (Ci D)]), (oV 8 v'11), (aV [(Ci E), (Ci F), (Ci G), (Ci H)]), (aV [(Ci E), (Ci F), (Ci G), (Ci H)]), (uV [(Ao 12 v'522), (Ag [(Ci E), (Ci F), (Ci G), (Ci (stepN A B C D E F G H x0))]), (Ab (stepOk A B C D E F G H x0))]), (uV [(Ao 12 v'522), (Ag [(Ci E), (Ci F), (Ci G), (Ci (stepN A B C D E F G H x0))]), (Ab (stepOk A B C D E F G H x0))]), (oV 12 v'522), (aV [(Ci E), (Ci F), (Ci G), (Ci (stepN A B C D E F G H x0))]), (bV (stepOk A B C D E F G H x0)), (pV 10 b520 0), (pV 11 b521 0), (bV (stepOk A B C D E F G H x0))] [(Ho false rs0), (Hc b0 23 [(Ci A), (Ci B), (Ci C), (Ci D)]), (Hw b1 27 true 3 (Co 0 v0)), (Hc b2 29 [(Ci E), (Ci F), (Ci G), (Ci H)]), (Hw b5 33 true 3 (Co 7 v'9)), (Hc b6 34 [(Ci E), (Ci F), (Ci G), (Ci (stepN A B C D E F G H x0))]), (Ho true rs'8), (Ho true rs'10), (Ho true rs'12), (Hw b13 33 true 3 (Co 8 v'11)), (Hw b520 33 true 3 (Co 12 v'522)), (Hc b521 34 [(Ci E), (Ci F), (Ci G), (Ci (stepN A B C D E F G H x0))]), (Ho true rs'523)])))))))))))) →
 (Q519 [(aV [(Ci A), (Ci B), (Ci C), (Ci D)]), (aV [(Ci A), (Ci B), (Ci C), (Ci D)]), (oV 8 v'11), (aV [(Ci E), (Ci F), (Ci G), (Ci H)]), (aV [(Ci E), (Ci F), (Ci G), (Ci H)]), (uV [(Ao 12 v'517), (Ag [(Ci E), (Ci F), (Ci G), (Ci (stepN A B C D E F G H x0))]), (Ab (stepOk A B C D E F G H x0))]), (uV [(Ao 12 v'517), (Ag [(Ci E), (Ci F), (Ci G), (Ci (stepN A B C D E F G H x0))]), (Ab (stepOk A B C D E F G H x0))]), (oV 12 v'517), (aV [(Ci E), (Ci F), (Ci G), (Ci (stepN A B C D E F G H x0))]), (bV (stepOk A B C D E F G H x0)), (pV 10 b516 0), (pV 11 b499 0), (bV (stepOk A B C D E F G H x0))] [(Ho false rs0), (Hc b0 23 [(Ci A), (Ci B), (Ci C), (Ci D)]), (Hw b1 27 true 3 (Co 0 v0)), (Hc b2 29 [(Ci E), (Ci F), (Ci G), (Ci H)]), (Hw b5 33 true 3 (Co 7 v'9)), (Hc b6 34 [(Ci E), (Ci F), (Ci G), (Ci (stepN A B C D E F G H x0))]), (Ho true rs'8), (Ho true rs'10), (Ho true rs'12), (Hw b13 33 true 3 (Co 8 v'11)), (Hw b516 33 true 3 (Co 12 v'517)), (Hc b499 34 [(Ci E), (Ci F), (Ci G), (Ci (stepN A B C D E F G H x0))]), (Ho true rs'518)])))))))))))))))))) ∧
 (∀ b524 : Nat,
 (True ∧
 (True ∧
 (True ∧
 (((isArray v'11 x0 rs'12) ∧
 (capAx x0)) ∧
 (∀ v'525 : Value,
 (∀ rs'526 : (List Row),
 ((isArray v'525 (stepA A B C D E F G H x0) rs'526) →
 (True ∧
 ((b524 = b524 ∧
 (wholeC true v'525 3)) ∧
 (True ∧
 (b499 = b499 ∧
 (True ∧
 (true = true ∧
 (∀ Q527 : ((List SV) →
 ((List Ch) →
 Prop)),
 ((∀ b528 : Nat,
 (∀ b529 : Nat,
 (b0 = b0 ∧
 (b13 = b13 ∧
 (b2 = b2 ∧
 (((isArray v'11 x0 rs'12) ∧
 (capAx x0)) ∧
 (∀ v'530 : Value,
 (∀ rs'531 : (List Row),
 ((isArray v'530 (stepA A B C D E F G H x0) rs'531) →
 ((b528 = b528 ∧
 (wholeC true v'530 3)) ∧
 (b529 = b529 ∧
 (Q527 [(aV [(Ci A), (Ci B), (Ci C), (Ci D)]), (aV [(Ci A), (Ci B), (Ci C), (Ci D)]), (oV 8 v'11), (aV [(Ci E), (Ci F), (Ci G), (Ci H)]), (aV [(Ci E), (Ci F), (Ci G), (Ci H)]), (uV [(Ao 12 v'530), (Ag [(Ci E), (Ci F), (Ci G), (Ci (stepN A B C D E F G H x0))]), (Ab (stepOk A B C D E F G H x0))]), (uV [(Ao 12 v'530), (Ag [(Ci E), (Ci F), (Ci G), (Ci (stepN A B C D E F G H x0))]), (Ab (stepOk A B C D E F G H x0))]), (oV 12 v'530), (aV [(Ci E), (Ci F), (Ci G), (Ci (stepN A B C D E F G H x0))]), (bV (stepOk A B C D E F G H x0)), (pV 10 b528 0), (pV 11 b529 0), (bV (stepOk A B C D E F G H x0))] [(Ho false rs0), (Hc b0 23 [(Ci A), (Ci B), (Ci C), (Ci D)]), (Hw b1 27 true 3 (Co 0 v0)), (Hc b2 29 [(Ci E), (Ci F), (Ci G), (Ci H)]), (Hw b5 33 true 3 (Co 7 v'9)), (Hc b6 34 [(Ci E), (Ci F), (Ci G), (Ci (stepN A B C D E F G H x0))]), (Ho true rs'8), (Ho true rs'10), (Ho true rs'12), (Hw b13 33 true 3 (Co 8 v'11)), (Hw b528 33 true 3 (Co 12 v'530)), (Hc b529 34 [(Ci E), (Ci F), (Ci G), (Ci (stepN A B C D E F G H x0))]), (Ho true rs'531)])))))))))))) →
 (Q527 [(aV [(Ci A), (Ci B), (Ci C), (Ci D)]), (aV [(Ci A), (Ci B), (Ci C), (Ci D)]), (oV 8 v'11), (aV [(Ci E), (Ci F), (Ci G), (Ci H)]), (aV [(Ci E), (Ci F), (Ci G), (Ci H)]), (uV [(Ao 12 v'525), (Ag [(Ci E), (Ci F), (Ci G), (Ci (stepN A B C D E F G H x0))]), (Ab (stepOk A B C D E F G H x0))]), (uV [(Ao 12 v'525), (Ag [(Ci E), (Ci F), (Ci G), (Ci (stepN A B C D E F G H x0))]), (Ab (stepOk A B C D E F G H x0))]), (oV 12 v'525), (aV [(Ci E), (Ci F), (Ci G), (Ci (stepN A B C D E F G H x0))]), (bV (stepOk A B C D E F G H x0)), (pV 10 b524 0), (pV 11 b499 0), (bV (stepOk A B C D E F G H x0))] [(Ho false rs0), (Hc b0 23 [(Ci A), (Ci B), (Ci C), (Ci D)]), (Hw b1 27 true 3 (Co 0 v0)), (Hc b2 29 [(Ci E), (Ci F), (Ci G), (Ci H)]), (Hw b5 33 true 3 (Co 7 v'9)), (Hc b6 34 [(Ci E), (Ci F), (Ci G), (Ci (stepN A B C D E F G H x0))]), (Ho true rs'8), (Ho true rs'10), (Ho true rs'12), (Hw b13 33 true 3 (Co 8 v'11)), (Hw b524 33 true 3 (Co 12 v'525)), (Hc b499 34 [(Ci E), (Ci F), (Ci G), (Ci (stepN A B C D E F G H x0))]), (Ho true rs'526)])))))))))))))))))))))))))))))))))))))))))))))))) ∧
 (b0 = b0 ∧
 (b1 = b1 ∧
 (b2 = b2 ∧
 ((True ∧
 ((((isArray v0 x0 rs0) ∧
 (capAx x0)) ∧
 (∀ v'532 : Value,
 (∀ rs'533 : (List Row),
 ((isArray v'532 x0 rs'533) →
 (True ∧
 ((True ∧
 ((((isArray v'532 x0 rs'533) ∧
 (capAx x0)) ∧
 (∀ v'534 : Value,
 (∀ rs'535 : (List Row),
 ((isArray v'534 (stepA A B C D E F G H x0) rs'535) →
 (True ∧
 ((∀ b536 : Nat,
 (True ∧
 (∀ b537 : Nat,
 (True ∧
 ((b536 = b536 ∧
 (wholeC true v'534 3)) ∧
 (True ∧
 (b537 = b537 ∧
 (True ∧
 (true = true ∧
 (∀ Q538 : ((List SV) →
 ((List Ch) →
 Prop)),
 ((∀ b539 : Nat,
 (∀ b540 : Nat,
 (b0 = b0 ∧
 (b1 = b1 ∧
 (((isArray v0 x0 rs0) ∧
 (capAx x0)) ∧
 (∀ v'541 : Value,
 (∀ rs'542 : (List Row),
 ((isArray v'541 x0 rs'542) →
 (b2 = b2 ∧
 (((isArray v'541 x0 rs'542) ∧
 (capAx x0)) ∧
 (∀ v'543 : Value,
 (∀ rs'544 : (List Row),
 ((isArray v'543 (stepA A B C D E F G H x0) rs'544) →
 ((b539 = b539 ∧
 (wholeC true v'543 3)) ∧
 (b540 = b540 ∧
 (Q538 [(aV [(Ci A), (Ci B), (Ci C), (Ci D)]), (aV [(Ci A), (Ci B), (Ci C), (Ci D)]), (oV 0 v0), (oV 6 v'541), (aV [(Ci E), (Ci F), (Ci G), (Ci H)]), (aV [(Ci E), (Ci F), (Ci G), (Ci H)]), (uV [(Ao 7 v'543), (Ag [(Ci E), (Ci F), (Ci G), (Ci (stepN A B C D E F G H x0))]), (Ab (stepOk A B C D E F G H x0))]), (uV [(Ao 7 v'543), (Ag [(Ci E), (Ci F), (Ci G), (Ci (stepN A B C D E F G H x0))]), (Ab (stepOk A B C D E F G H x0))]), (oV 7 v'543), (aV [(Ci E), (Ci F), (Ci G), (Ci (stepN A B C D E F G H x0))]), (bV (stepOk A B C D E F G H x0)), (pV 4 b539 0), (pV 5 b540 0), (bV (stepOk A B C D E F G H x0))] [(Ho false rs0), (Hc b0 23 [(Ci A), (Ci B), (Ci C), (Ci D)]), (Hw b1 27 true 3 (Co 0 v0)), (Hc b2 29 [(Ci E), (Ci F), (Ci G), (Ci H)]), (Hw b539 33 true 3 (Co 7 v'543)), (Hc b540 34 [(Ci E), (Ci F), (Ci G), (Ci (stepN A B C D E F G H x0))]), (Ho true rs'542), (Ho true rs'544)])))))))))))))))) →
 (Q538 [(aV [(Ci A), (Ci B), (Ci C), (Ci D)]), (aV [(Ci A), (Ci B), (Ci C), (Ci D)]), (oV 0 v0), (oV 6 v'532), (aV [(Ci E), (Ci F), (Ci G), (Ci H)]), (aV [(Ci E), (Ci F), (Ci G), (Ci H)]), (uV [(Ao 7 v'534), (Ag [(Ci E), (Ci F), (Ci G), (Ci (stepN A B C D E F G H x0))]), (Ab (stepOk A B C D E F G H x0))]), (uV [(Ao 7 v'534), (Ag [(Ci E), (Ci F), (Ci G), (Ci (stepN A B C D E F G H x0))]), (Ab (stepOk A B C D E F G H x0))]), (oV 7 v'534), (aV [(Ci E), (Ci F), (Ci G), (Ci (stepN A B C D E F G H x0))]), (bV (stepOk A B C D E F G H x0)), (pV 4 b536 0), (pV 5 b537 0), (bV (stepOk A B C D E F G H x0))] [(Ho false rs0), (Hc b0 23 [(Ci A), (Ci B), (Ci C), (Ci D)]), (Hw b1 27 true 3 (Co 0 v0)), (Hc b2 29 [(Ci E), (Ci F), (Ci G), (Ci H)]), (Hw b536 33 true 3 (Co 7 v'534)), (Hc b537 34 [(Ci E), (Ci F), (Ci G), (Ci (stepN A B C D E F G H x0))]), (Ho true rs'533), (Ho true rs'535)])))))))))))) ∧
 (∀ b545 : Nat,
 (True ∧
 (∀ b546 : Nat,
 (True ∧
 ((b546 = b546 ∧
 (wholeC true v'534 3)) ∧
 (True ∧
 (b545 = b545 ∧
 (True ∧
 (true = true ∧
 (∀ Q547 : ((List SV) →
 ((List Ch) →
 Prop)),
 ((∀ b548 : Nat,
 (∀ b549 : Nat,
 (b0 = b0 ∧
 (b1 = b1 ∧
 (((isArray v0 x0 rs0) ∧
 (capAx x0)) ∧
 (∀ v'550 : Value,
 (∀ rs'551 : (List Row),
 ((isArray v'550 x0 rs'551) →
 (b2 = b2 ∧
 (((isArray v'550 x0 rs'551) ∧
 (capAx x0)) ∧
 (∀ v'552 : Value,
 (∀ rs'553 : (List Row),
 ((isArray v'552 (stepA A B C D E F G H x0) rs'553) →
 ((b548 = b548 ∧
 (wholeC true v'552 3)) ∧
 (b549 = b549 ∧
 (Q547 [(aV [(Ci A), (Ci B), (Ci C), (Ci D)]), (aV [(Ci A), (Ci B), (Ci C), (Ci D)]), (oV 0 v0), (oV 6 v'550), (aV [(Ci E), (Ci F), (Ci G), (Ci H)]), (aV [(Ci E), (Ci F), (Ci G), (Ci H)]), (uV [(Ao 7 v'552), (Ag [(Ci E), (Ci F), (Ci G), (Ci (stepN A B C D E F G H x0))]), (Ab (stepOk A B C D E F G H x0))]), (uV [(Ao 7 v'552), (Ag [(Ci E), (Ci F), (Ci G), (Ci (stepN A B C D E F G H x0))]), (Ab (stepOk A B C D E F G H x0))]), (oV 7 v'552), (aV [(Ci E), (Ci F), (Ci G), (Ci (stepN A B C D E F G H x0))]), (bV (stepOk A B C D E F G H x0)), (pV 4 b548 0), (pV 5 b549 0), (bV (stepOk A B C D E F G H x0))] [(Ho false rs0), (Hc b0 23 [(Ci A), (Ci B), (Ci C), (Ci D)]), (Hw b1 27 true 3 (Co 0 v0)), (Hc b2 29 [(Ci E), (Ci F), (Ci G), (Ci H)]), (Hw b548 33 true 3 (Co 7 v'552)), (Hc b549 34 [(Ci E), (Ci F), (Ci G), (Ci (stepN A B C D E F G H x0))]), (Ho true rs'551), (Ho true rs'553)])))))))))))))))) →
 (Q547 [(aV [(Ci A), (Ci B), (Ci C), (Ci D)]), (aV [(Ci A), (Ci B), (Ci C), (Ci D)]), (oV 0 v0), (oV 6 v'532), (aV [(Ci E), (Ci F), (Ci G), (Ci H)]), (aV [(Ci E), (Ci F), (Ci G), (Ci H)]), (uV [(Ao 7 v'534), (Ag [(Ci E), (Ci F), (Ci G), (Ci (stepN A B C D E F G H x0))]), (Ab (stepOk A B C D E F G H x0))]), (uV [(Ao 7 v'534), (Ag [(Ci E), (Ci F), (Ci G), (Ci (stepN A B C D E F G H x0))]), (Ab (stepOk A B C D E F G H x0))]), (oV 7 v'534), (aV [(Ci E), (Ci F), (Ci G), (Ci (stepN A B C D E F G H x0))]), (bV (stepOk A B C D E F G H x0)), (pV 4 b546 0), (pV 5 b545 0), (bV (stepOk A B C D E F G H x0))] [(Ho false rs0), (Hc b0 23 [(Ci A), (Ci B), (Ci C), (Ci D)]), (Hw b1 27 true 3 (Co 0 v0)), (Hc b2 29 [(Ci E), (Ci F), (Ci G), (Ci H)]), (Hw b546 33 true 3 (Co 7 v'534)), (Hc b545 34 [(Ci E), (Ci F), (Ci G), (Ci (stepN A B C D E F G H x0))]), (Ho true rs'533), (Ho true rs'535)])))))))))))))))))) ∧
 ((∀ b554 : Nat,
 (True ∧
 ((((isArray v'532 x0 rs'533) ∧
 (capAx x0)) ∧
 (∀ v'555 : Value,
 (∀ rs'556 : (List Row),
 ((isArray v'555 (stepA A B C D E F G H x0) rs'556) →
 (True ∧
 (∀ b557 : Nat,
 (True ∧
 ((b554 = b554 ∧
 (wholeC true v'555 3)) ∧
 (True ∧
 (b557 = b557 ∧
 (True ∧
 (true = true ∧
 (∀ Q558 : ((List SV) →
 ((List Ch) →
 Prop)),
 ((∀ b559 : Nat,
 (∀ b560 : Nat,
 (b0 = b0 ∧
 (b1 = b1 ∧
 (((isArray v0 x0 rs0) ∧
 (capAx x0)) ∧
 (∀ v'561 : Value,
 (∀ rs'562 : (List Row),
 ((isArray v'561 x0 rs'562) →
 (b2 = b2 ∧
 (((isArray v'561 x0 rs'562) ∧
 (capAx x0)) ∧
 (∀ v'563 : Value,
 (∀ rs'564 : (List Row),
 ((isArray v'563 (stepA A B C D E F G H x0) rs'564) →
 ((b559 = b559 ∧
 (wholeC true v'563 3)) ∧
 (b560 = b560 ∧
 (Q558 [(aV [(Ci A), (Ci B), (Ci C), (Ci D)]), (aV [(Ci A), (Ci B), (Ci C), (Ci D)]), (oV 0 v0), (oV 6 v'561), (aV [(Ci E), (Ci F), (Ci G), (Ci H)]), (aV [(Ci E), (Ci F), (Ci G), (Ci H)]), (uV [(Ao 7 v'563), (Ag [(Ci E), (Ci F), (Ci G), (Ci (stepN A B C D E F G H x0))]), (Ab (stepOk A B C D E F G H x0))]), (uV [(Ao 7 v'563), (Ag [(Ci E), (Ci F), (Ci G), (Ci (stepN A B C D E F G H x0))]), (Ab (stepOk A B C D E F G H x0))]), (oV 7 v'563), (aV [(Ci E), (Ci F), (Ci G), (Ci (stepN A B C D E F G H x0))]), (bV (stepOk A B C D E F G H x0)), (pV 4 b559 0), (pV 5 b560 0), (bV (stepOk A B C D E F G H x0))] [(Ho false rs0), (Hc b0 23 [(Ci A), (Ci B), (Ci C), (Ci D)]), (Hw b1 27 true 3 (Co 0 v0)), (Hc b2 29 [(Ci E), (Ci F), (Ci G), (Ci H)]), (Hw b559 33 true 3 (Co 7 v'563)), (Hc b560 34 [(Ci E), (Ci F), (Ci G), (Ci (stepN A B C D E F G H x0))]), (Ho true rs'562), (Ho true rs'564)])))))))))))))))) →
 (Q558 [(aV [(Ci A), (Ci B), (Ci C), (Ci D)]), (aV [(Ci A), (Ci B), (Ci C), (Ci D)]), (oV 0 v0), (oV 6 v'532), (aV [(Ci E), (Ci F), (Ci G), (Ci H)]), (aV [(Ci E), (Ci F), (Ci G), (Ci H)]), (uV [(Ao 7 v'555), (Ag [(Ci E), (Ci F), (Ci G), (Ci (stepN A B C D E F G H x0))]), (Ab (stepOk A B C D E F G H x0))]), (uV [(Ao 7 v'555), (Ag [(Ci E), (Ci F), (Ci G), (Ci (stepN A B C D E F G H x0))]), (Ab (stepOk A B C D E F G H x0))]), (oV 7 v'555), (aV [(Ci E), (Ci F), (Ci G), (Ci (stepN A B C D E F G H x0))]), (bV (stepOk A B C D E F G H x0)), (pV 4 b554 0), (pV 5 b557 0), (bV (stepOk A B C D E F G H x0))] [(Ho false rs0), (Hc b0 23 [(Ci A), (Ci B), (Ci C), (Ci D)]), (Hw b1 27 true 3 (Co 0 v0)), (Hc b2 29 [(Ci E), (Ci F), (Ci G), (Ci H)]), (Hw b554 33 true 3 (Co 7 v'555)), (Hc b557 34 [(Ci E), (Ci F), (Ci G), (Ci (stepN A B C D E F G H x0))]), (Ho true rs'533), (Ho true rs'556)]))))))))))))))) ∧
 (∀ b565 : Nat,
 (True ∧
 (((isArray v'532 x0 rs'533) ∧
 (capAx x0)) ∧
 (∀ v'566 : Value,
 (∀ rs'567 : (List Row),
 ((isArray v'566 (stepA A B C D E F G H x0) rs'567) →
 (True ∧
 ((b554 = b554 ∧
 (wholeC true v'566 3)) ∧
 (True ∧
 (b565 = b565 ∧
 (True ∧
 (true = true ∧
 (∀ Q568 : ((List SV) →
 ((List Ch) →
 Prop)),
 ((∀ b569 : Nat,
 (∀ b570 : Nat,
 (b0 = b0 ∧
 (b1 = b1 ∧
 (((isArray v0 x0 rs0) ∧
 (capAx x0)) ∧
 (∀ v'571 : Value,
 (∀ rs'572 : (List Row),
 ((isArray v'571 x0 rs'572) →
 (b2 = b2 ∧
 (((isArray v'571 x0 rs'572) ∧
 (capAx x0)) ∧
 (∀ v'573 : Value,
 (∀ rs'574 : (List Row),
 ((isArray v'573 (stepA A B C D E F G H x0) rs'574) →
 ((b569 = b569 ∧
 (wholeC true v'573 3)) ∧
 (b570 = b570 ∧
 (Q568 [(aV [(Ci A), (Ci B), (Ci C), (Ci D)]), (aV [(Ci A), (Ci B), (Ci C), (Ci D)]), (oV 0 v0), (oV 6 v'571), (aV [(Ci E), (Ci F), (Ci G), (Ci H)]), (aV [(Ci E), (Ci F), (Ci G), (Ci H)]), (uV [(Ao 7 v'573), (Ag [(Ci E), (Ci F), (Ci G), (Ci (stepN A B C D E F G H x0))]), (Ab (stepOk A B C D E F G H x0))]), (uV [(Ao 7 v'573), (Ag [(Ci E), (Ci F), (Ci G), (Ci (stepN A B C D E F G H x0))]), (Ab (stepOk A B C D E F G H x0))]), (oV 7 v'573), (aV [(Ci E), (Ci F), (Ci G), (Ci (stepN A B C D E F G H x0))]), (bV (stepOk A B C D E F G H x0)), (pV 4 b569 0), (pV 5 b570 0), (bV (stepOk A B C D E F G H x0))] [(Ho false rs0), (Hc b0 23 [(Ci A), (Ci B), (Ci C), (Ci D)]), (Hw b1 27 true 3 (Co 0 v0)), (Hc b2 29 [(Ci E), (Ci F), (Ci G), (Ci H)]), (Hw b569 33 true 3 (Co 7 v'573)), (Hc b570 34 [(Ci E), (Ci F), (Ci G), (Ci (stepN A B C D E F G H x0))]), (Ho true rs'572), (Ho true rs'574)])))))))))))))))) →
 (Q568 [(aV [(Ci A), (Ci B), (Ci C), (Ci D)]), (aV [(Ci A), (Ci B), (Ci C), (Ci D)]), (oV 0 v0), (oV 6 v'532), (aV [(Ci E), (Ci F), (Ci G), (Ci H)]), (aV [(Ci E), (Ci F), (Ci G), (Ci H)]), (uV [(Ao 7 v'566), (Ag [(Ci E), (Ci F), (Ci G), (Ci (stepN A B C D E F G H x0))]), (Ab (stepOk A B C D E F G H x0))]), (uV [(Ao 7 v'566), (Ag [(Ci E), (Ci F), (Ci G), (Ci (stepN A B C D E F G H x0))]), (Ab (stepOk A B C D E F G H x0))]), (oV 7 v'566), (aV [(Ci E), (Ci F), (Ci G), (Ci (stepN A B C D E F G H x0))]), (bV (stepOk A B C D E F G H x0)), (pV 4 b554 0), (pV 5 b565 0), (bV (stepOk A B C D E F G H x0))] [(Ho false rs0), (Hc b0 23 [(Ci A), (Ci B), (Ci C), (Ci D)]), (Hw b1 27 true 3 (Co 0 v0)), (Hc b2 29 [(Ci E), (Ci F), (Ci G), (Ci H)]), (Hw b554 33 true 3 (Co 7 v'566)), (Hc b565 34 [(Ci E), (Ci F), (Ci G), (Ci (stepN A B C D E F G H x0))]), (Ho true rs'533), (Ho true rs'567)])))))))))))))))))) ∧
 (∀ b575 : Nat,
 (True ∧
 ((((isArray v'532 x0 rs'533) ∧
 (capAx x0)) ∧
 (∀ v'576 : Value,
 (∀ rs'577 : (List Row),
 ((isArray v'576 (stepA A B C D E F G H x0) rs'577) →
 (True ∧
 (∀ b578 : Nat,
 (True ∧
 ((b578 = b578 ∧
 (wholeC true v'576 3)) ∧
 (True ∧
 (b575 = b575 ∧
 (True ∧
 (true = true ∧
 (∀ Q579 : ((List SV) →
 ((List Ch) →
 Prop)),
 ((∀ b580 : Nat,
 (∀ b581 : Nat,
 (b0 = b0 ∧
 (b1 = b1 ∧
 (((isArray v0 x0 rs0) ∧
 (capAx x0)) ∧
 (∀ v'582 : Value,
 (∀ rs'583 : (List Row),
 ((isArray v'582 x0 rs'583) →
 (b2 = b2 ∧
 (((isArray v'582 x0 rs'583) ∧
 (capAx x0)) ∧
 (∀ v'584 : Value,
 (∀ rs'585 : (List Row),
 ((isArray v'584 (stepA A B C D E F G H x0) rs'585) →
 ((b580 = b580 ∧
 (wholeC true v'584 3)) ∧
 (b581 = b581 ∧
 (Q579 [(aV [(Ci A), (Ci B), (Ci C), (Ci D)]), (aV [(Ci A), (Ci B), (Ci C), (Ci D)]), (oV 0 v0), (oV 6 v'582), (aV [(Ci E), (Ci F), (Ci G), (Ci H)]), (aV [(Ci E), (Ci F), (Ci G), (Ci H)]), (uV [(Ao 7 v'584), (Ag [(Ci E), (Ci F), (Ci G), (Ci (stepN A B C D E F G H x0))]), (Ab (stepOk A B C D E F G H x0))]), (uV [(Ao 7 v'584), (Ag [(Ci E), (Ci F), (Ci G), (Ci (stepN A B C D E F G H x0))]), (Ab (stepOk A B C D E F G H x0))]), (oV 7 v'584), (aV [(Ci E), (Ci F), (Ci G), (Ci (stepN A B C D E F G H x0))]), (bV (stepOk A B C D E F G H x0)), (pV 4 b580 0), (pV 5 b581 0), (bV (stepOk A B C D E F G H x0))] [(Ho false rs0), (Hc b0 23 [(Ci A), (Ci B), (Ci C), (Ci D)]), (Hw b1 27 true 3 (Co 0 v0)), (Hc b2 29 [(Ci E), (Ci F), (Ci G), (Ci H)]), (Hw b580 33 true 3 (Co 7 v'584)), (Hc b581 34 [(Ci E), (Ci F), (Ci G), (Ci (stepN A B C D E F G H x0))]), (Ho true rs'583), (Ho true rs'585)])))))))))))))))) →
 (Q579 [(aV [(Ci A), (Ci B), (Ci C), (Ci D)]), (aV [(Ci A), (Ci B), (Ci C), (Ci D)]), (oV 0 v0), (oV 6 v'532), (aV [(Ci E), (Ci F), (Ci G), (Ci H)]), (aV [(Ci E), (Ci F), (Ci G), (Ci H)]), (uV [(Ao 7 v'576), (Ag [(Ci E), (Ci F), (Ci G), (Ci (stepN A B C D E F G H x0))]), (Ab (stepOk A B C D E F G H x0))]), (uV [(Ao 7 v'576), (Ag [(Ci E), (Ci F), (Ci G), (Ci (stepN A B C D E F G H x0))]), (Ab (stepOk A B C D E F G H x0))]), (oV 7 v'576), (aV [(Ci E), (Ci F), (Ci G), (Ci (stepN A B C D E F G H x0))]), (bV (stepOk A B C D E F G H x0)), (pV 4 b578 0), (pV 5 b575 0), (bV (stepOk A B C D E F G H x0))] [(Ho false rs0), (Hc b0 23 [(Ci A), (Ci B), (Ci C), (Ci D)]), (Hw b1 27 true 3 (Co 0 v0)), (Hc b2 29 [(Ci E), (Ci F), (Ci G), (Ci H)]), (Hw b578 33 true 3 (Co 7 v'576)), (Hc b575 34 [(Ci E), (Ci F), (Ci G), (Ci (stepN A B C D E F G H x0))]), (Ho true rs'533), (Ho true rs'577)]))))))))))))))) ∧
 (∀ b586 : Nat,
 (True ∧
 (((isArray v'532 x0 rs'533) ∧
 (capAx x0)) ∧
 (∀ v'587 : Value,
 (∀ rs'588 : (List Row),
 ((isArray v'587 (stepA A B C D E F G H x0) rs'588) →
 (True ∧
 ((b586 = b586 ∧
 (wholeC true v'587 3)) ∧
 (True ∧
 (b575 = b575 ∧
 (True ∧
 (true = true ∧
 (∀ Q589 : ((List SV) →
 ((List Ch) →
 Prop)),
 ((∀ b590 : Nat,
 (∀ b591 : Nat,
 (b0 = b0 ∧
 (b1 = b1 ∧
 (((isArray v0 x0 rs0) ∧
 (capAx x0)) ∧
 (∀ v'592 : Value,
 (∀ rs'593 : (List Row),
 ((isArray v'592 x0 rs'593) →
 (b2 = b2 ∧
 (((isArray v'592 x0 rs'593) ∧
 (capAx x0)) ∧
 (∀ v'594 : Value,
 (∀ rs'595 : (List Row),
 ((isArray v'594 (stepA A B C D E F G H x0) rs'595) →
 ((b590 = b590 ∧
 (wholeC true v'594 3)) ∧
 (b591 = b591 ∧
 (Q589 [(aV [(Ci A), (Ci B), (Ci C), (Ci D)]), (aV [(Ci A), (Ci B), (Ci C), (Ci D)]), (oV 0 v0), (oV 6 v'592), (aV [(Ci E), (Ci F), (Ci G), (Ci H)]), (aV [(Ci E), (Ci F), (Ci G), (Ci H)]), (uV [(Ao 7 v'594), (Ag [(Ci E), (Ci F), (Ci G), (Ci (stepN A B C D E F G H x0))]), (Ab (stepOk A B C D E F G H x0))]), (uV [(Ao 7 v'594), (Ag [(Ci E), (Ci F), (Ci G), (Ci (stepN A B C D E F G H x0))]), (Ab (stepOk A B C D E F G H x0))]), (oV 7 v'594), (aV [(Ci E), (Ci F), (Ci G), (Ci (stepN A B C D E F G H x0))]), (bV (stepOk A B C D E F G H x0)), (pV 4 b590 0), (pV 5 b591 0), (bV (stepOk A B C D E F G H x0))] [(Ho false rs0), (Hc b0 23 [(Ci A), (Ci B), (Ci C), (Ci D)]), (Hw b1 27 true 3 (Co 0 v0)), (Hc b2 29 [(Ci E), (Ci F), (Ci G), (Ci H)]), (Hw b590 33 true 3 (Co 7 v'594)), (Hc b591 34 [(Ci E), (Ci F), (Ci G), (Ci (stepN A B C D E F G H x0))]), (Ho true rs'593), (Ho true rs'595)])))))))))))))))) →
 (Q589 [(aV [(Ci A), (Ci B), (Ci C), (Ci D)]), (aV [(Ci A), (Ci B), (Ci C), (Ci D)]), (oV 0 v0), (oV 6 v'532), (aV [(Ci E), (Ci F), (Ci G), (Ci H)]), (aV [(Ci E), (Ci F), (Ci G), (Ci H)]), (uV [(Ao 7 v'587), (Ag [(Ci E), (Ci F), (Ci G), (Ci (stepN A B C D E F G H x0))]), (Ab (stepOk A B C D E F G H x0))]), (uV [(Ao 7 v'587), (Ag [(Ci E), (Ci F), (Ci G), (Ci (stepN A B C D E F G H x0))]), (Ab (stepOk A B C D E F G H x0))]), (oV 7 v'587), (aV [(Ci E), (Ci F), (Ci G), (Ci (stepN A B C D E F G H x0))]), (bV (stepOk A B C D E F G H x0)), (pV 4 b586 0), (pV 5 b575 0), (bV (stepOk A B C D E F G H x0))] [(Ho false rs0), (Hc b0 23 [(Ci A), (Ci B), (Ci C), (Ci D)]), (Hw b1 27 true 3 (Co 0 v0)), (Hc b2 29 [(Ci E), (Ci F), (Ci G), (Ci H)]), (Hw b586 33 true 3 (Co 7 v'587)), (Hc b575 34 [(Ci E), (Ci F), (Ci G), (Ci (stepN A B C D E F G H x0))]), (Ho true rs'533), (Ho true rs'588)]))))))))))))))))))))) ∧
 ((∀ b596 : Nat,
 (True ∧
 ((True ∧
 ((((isArray v'532 x0 rs'533) ∧
 (capAx x0)) ∧
 (∀ v'597 : Value,
 (∀ rs'598 : (List Row),
 ((isArray v'597 (stepA A B C D E F G H x0) rs'598) →
 (True ∧
 (∀ b599 : Nat,
 (True ∧
 ((b596 = b596 ∧
 (wholeC true v'597 3)) ∧
 (True ∧
 (b599 = b599 ∧
 (True ∧
 (true = true ∧
 (∀ Q600 : ((List SV) →
 ((List Ch) →
 Prop)),
 ((∀ b601 : Nat,
 (∀ b602 : Nat,
 (b0 = b0 ∧
 (b1 = b1 ∧
 (((isArray v0 x0 rs0) ∧
 (capAx x0)) ∧
 (∀ v'603 : Value,
 (∀ rs'604 : (List Row),
 ((isArray v'603 x0 rs'604) →
 (b2 = b2 ∧
 (((isArray v'603 x0 rs'604) ∧
 (capAx x0)) ∧
 (∀ v'605 : Value,
 (∀ rs'606 : (List Row),
 ((isArray v'605 (stepA A B C D E F G H x0) rs'606) →
 ((b601 = b601 ∧
 (wholeC true v'605 3)) ∧
 (b602 = b602 ∧
 (Q600 [(aV [(Ci A), (Ci B), (Ci C), (Ci D)]), (aV [(Ci A), (Ci B), (Ci C), (Ci D)]), (oV 0 v0), (oV 6 v'603), (aV [(Ci E), (Ci F), (Ci G), (Ci H)]), (aV [(Ci E), (Ci F), (Ci G), (Ci H)]), (uV [(Ao 7 v'605), (Ag [(Ci E), (Ci F), (Ci G), (Ci (stepN A B C D E F G H x0))]), (Ab (stepOk A B C D E F G H x0))]), (uV [(Ao 7 v'605), (Ag [(Ci E), (Ci F), (Ci G), (Ci (stepN A B C D E F G H x0))]), (Ab (stepOk A B C D E F G H x0))]), (oV 7 v'605), (aV [(Ci E), (Ci F), (Ci G), (Ci (stepN A B C D E F G H x0))]), (bV (stepOk A B C D E F G H x0)), (pV 4 b601 0), (pV 5 b602 0), (bV (stepOk A B C D E F G H x0))] [(Ho false rs0), (Hc b0 23 [(Ci A), (Ci B), (Ci C), (Ci D)]), (Hw b1 27 true 3 (Co 0 v0)), (Hc b2 29 [(Ci E), (Ci F), (Ci G), (Ci H)]), (Hw b601 33 true 3 (Co 7 v'605)), (Hc b602 34 [(Ci E), (Ci F), (Ci G), (Ci (stepN A B C D E F G H x0))]), (Ho true rs'604), (Ho true rs'606)])))))))))))))))) →
 (Q600 [(aV [(Ci A), (Ci B), (Ci C), (Ci D)]), (aV [(Ci A), (Ci B), (Ci C), (Ci D)]), (oV 0 v0), (oV 6 v'532), (aV [(Ci E), (Ci F), (Ci G), (Ci H)]), (aV [(Ci E), (Ci F), (Ci G), (Ci H)]), (uV [(Ao 7 v'597), (Ag [(Ci E), (Ci F), (Ci G), (Ci (stepN A B C D E F G H x0))]), (Ab (stepOk A B C D E F G H x0))]), (uV [(Ao 7 v'597), (Ag [(Ci E), (Ci F), (Ci G), (Ci (stepN A B C D E F G H x0))]), (Ab (stepOk A B C D E F G H x0))]), (oV 7 v'597), (aV [(Ci E), (Ci F), (Ci G), (Ci (stepN A B C D E F G H x0))]), (bV (stepOk A B C D E F G H x0)), (pV 4 b596 0), (pV 5 b599 0), (bV (stepOk A B C D E F G H x0))] [(Ho false rs0), (Hc b0 23 [(Ci A), (Ci B), (Ci C), (Ci D)]), (Hw b1 27 true 3 (Co 0 v0)), (Hc b2 29 [(Ci E), (Ci F), (Ci G), (Ci H)]), (Hw b596 33 true 3 (Co 7 v'597)), (Hc b599 34 [(Ci E), (Ci F), (Ci G), (Ci (stepN A B C D E F G H x0))]), (Ho true rs'533), (Ho true rs'598)]))))))))))))))) ∧
 (∀ b607 : Nat,
 (True ∧
 (((isArray v'532 x0 rs'533) ∧
 (capAx x0)) ∧
 (∀ v'608 : Value,
 (∀ rs'609 : (List Row),
 ((isArray v'608 (stepA A B C D E F G H x0) rs'609) →
 (True ∧
 ((b596 = b596 ∧
 (wholeC true v'608 3)) ∧
 (True ∧
 (b607 = b607 ∧
 (True ∧
 (true = true ∧
 (∀ Q610 : ((List SV) →
 ((List Ch) →
 Prop)),
 ((∀ b611 : Nat,
 (∀ b612 : Nat,
 (b0 = b0 ∧
 (b1 = b1 ∧
 (((isArray v0 x0 rs0) ∧
 (capAx x0)) ∧
 (∀ v'613 : Value,
 (∀ rs'614 : (List Row),
 ((isArray v'613 x0 rs'614) →
 (b2 = b2 ∧
 (((isArray v'613 x0 rs'614) ∧
 (capAx x0)) ∧
 (∀ v'615 : Value,
 (∀ rs'616 : (List Row),
 ((isArray v'615 (stepA A B C D E F G H x0) rs'616) →
 ((b611 = b611 ∧
 (wholeC true v'615 3)) ∧
 (b612 = b612 ∧
 (Q610 [(aV [(Ci A), (Ci B), (Ci C), (Ci D)]), (aV [(Ci A), (Ci B), (Ci C), (Ci D)]), (oV 0 v0), (oV 6 v'613), (aV [(Ci E), (Ci F), (Ci G), (Ci H)]), (aV [(Ci E), (Ci F), (Ci G), (Ci H)]), (uV [(Ao 7 v'615), (Ag [(Ci E), (Ci F), (Ci G), (Ci (stepN A B C D E F G H x0))]), (Ab (stepOk A B C D E F G H x0))]), (uV [(Ao 7 v'615), (Ag [(Ci E), (Ci F), (Ci G), (Ci (stepN A B C D E F G H x0))]), (Ab (stepOk A B C D E F G H x0))]), (oV 7 v'615), (aV [(Ci E), (Ci F), (Ci G), (Ci (stepN A B C D E F G H x0))]), (bV (stepOk A B C D E F G H x0)), (pV 4 b611 0), (pV 5 b612 0), (bV (stepOk A B C D E F G H x0))] [(Ho false rs0), (Hc b0 23 [(Ci A), (Ci B), (Ci C), (Ci D)]), (Hw b1 27 true 3 (Co 0 v0)), (Hc b2 29 [(Ci E), (Ci F), (Ci G), (Ci H)]), (Hw b611 33 true 3 (Co 7 v'615)), (Hc b612 34 [(Ci E), (Ci F), (Ci G), (Ci (stepN A B C D E F G H x0))]), (Ho true rs'614), (Ho true rs'616)])))))))))))))))) →
 (Q610 [(aV [(Ci A), (Ci B), (Ci C), (Ci D)]), (aV [(Ci A), (Ci B), (Ci C), (Ci D)]), (oV 0 v0), (oV 6 v'532), (aV [(Ci E), (Ci F), (Ci G), (Ci H)]), (aV [(Ci E), (Ci F), (Ci G), (Ci H)]), (uV [(Ao 7 v'608), (Ag [(Ci E), (Ci F), (Ci G), (Ci (stepN A B C D E F G H x0))]), (Ab (stepOk A B C D E F G H x0))]), (uV [(Ao 7 v'608), (Ag [(Ci E), (Ci F), (Ci G), (Ci (stepN A B C D E F G H x0))]), (Ab (stepOk A B C D E F G H x0))]), (oV 7 v'608), (aV [(Ci E), (Ci F), (Ci G), (Ci (stepN A B C D E F G H x0))]), (bV (stepOk A B C D E F G H x0)), (pV 4 b596 0), (pV 5 b607 0), (bV (stepOk A B C D E F G H x0))] [(Ho false rs0), (Hc b0 23 [(Ci A), (Ci B), (Ci C), (Ci D)]), (Hw b1 27 true 3 (Co 0 v0)), (Hc b2 29 [(Ci E), (Ci F), (Ci G), (Ci H)]), (Hw b596 33 true 3 (Co 7 v'608)), (Hc b607 34 [(Ci E), (Ci F), (Ci G), (Ci (stepN A B C D E F G H x0))]), (Ho true rs'533), (Ho true rs'609)]))))))))))))))))) ∧
 (∀ b617 : Nat,
 (True ∧
 (True ∧
 (((isArray v'532 x0 rs'533) ∧
 (capAx x0)) ∧
 (∀ v'618 : Value,
 (∀ rs'619 : (List Row),
 ((isArray v'618 (stepA A B C D E F G H x0) rs'619) →
 (True ∧
 ((b596 = b596 ∧
 (wholeC true v'618 3)) ∧
 (True ∧
 (b617 = b617 ∧
 (True ∧
 (true = true ∧
 (∀ Q620 : ((List SV) →
 ((List Ch) →
 Prop)),
 ((∀ b621 : Nat,
 (∀ b622 : Nat,
 (b0 = b0 ∧
 (b1 = b1 ∧
 (((isArray v0 x0 rs0) ∧
 (capAx x0)) ∧
 (∀ v'623 : Value,
 (∀ rs'624 : (List Row),
 ((isArray v'623 x0 rs'624) →
 (b2 = b2 ∧
 (((isArray v'623 x0 rs'624) ∧
 (capAx x0)) ∧
 (∀ v'625 : Value,
 (∀ rs'626 : (List Row),
 ((isArray v'625 (stepA A B C D E F G H x0) rs'626) →
 ((b621 = b621 ∧
 (wholeC true v'625 3)) ∧
 (b622 = b622 ∧
 (Q620 [(aV [(Ci A), (Ci B), (Ci C), (Ci D)]), (aV [(Ci A), (Ci B), (Ci C), (Ci D)]), (oV 0 v0), (oV 6 v'623), (aV [(Ci E), (Ci F), (Ci G), (Ci H)]), (aV [(Ci E), (Ci F), (Ci G), (Ci H)]), (uV [(Ao 7 v'625), (Ag [(Ci E), (Ci F), (Ci G), (Ci (stepN A B C D E F G H x0))]), (Ab (stepOk A B C D E F G H x0))]), (uV [(Ao 7 v'625), (Ag [(Ci E), (Ci F), (Ci G), (Ci (stepN A B C D E F G H x0))]), (Ab (stepOk A B C D E F G H x0))]), (oV 7 v'625), (aV [(Ci E), (Ci F), (Ci G), (Ci (stepN A B C D E F G H x0))]), (bV (stepOk A B C D E F G H x0)), (pV 4 b621 0), (pV 5 b622 0), (bV (stepOk A B C D E F G H x0))] [(Ho false rs0), (Hc b0 23 [(Ci A), (Ci B), (Ci C), (Ci D)]), (Hw b1 27 true 3 (Co 0 v0)), (Hc b2 29 [(Ci E), (Ci F), (Ci G), (Ci H)]), (Hw b621 33 true 3 (Co 7 v'625)), (Hc b622 34 [(Ci E), (Ci F), (Ci G), (Ci (stepN A B C D E F G H x0))]), (Ho true rs'624), (Ho true rs'626)])))))))))))))))) →
 (Q620 [(aV [(Ci A), (Ci B), (Ci C), (Ci D)]), (aV [(Ci A), (Ci B), (Ci C), (Ci D)]), (oV 0 v0), (oV 6 v'532), (aV [(Ci E), (Ci F), (Ci G), (Ci H)]), (aV [(Ci E), (Ci F), (Ci G), (Ci H)]), (uV [(Ao 7 v'618), (Ag [(Ci E), (Ci F), (Ci G), (Ci (stepN A B C D E F G H x0))]), (Ab (stepOk A B C D E F G H x0))]), (uV [(Ao 7 v'618), (Ag [(Ci E), (Ci F), (Ci G), (Ci (stepN A B C D E F G H x0))]), (Ab (stepOk A B C D E F G H x0))]), (oV 7 v'618), (aV [(Ci E), (Ci F), (Ci G), (Ci (stepN A B C D E F G H x0))]), (bV (stepOk A B C D E F G H x0)), (pV 4 b596 0), (pV 5 b617 0), (bV (stepOk A B C D E F G H x0))] [(Ho false rs0), (Hc b0 23 [(Ci A), (Ci B), (Ci C), (Ci D)]), (Hw b1 27 true 3 (Co 0 v0)), (Hc b2 29 [(Ci E), (Ci F), (Ci G), (Ci H)]), (Hw b596 33 true 3 (Co 7 v'618)), (Hc b617 34 [(Ci E), (Ci F), (Ci G), (Ci (stepN A B C D E F G H x0))]), (Ho true rs'533), (Ho true rs'619)]))))))))))))))))))) ∧
 (∀ b627 : Nat,
 (True ∧
 ((True ∧
 ((((isArray v'532 x0 rs'533) ∧
 (capAx x0)) ∧
 (∀ v'628 : Value,
 (∀ rs'629 : (List Row),
 ((isArray v'628 (stepA A B C D E F G H x0) rs'629) →
 (True ∧
 (∀ b630 : Nat,
 (True ∧
 ((b630 = b630 ∧
 (wholeC true v'628 3)) ∧
 (True ∧
 (b627 = b627 ∧
 (True ∧
 (true = true ∧
 (∀ Q631 : ((List SV) →
 ((List Ch) →
 Prop)),
 ((∀ b632 : Nat,
 (∀ b633 : Nat,
 (b0 = b0 ∧
 (b1 = b1 ∧
 (((isArray v0 x0 rs0) ∧
 (capAx x0)) ∧
 (∀ v'634 : Value,
 (∀ rs'635 : (List Row),
 ((isArray v'634 x0 rs'635) →
 (b2 = b2 ∧
 (((isArray v'634 x0 rs'635) ∧
 (capAx x0)) ∧
 (∀ v'636 : Value,
 (∀ rs'637 : (List Row),
 ((isArray v'636 (stepA A B C D E F G H x0) rs'637) →
 ((b632 = b632 ∧
 (wholeC true v'636 3)) ∧
 (b633 = b633 ∧
 (Q631 [(aV [(Ci A), (Ci B), (Ci C), (Ci D)]), (aV [(Ci A), (Ci B), (Ci C), (Ci D)]), (oV 0 v0), (oV 6 v'634), (aV [(Ci E), (Ci F), (Ci G), (Ci H)]), (aV [(Ci E), (Ci F), (Ci G), (Ci H)]), (uV [(Ao 7 v'636), (Ag [(Ci E), (Ci F), (Ci G), (Ci (stepN A B C D E F G H x0))]), (Ab (stepOk A B C D E F G H x0))]), (uV [(Ao 7 v'636), (Ag [(Ci E), (Ci F), (Ci G), (Ci (stepN A B C D E F G H x0))]), (Ab (stepOk A B C D E F G H x0))]), (oV 7 v'636), (aV [(Ci E), (Ci F), (Ci G), (Ci (stepN A B C D E F G H x0))]), (bV (stepOk A B C D E F G H x0)), (pV 4 b632 0), (pV 5 b633 0), (bV (stepOk A B C D E F G H x0))] [(Ho false rs0), (Hc b0 23 [(Ci A), (Ci B), (Ci C), (Ci D)]), (Hw b1 27 true 3 (Co 0 v0)), (Hc b2 29 [(Ci E), (Ci F), (Ci G), (Ci H)]), (Hw b632 33 true 3 (Co 7 v'636)), (Hc b633 34 [(Ci E), (Ci F), (Ci G), (Ci (stepN A B C D E F G H x0))]), (Ho true rs'635), (Ho true rs'637)])))))))))))))))) →
 (Q631 [(aV [(Ci A), (Ci B), (Ci C), (Ci D)]), (aV [(Ci A), (Ci B), (Ci C), (Ci D)]), (oV 0 v0), (oV 6 v'532), (aV [(Ci E), (Ci F), (Ci G), (Ci H)]), (aV [(Ci E), (Ci F), (Ci G), (Ci H)]), (uV [(Ao 7 v'628), (Ag [(Ci E), (Ci F), (Ci G), (Ci (stepN A B C D E F G H x0))]), (Ab (stepOk A B C D E F G H x0))]), (uV [(Ao 7 v'628), (Ag [(Ci E), (Ci F), (Ci G), (Ci (stepN A B C D E F G H x0))]), (Ab (stepOk A B C D E F G H x0))]), (oV 7 v'628), (aV [(Ci E), (Ci F), (Ci G), (Ci (stepN A B C D E F G H x0))]), (bV (stepOk A B C D E F G H x0)), (pV 4 b630 0), (pV 5 b627 0), (bV (stepOk A B C D E F G H x0))] [(Ho false rs0), (Hc b0 23 [(Ci A), (Ci B), (Ci C), (Ci D)]), (Hw b1 27 true 3 (Co 0 v0)), (Hc b2 29 [(Ci E), (Ci F), (Ci G), (Ci H)]), (Hw b630 33 true 3 (Co 7 v'628)), (Hc b627 34 [(Ci E), (Ci F), (Ci G), (Ci (stepN A B C D E F G H x0))]), (Ho true rs'533), (Ho true rs'629)]))))))))))))))) ∧
 (∀ b638 : Nat,
 (True ∧
 (((isArray v'532 x0 rs'533) ∧
 (capAx x0)) ∧
 (∀ v'639 : Value,
 (∀ rs'640 : (List Row),
 ((isArray v'639 (stepA A B C D E F G H x0) rs'640) →
 (True ∧
 ((b638 = b638 ∧
 (wholeC true v'639 3)) ∧
 (True ∧
 (b627 = b627 ∧
 (True ∧
 (true = true ∧
 (∀ Q641 : ((List SV) →
 ((List Ch) →
 Prop)),
 ((∀ b642 : Nat,
 (∀ b643 : Nat,
 (b0 = b0 ∧
 (b1 = b1 ∧
 (((isArray v0 x0 rs0) ∧
 (capAx x0)) ∧
 (∀ v'644 : Value,
 (∀ rs'645 : (List Row),
 ((isArray v'644 x0 rs'645) →
 (b2 = b2 ∧
 (((isArray v'644 x0 rs'645) ∧
 (capAx x0)) ∧
 (∀ v'646 : Value,
 (∀ rs'647 : (List Row),
 ((isArray v'646 (stepA A B C D E F G H x0) rs'647) →
 ((b642 = b642 ∧
 (wholeC true v'646 3)) ∧
 (b643 = b643 ∧
 (Q641 [(aV [(Ci A), (Ci B), (Ci C), (Ci D)]), (aV [(Ci A), (Ci B), (Ci C), (Ci D)]), (oV 0 v0), (oV 6 v'644), (aV [(Ci E), (Ci F), (Ci G), (Ci H)]), (aV [(Ci E), (Ci F), (Ci G), (Ci H)]), (uV [(Ao 7 v'646), (Ag [(Ci E), (Ci F), (Ci G), (Ci (stepN A B C D E F G H x0))]), (Ab (stepOk A B C D E F G H x0))]), (uV [(Ao 7 v'646), (Ag [(Ci E), (Ci F), (Ci G), (Ci (stepN A B C D E F G H x0))]), (Ab (stepOk A B C D E F G H x0))]), (oV 7 v'646), (aV [(Ci E), (Ci F), (Ci G), (Ci (stepN A B C D E F G H x0))]), (bV (stepOk A B C D E F G H x0)), (pV 4 b642 0), (pV 5 b643 0), (bV (stepOk A B C D E F G H x0))] [(Ho false rs0), (Hc b0 23 [(Ci A), (Ci B), (Ci C), (Ci D)]), (Hw b1 27 true 3 (Co 0 v0)), (Hc b2 29 [(Ci E), (Ci F), (Ci G), (Ci H)]), (Hw b642 33 true 3 (Co 7 v'646)), (Hc b643 34 [(Ci E), (Ci F), (Ci G), (Ci (stepN A B C D E F G H x0))]), (Ho true rs'645), (Ho true rs'647)])))))))))))))))) →
 (Q641 [(aV [(Ci A), (Ci B), (Ci C), (Ci D)]), (aV [(Ci A), (Ci B), (Ci C), (Ci D)]), (oV 0 v0), (oV 6 v'532), (aV [(Ci E), (Ci F), (Ci G), (Ci H)]), (aV [(Ci E), (Ci F), (Ci G), (Ci H)]), (uV [(Ao 7 v'639), (Ag [(Ci E), (Ci F), (Ci G), (Ci (stepN A B C D E F G H x0))]), (Ab (stepOk A B C D E F G H x0))]), (uV [(Ao 7 v'639), (Ag [(Ci E), (Ci F), (Ci G), (Ci (stepN A B C D E F G H x0))]), (Ab (stepOk A B C D E F G H x0))]), (oV 7 v'639), (aV [(Ci E), (Ci F), (Ci G), (Ci (stepN A B C D E F G H x0))]), (bV (stepOk A B C D E F G H x0)), (pV 4 b638 0), (pV 5 b627 0), (bV (stepOk A B C D E F G H x0))] [(Ho false rs0), (Hc b0 23 [(Ci A), (Ci B), (Ci C), (Ci D)]), (Hw b1 27 true 3 (Co 0 v0)), (Hc b2 29 [(Ci E), (Ci F), (Ci G), (Ci H)]), (Hw b638 33 true 3 (Co 7 v'639)), (Hc b627 34 [(Ci E), (Ci F), (Ci G), (Ci (stepN A B C D E F G H x0))]), (Ho true rs'533), (Ho true rs'640)]))))))))))))))))) ∧
 (∀ b648 : Nat,
 (True ∧
 (True ∧
 (((isArray v'532 x0 rs'533) ∧
 (capAx x0)) ∧
 (∀ v'649 : Value,
 (∀ rs'650 : (List Row),
 ((isArray v'649 (stepA A B C D E F G H x0) rs'650) →
 (True ∧
 ((b648 = b648 ∧
 (wholeC true v'649 3)) ∧
 (True ∧
 (b627 = b627 ∧
 (True ∧
 (true = true ∧
 (∀ Q651 : ((List SV) →
 ((List Ch) →
 Prop)),
 ((∀ b652 : Nat,
 (∀ b653 : Nat,
 (b0 = b0 ∧
 (b1 = b1 ∧
 (((isArray v0 x0 rs0) ∧
 (capAx x0)) ∧
 (∀ v'654 : Value,
 (∀ rs'655 : (List Row),
 ((isArray v'654 x0 rs'655) →
 (b2 = b2 ∧
 (((isArray v'654 x0 rs'655) ∧
 (capAx x0)) ∧
 (∀ v'656 : Value,
 (∀ rs'657 : (List Row),
 ((isArray v'656 (stepA A B C D E F G H x0) rs'657) →
 ((b652 = b652 ∧
 (wholeC true v'656 3)) ∧
 (b653 = b653 ∧
 (Q651 [(aV [(Ci A), (Ci B), (Ci C), (Ci D)]), (aV [(Ci A), (Ci B), (Ci C), (Ci D)]), (oV 0 v0), (oV 6 v'654), (aV [(Ci E), (Ci F), (Ci G), (Ci H)]), (aV [(Ci E), (Ci F), (Ci G), (Ci H)]), (uV [(Ao 7 v'656), (Ag [(Ci E), (Ci F), (Ci G), (Ci (stepN A B C D E F G H x0))]), (Ab (stepOk A B C D E F G H x0))]), (uV [(Ao 7 v'656), (Ag [(Ci E), (Ci F), (Ci G), (Ci (stepN A B C D E F G H x0))]), (Ab (stepOk A B C D E F G H x0))]), (oV 7 v'656), (aV [(Ci E), (Ci F), (Ci G), (Ci (stepN A B C D E F G H x0))]), (bV (stepOk A B C D E F G H x0)), (pV 4 b652 0), (pV 5 b653 0), (bV (stepOk A B C D E F G H x0))] [(Ho false rs0), (Hc b0 23 [(Ci A), (Ci B), (Ci C), (Ci D)]), (Hw b1 27 true 3 (Co 0 v0)), (Hc b2 29 [(Ci E), (Ci F), (Ci G), (Ci H)]), (Hw b652 33 true 3 (Co 7 v'656)), (Hc b653 34 [(Ci E), (Ci F), (Ci G), (Ci (stepN A B C D E F G H x0))]), (Ho true rs'655), (Ho true rs'657)])))))))))))))))) →
 (Q651 [(aV [(Ci A), (Ci B), (Ci C), (Ci D)]), (aV [(Ci A), (Ci B), (Ci C), (Ci D)]), (oV 0 v0), (oV 6 v'532), (aV [(Ci E), (Ci F), (Ci G), (Ci H)]), (aV [(Ci E), (Ci F), (Ci G), (Ci H)]), (uV [(Ao 7 v'649), (Ag [(Ci E), (Ci F), (Ci G), (Ci (stepN A B C D E F G H x0))]), (Ab (stepOk A B C D E F G H x0))]), (uV [(Ao 7 v'649), (Ag [(Ci E), (Ci F), (Ci G), (Ci (stepN A B C D E F G H x0))]), (Ab (stepOk A B C D E F G H x0))]), (oV 7 v'649), (aV [(Ci E), (Ci F), (Ci G), (Ci (stepN A B C D E F G H x0))]), (bV (stepOk A B C D E F G H x0)), (pV 4 b648 0), (pV 5 b627 0), (bV (stepOk A B C D E F G H x0))] [(Ho false rs0), (Hc b0 23 [(Ci A), (Ci B), (Ci C), (Ci D)]), (Hw b1 27 true 3 (Co 0 v0)), (Hc b2 29 [(Ci E), (Ci F), (Ci G), (Ci H)]), (Hw b648 33 true 3 (Co 7 v'649)), (Hc b627 34 [(Ci E), (Ci F), (Ci G), (Ci (stepN A B C D E F G H x0))]), (Ho true rs'533), (Ho true rs'650)])))))))))))))))))))))))))) ∧
 ((∀ b658 : Nat,
 (True ∧
 ((((isArray v0 x0 rs0) ∧
 (capAx x0)) ∧
 (∀ v'659 : Value,
 (∀ rs'660 : (List Row),
 ((isArray v'659 x0 rs'660) →
 (True ∧
 ((True ∧
 ((((isArray v'659 x0 rs'660) ∧
 (capAx x0)) ∧
 (∀ v'661 : Value,
 (∀ rs'662 : (List Row),
 ((isArray v'661 (stepA A B C D E F G H x0) rs'662) →
 (True ∧
 (∀ b663 : Nat,
 (True ∧
 ((b658 = b658 ∧
 (wholeC true v'661 3)) ∧
 (True ∧
 (b663 = b663 ∧
 (True ∧
 (true = true ∧
 (∀ Q664 : ((List SV) →
 ((List Ch) →
 Prop)),
 ((∀ b665 : Nat,
 (∀ b666 : Nat,
 (b0 = b0 ∧
 (b1 = b1 ∧
 (((isArray v0 x0 rs0) ∧
 (capAx x0)) ∧
 (∀ v'667 : Value,
 (∀ rs'668 : (List Row),
 ((isArray v'667 x0 rs'668) →
 (b2 = b2 ∧
 (((isArray v'667 x0 rs'668) ∧
 (capAx x0)) ∧
 (∀ v'669 : Value,
 (∀ rs'670 : (List Row),
 ((isArray v'669 (stepA A B C D E F G H x0) rs'670) →
 ((b665 = b665 ∧
 (wholeC true v'669 3)) ∧
 (b666 = b666 ∧
 (Q664 [(aV [(Ci A), (Ci B), (Ci C), (Ci D)]), (aV [(Ci A), (Ci B), (Ci C), (Ci D)]), (oV 0 v0), (oV 6 v'667), (aV [(Ci E), (Ci F), (Ci G), (Ci H)]), (aV [(Ci E), (Ci F), (Ci G), (Ci H)]), (uV [(Ao 7 v'669), (Ag [(Ci E), (Ci F), (Ci G), (Ci (stepN A B C D E F G H x0))]), (Ab (stepOk A B C D E F G H x0))]), (uV [(Ao 7 v'669), (Ag [(Ci E), (Ci F), (Ci G), (Ci (stepN A B C D E F G H x0))]), (Ab (stepOk A B C D E F G H x0))]), (oV 7 v'669), (aV [(Ci E), (Ci F), (Ci G), (Ci (stepN A B C D E F G H x0))]), (bV (stepOk A B C D E F G H x0)), (pV 4 b665 0), (pV 5 b666 0), (bV (stepOk A B C D E F G H x0))] [(Ho false rs0), (Hc b0 23 [(Ci A), (Ci B), (Ci C), (Ci D)]), (Hw b1 27 true 3 (Co 0 v0)), (Hc b2 29 [(Ci E), (Ci F), (Ci G), (Ci H)]), (Hw b665 33 true 3 (Co 7 v'669)), (Hc b666 34 [(Ci E), (Ci F), (Ci G), (Ci (stepN A B C D E F G H x0))]), (Ho true rs'668), (Ho true rs'670)])))))))))))))))) →
 (Q664 [(aV [(Ci A), (Ci B), (Ci C), (Ci D)]), (aV [(Ci A), (Ci B), (Ci C), (Ci D)]), (oV 0 v0), (oV 6 v'659), (aV [(Ci E), (Ci F), (Ci G), (Ci H)]), (aV [(Ci E), (Ci F), (Ci G), (Ci H)]), (uV [(Ao 7 v'661), (Ag [(Ci E), (Ci F), (Ci G), (Ci (stepN A B C D E F G H x0))]), (Ab (stepOk A B C D E F G H x0))]), (uV [(Ao 7 v'661), (Ag [(Ci E), (Ci F), (Ci G), (Ci (stepN A B C D E F G H x0))]), (Ab (stepOk A B C D E F G H x0))]), (oV 7 v'661), (aV [(Ci E), (Ci F), (Ci G), (Ci (stepN A B C D E F G H x0))]), (bV (stepOk A B C D E F G H x0)), (pV 4 b658 0), (pV 5 b663 0), (bV (stepOk A B C D E F G H x0))] [(Ho false rs0), (Hc b0 23 [(Ci A), (Ci B), (Ci C), (Ci D)]), (Hw b1 27 true 3 (Co 0 v0)), (Hc b2 29 [(Ci E), (Ci F), (Ci G), (Ci H)]), (Hw b658 33 true 3 (Co 7 v'661)), (Hc b663 34 [(Ci E), (Ci F), (Ci G), (Ci (stepN A B C D E F G H x0))]), (Ho true rs'660), (Ho true rs'662)]))))))))))))))) ∧
 (∀ b671 : Nat,
 (True ∧
 (((isArray v'659 x0 rs'660) ∧
 (capAx x0)) ∧
 (∀ v'672 : Value,
 (∀ rs'673 : (List Row),
 ((isArray v'672 (stepA A B C D E F G H x0) rs'673) →
 (True ∧
 ((b658 = b658 ∧
 (wholeC true v'672 3)) ∧
 (True ∧
 (b671 = b671 ∧
 (True ∧
 (true = true ∧
 (∀ Q674 : ((List SV) →
 ((List Ch) →
 Prop)),
 ((∀ b675 : Nat,
 (∀ b676 : Nat,
 (b0 = b0 ∧
 (b1 = b1 ∧
 (((isArray v0 x0 rs0) ∧
 (capAx x0)) ∧
 (∀ v'677 : Value,
 (∀ rs'678 : (List Row),
 ((isArray v'677 x0 rs'678) →
 (b2 = b2 ∧
 (((isArray v'677 x0 rs'678) ∧
 (capAx x0)) ∧
 (∀ v'679 : Value,
 (∀ rs'680 : (List Row),
 ((isArray v'679 (stepA A B C D E F G H x0) rs'680) →
 ((b675 = b675 ∧
 (wholeC true v'679 3)) ∧
 (b676 = b676 ∧
 (Q674 [(aV [(Ci A), (Ci B), (Ci C), (Ci D)]), (aV [(Ci A), (Ci B), (Ci C), (Ci D)]), (oV 0 v0), (oV 6 v'677), (aV [(Ci E), (Ci F), (Ci G), (Ci H)]), (aV [(Ci E), (Ci F), (Ci G), (Ci H)]), (uV [(Ao 7 v'679), (Ag [(Ci E), (Ci F), (Ci G), (Ci (stepN A B C D E F G H x0))]), (Ab (stepOk A B C D E F G H x0))]), (uV [(Ao 7 v'679), (Ag [(Ci E), (Ci F), (Ci G), (Ci (stepN A B C D E F G H x0))]), (Ab (stepOk A B C D E F G H x0))]), (oV 7 v'679), (aV [(Ci E), (Ci F), (Ci G), (Ci (stepN A B C D E F G H x0))]), (bV (stepOk A B C D E F G H x0)), (pV 4 b675 0), (pV 5 b676 0), (bV (stepOk A B C D E F G H x0))] [(Ho false rs0), (Hc b0 23 [(Ci A), (Ci B), (Ci C), (Ci D)]), (Hw b1 27 true 3 (Co 0 v0)), (Hc b2 29 [(Ci E), (Ci F), (Ci G), (Ci H)]), (Hw b675 33 true 3 (Co 7 v'679)), (Hc b676 34 [(Ci E), (Ci F), (Ci G), (Ci (stepN A B C D E F G H x0))]), (Ho true rs'678), (Ho true rs'680)])))))))))))))))) →
 (Q674 [(aV [(Ci A), (Ci B), (Ci C), (Ci D)]), (aV [(Ci A), (Ci B), (Ci C), (Ci D)]), (oV 0 v0), (oV 6 v'659), (aV [(Ci E), (Ci F), (Ci G), (Ci H)]), (aV [(Ci E), (Ci F), (Ci G), (Ci H)]), (uV [(Ao 7 v'672), (Ag [(Ci E), (Ci F), (Ci G), (Ci (stepN A B C D E F G H x0))]), (Ab (stepOk A B C D E F G H x0))]), (uV [(Ao 7 v'672), (Ag [(Ci E), (Ci F), (Ci G), (Ci (stepN A B C D E F G H x0))]), (Ab (stepOk A B C D E F G H x0))]), (oV 7 v'672), (aV [(Ci E), (Ci F), (Ci G), (Ci (stepN A B C D E F G H x0))]), (bV (stepOk A B C D E F G H x0)), (pV 4 b658 0), (pV 5 b671 0), (bV (stepOk A B C D E F G H x0))] [(Ho false rs0), (Hc b0 23 [(Ci A), (Ci B), (Ci C), (Ci D)]), (Hw b1 27 true 3 (Co 0 v0)), (Hc b2 29 [(Ci E), (Ci F), (Ci G), (Ci H)]), (Hw b658 33 true 3 (Co 7 v'672)), (Hc b671 34 [(Ci E), (Ci F), (Ci G), (Ci (stepN A B C D E F G H x0))]), (Ho true rs'660), (Ho true rs'673)]))))))))))))))))) ∧
 (∀ b681 : Nat,
 (True ∧
 (True ∧
 (((isArray v'659 x0 rs'660) ∧
 (capAx x0)) ∧
 (∀ v'682 : Value,
 (∀ rs'683 : (List Row),
 ((isArray v'682 (stepA A B C D E F G H x0) rs'683) →
 (True ∧
 ((b658 = b658 ∧
 (wholeC true v'682 3)) ∧
 (True ∧
 (b681 = b681 ∧
 (True ∧
 (true = true ∧
 (∀ Q684 : ((List SV) →
 ((List Ch) →
 Prop)),
 ((∀ b685 : Nat,
 (∀ b686 : Nat,
 (b0 = b0 ∧
 (b1 = b1 ∧
 (((isArray v0 x0 rs0) ∧
 (capAx x0)) ∧
 (∀ v'687 : Value,
 (∀ rs'688 : (List Row),
 ((isArray v'687 x0 rs'688) →
 (b2 = b2 ∧
 (((isArray v'687 x0 rs'688) ∧
 (capAx x0)) ∧
 (∀ v'689 : Value,
 (∀ rs'690 : (List Row),
 ((isArray v'689 (stepA A B C D E F G H x0) rs'690) →
 ((b685 = b685 ∧
 (wholeC true v'689 3)) ∧
 (b686 = b686 ∧
 (Q684 [(aV [(Ci A), (Ci B), (Ci C), (Ci D)]), (aV [(Ci A), (Ci B), (Ci C), (Ci D)]), (oV 0 v0), (oV 6 v'687), (aV [(Ci E), (Ci F), (Ci G), (Ci H)]), (aV [(Ci E), (Ci F), (Ci G), (Ci H)]), (uV [(Ao 7 v'689), (Ag [(Ci E), (Ci F), (Ci G), (Ci (stepN A B C D E F G H x0))]), (Ab (stepOk A B C D E F G H x0))]), (uV [(Ao 7 v'689), (Ag [(Ci E), (Ci F), (Ci G), (Ci (stepN A B C D E F G H x0))]), (Ab (stepOk A B C D E F G H x0))]), (oV 7 v'689), (aV [(Ci E), (Ci F), (Ci G), (Ci (stepN A B C D E F G H x0))]), (bV (stepOk A B C D E F G H x0)), (pV 4 b685 0), (pV 5 b686 0), (bV (stepOk A B C D E F G H x0))] [(Ho false rs0), (Hc b0 23 [(Ci A), (Ci B), (Ci C), (Ci D)]), (Hw b1 27 true 3 (Co 0 v0)), (Hc b2 29 [(Ci E), (Ci F), (Ci G), (Ci H)]), (Hw b685 33 true 3 (Co 7 v'689)), (Hc b686 34 [(Ci E), (Ci F), (Ci G), (Ci (stepN A B C D E F G H x0))]), (Ho true rs'688), (Ho true rs'690)])))))))))))))))) →
 (Q684 [(aV [(Ci A), (Ci B), (Ci C), (Ci D)]), (aV [(Ci A), (Ci B), (Ci C), (Ci D)]), (oV 0 v0), (oV 6 v'659), (aV [(Ci E), (Ci F), (Ci G), (Ci H)]), (aV [(Ci E), (Ci F), (Ci G), (Ci H)]), (uV [(Ao 7 v'682), (Ag [(Ci E), (Ci F), (Ci G), (Ci (stepN A B C D E F G H x0))]), (Ab (stepOk A B C D E F G H x0))]), (uV [(Ao 7 v'682), (Ag [(Ci E), (Ci F), (Ci G), (Ci (stepN A B C D E F G H x0))]), (Ab (stepOk A B C D E F G H x0))]), (oV 7 v'682), (aV [(Ci E), (Ci F), (Ci G), (Ci (stepN A B C D E F G H x0))]), (bV (stepOk A B C D E F G H x0)), (pV 4 b658 0), (pV 5 b681 0), (bV (stepOk A B C D E F G H x0))] [(Ho false rs0), (Hc b0 23 [(Ci A), (Ci B), (Ci C), (Ci D)]), (Hw b1 27 true 3 (Co 0 v0)), (Hc b2 29 [(Ci E), (Ci F), (Ci G), (Ci H)]), (Hw b658 33 true 3 (Co 7 v'682)), (Hc b681 34 [(Ci E), (Ci F), (Ci G), (Ci (stepN A B C D E F G H x0))]), (Ho true rs'660), (Ho true rs'683)])))))))))))))))))))))) ∧
 (∀ b691 : Nat,
 (True ∧
 (((isArray v0 x0 rs0) ∧
 (capAx x0)) ∧
 (∀ v'692 : Value,
 (∀ rs'693 : (List Row),
 ((isArray v'692 x0 rs'693) →
 (True ∧
 (True ∧
 (((isArray v'692 x0 rs'693) ∧
 (capAx x0)) ∧
 (∀ v'694 : Value,
 (∀ rs'695 : (List Row),
 ((isArray v'694 (stepA A B C D E F G H x0) rs'695) →
 (True ∧
 ((b658 = b658 ∧
 (wholeC true v'694 3)) ∧
 (True ∧
 (b691 = b691 ∧
 (True ∧
 (true = true ∧
 (∀ Q696 : ((List SV) →
 ((List Ch) →
 Prop)),
 ((∀ b697 : Nat,
 (∀ b698 : Nat,
 (b0 = b0 ∧
 (b1 = b1 ∧
 (((isArray v0 x0 rs0) ∧
 (capAx x0)) ∧
 (∀ v'699 : Value,
 (∀ rs'700 : (List Row),
 ((isArray v'699 x0 rs'700) →
 (b2 = b2 ∧
 (((isArray v'699 x0 rs'700) ∧
 (capAx x0)) ∧
 (∀ v'701 : Value,
 (∀ rs'702 : (List Row),
 ((isArray v'701 (stepA A B C D E F G H x0) rs'702) →
 ((b697 = b697 ∧
 (wholeC true v'701 3)) ∧
 (b698 = b698 ∧
 (Q696 [(aV [(Ci A), (Ci B), (Ci C), (Ci D)]), (aV [(Ci A), (Ci B), (Ci C), (Ci D)]), (oV 0 v0), (oV 6 v'699), (aV [(Ci E), (Ci F), (Ci G), (Ci H)]), (aV [(Ci E), (Ci F), (Ci G), (Ci H)]), (uV [(Ao 7 v'701), (Ag [(Ci E), (Ci F), (Ci G), (Ci (stepN A B C D E F G H x0))]), (Ab (stepOk A B C D E F G H x0))]), (uV [(Ao 7 v'701), (Ag [(Ci E), (Ci F), (Ci G), (Ci (stepN A B C D E F G H x0))]), (Ab (stepOk A B C D E F G H x0))]), (oV 7 v'701), (aV [(Ci E), (Ci F), (Ci G), (Ci (stepN A B C D E F G H x0))]), (bV (stepOk A B C D E F G H x0)), (pV 4 b697 0), (pV 5 b698 0), (bV (stepOk A B C D E F G H x0))] [(Ho false rs0), (Hc b0 23 [(Ci A), (Ci B), (Ci C), (Ci D)]), (Hw b1 27 true 3 (Co 0 v0)), (Hc b2 29 [(Ci E), (Ci F), (Ci G), (Ci H)]), (Hw b697 33 true 3 (Co 7 v'701)), (Hc b698 34 [(Ci E), (Ci F), (Ci G), (Ci (stepN A B C D E F G H x0))]), (Ho true rs'700), (Ho true rs'702)])))))))))))))))) →
 (Q696 [(aV [(Ci A), (Ci B), (Ci C), (Ci D)]), (aV [(Ci A), (Ci B), (Ci C), (Ci D)]), (oV 0 v0), (oV 6 v'692), (aV [(Ci E), (Ci F), (Ci G), (Ci H)]), (aV [(Ci E), (Ci F), (Ci G), (Ci H)]), (uV [(Ao 7 v'694), (Ag [(Ci E), (Ci F), (Ci G), (Ci (stepN A B C D E F G H x0))]), (Ab (stepOk A B C D E F G H x0))]), (uV [(Ao 7 v'694), (Ag [(Ci E), (Ci F), (Ci G), (Ci (stepN A B C D E F G H x0))]), (Ab (stepOk A B C D E F G H x0))]), (oV 7 v'694), (aV [(Ci E), (Ci F), (Ci G), (Ci (stepN A B C D E F G H x0))]), (bV (stepOk A B C D E F G H x0)), (pV 4 b658 0), (pV 5 b691 0), (bV (stepOk A B C D E F G H x0))] [(Ho false rs0), (Hc b0 23 [(Ci A), (Ci B), (Ci C), (Ci D)]), (Hw b1 27 true 3 (Co 0 v0)), (Hc b2 29 [(Ci E), (Ci F), (Ci G), (Ci H)]), (Hw b658 33 true 3 (Co 7 v'694)), (Hc b691 34 [(Ci E), (Ci F), (Ci G), (Ci (stepN A B C D E F G H x0))]), (Ho true rs'693), (Ho true rs'695)])))))))))))))))))))))))) ∧
 (∀ b703 : Nat,
 (True ∧
 ((((isArray v0 x0 rs0) ∧
 (capAx x0)) ∧
 (∀ v'704 : Value,
 (∀ rs'705 : (List Row),
 ((isArray v'704 x0 rs'705) →
 (True ∧
 ((True ∧
 ((((isArray v'704 x0 rs'705) ∧
 (capAx x0)) ∧
 (∀ v'706 : Value,
 (∀ rs'707 : (List Row),
 ((isArray v'706 (stepA A B C D E F G H x0) rs'707) →
 (True ∧
 (∀ b708 : Nat,
 (True ∧
 ((b708 = b708 ∧
 (wholeC true v'706 3)) ∧
 (True ∧
 (b703 = b703 ∧
 (True ∧
 (true = true ∧
 (∀ Q709 : ((List SV) →
 ((List Ch) →
 Prop)),
 ((∀ b710 : Nat,
 (∀ b711 : Nat,
 (b0 = b0 ∧
 (b1 = b1 ∧
 (((isArray v0 x0 rs0) ∧
 (capAx x0)) ∧
 (∀ v'712 : Value,
 (∀ rs'713 : (List Row),
 ((isArray v'712 x0 rs'713) →
 (b2 = b2 ∧
 (((isArray v'712 x0 rs'713) ∧
 (capAx x0)) ∧
 (∀ v'714 : Value,
 (∀ rs'715 : (List Row),
 ((isArray v'714 (stepA A B C D E F G H x0) rs'715) →
 ((b710 = b710 ∧
 (wholeC true v'714 3)) ∧
 (b711 = b711 ∧
 (Q709 [(aV [(Ci A), (Ci B), (Ci C), (Ci D)]), (aV [(Ci A), (Ci B), (Ci C), (Ci D)]), (oV 0 v0), (oV 6 v'712), (aV [(Ci E), (Ci F), (Ci G), (Ci H)]), (aV [(Ci E), (Ci F), (Ci G), (Ci H)]), (uV [(Ao 7 v'714), (Ag [(Ci E), (Ci F), (Ci G), (Ci (stepN A B C D E F G H x0))]), (Ab (stepOk A B C D E F G H x0))]), (uV [(Ao 7 v'714), (Ag [(Ci E), (Ci F), (Ci G), (Ci (stepN A B C D E F G H x0))]), (Ab (stepOk A B C D E F G H x0))]), (oV 7 v'714), (aV [(Ci E), (Ci F), (Ci G), (Ci (stepN A B C D E F G H x0))]), (bV (stepOk A B C D E F G H x0)), (pV 4 b710 0), (pV 5 b711 0), (bV (stepOk A B C D E F G H x0))] [(Ho false rs0), (Hc b0 23 [(Ci A), (Ci B), (Ci C), (Ci D)]), (Hw b1 27 true 3 (Co 0 v0)), (Hc b2 29 [(Ci E), (Ci F), (Ci G), (Ci H)]), (Hw b710 33 true 3 (Co 7 v'714)), (Hc b711 34 [(Ci E), (Ci F), (Ci G), (Ci (stepN A B C D E F G H x0))]), (Ho true rs'713), (Ho true rs'715)])))))))))))))))) →
 (Q709 [(aV [(Ci A), (Ci B), (Ci C), (Ci D)]), (aV [(Ci A), (Ci B), (Ci C), (Ci D)]), (oV 0 v0), (oV 6 v'704), (aV [(Ci E), (Ci F), (Ci G), (Ci H)]), (aV [(Ci E), (Ci F), (Ci G), (Ci H)]), (uV [(Ao 7 v'706), (Ag [(Ci E), (Ci F), (Ci G), (Ci (stepN A B C D E F G H x0))]), (Ab (stepOk A B C D E F G H x0))]), (uV [(Ao 7 v'706), (Ag [(Ci E), (Ci F), (Ci G), (Ci (stepN A B C D E F G H x0))]), (Ab (stepOk A B C D E F G H x0))]), (oV 7 v'706), (aV [(Ci E), (Ci F), (Ci G), (Ci (stepN A B C D E F G H x0))]), (bV (stepOk A B C D E F G H x0)), (pV 4 b708 0), (pV 5 b703 0), (bV (stepOk A B C D E F G H x0))] [(Ho false rs0), (Hc b0 23 [(Ci A), (Ci B), (Ci C), (Ci D)]), (Hw b1 27 true 3 (Co 0 v0)), (Hc b2 29 [(Ci E), (Ci F), (Ci G), (Ci H)]), (Hw b708 33 true 3 (Co 7 v'706)), (Hc b703 34 [(Ci E), (Ci F), (Ci G), (Ci (stepN A B C D E F G H x0))]), (Ho true rs'705), (Ho true rs'707)]))))))))))))))) ∧
 (∀ b716 : Nat,
 (True ∧
 (((isArray v'704 x0 rs'705) ∧
 (capAx x0)) ∧
 (∀ v'717 : Value,
 (∀ rs'718 : (List Row),
 ((isArray v'717 (stepA A B C D E F G H x0) rs'718) →
 (True ∧
 ((b716 = b716 ∧
 (wholeC true v'717 3)) ∧
 (True ∧
 (b703 = b703 ∧
 (True ∧
 (true = true ∧
 (∀ Q719 : ((List SV) →
 ((List Ch) →
 Prop)),
 ((∀ b720 : Nat,
 (∀ b721 : Nat,
 (b0 = b0 ∧
 (b1 = b1 ∧
 (((isArray v0 x0 rs0) ∧
 (capAx x0)) ∧
 (∀ v'722 : Value,
 (∀ rs'723 : (List Row),
 ((isArray v'722 x0 rs'723) →
 (b2 = b2 ∧
 (((isArray v'722 x0 rs'723) ∧
 (capAx x0)) ∧
 (∀ v'724 : Value,
 (∀ rs'725 : (List Row),
 ((isArray v'724 (stepA A B C D E F G H x0) rs'725) →
 ((b720 = b720 ∧
 (wholeC true v'724 3)) ∧
 (b721 = b721 ∧
 (Q719 [(aV [(Ci A), (Ci B), (Ci C), (Ci D)]), (aV [(Ci A), (Ci B), (Ci C), (Ci D)]), (oV 0 v0), (oV 6 v'722), (aV [(Ci E), (Ci F), (Ci G), (Ci H)]), (aV [(Ci E), (Ci F), (Ci G), (Ci H)]), (uV [(Ao 7 v'724), (Ag [(Ci E), (Ci F), (Ci G), (Ci (stepN A B C D E F G H x0))]), (Ab (stepOk A B C D E F G H x0))]), (uV [(Ao 7 v'724), (Ag [(Ci E), (Ci F), (Ci G), (Ci (stepN A B C D E F G H x0))]), (Ab (stepOk A B C D E F G H x0))]), (oV 7 v'724), (aV [(Ci E), (Ci F), (Ci G), (Ci (stepN A B C D E F G H x0))]), (bV (stepOk A B C D E F G H x0)), (pV 4 b720 0), (pV 5 b721 0), (bV (stepOk A B C D E F G H x0))] [(Ho false rs0), (Hc b0 23 [(Ci A), (Ci B), (Ci C), (Ci D)]), (Hw b1 27 true 3 (Co 0 v0)), (Hc b2 29 [(Ci E), (Ci F), (Ci G), (Ci H)]), (Hw b720 33 true 3 (Co 7 v'724)), (Hc b721 34 [(Ci E), (Ci F), (Ci G), (Ci (stepN A B C D E F G H x0))]), (Ho true rs'723), (Ho true rs'725)])))))))))))))))) →
 (Q719 [(aV [(Ci A), (Ci B), (Ci C), (Ci D)]), (aV [(Ci A), (Ci B), (Ci C), (Ci D)]), (oV 0 v0), (oV 6 v'704), (aV [(Ci E), (Ci F), (Ci G), (Ci H)]), (aV [(Ci E), (Ci F), (Ci G), (Ci H)]), (uV [(Ao 7 v'717), (Ag [(Ci E), (Ci F), (Ci G), (Ci (stepN A B C D E F G H x0))]), (Ab (stepOk A B C D E F G H x0))]), (uV [(Ao 7 v'717), (Ag [(Ci E), (Ci F), (Ci G), (Ci (stepN A B C D E F G H x0))]), (Ab (stepOk A B C D E F G H x0))]), (oV 7 v'717), (aV [(Ci E), (Ci F), (Ci G), (Ci (stepN A B C D E F G H x0))]), (bV (stepOk A B C D E F G H x0)), (pV 4 b716 0), (pV 5 b703 0), (bV (stepOk A B C D E F G H x0))] [(Ho false rs0), (Hc b0 23 [(Ci A), (Ci B), (Ci C), (Ci D)]), (Hw b1 27 true 3 (Co 0 v0)), (Hc b2 29 [(Ci E), (Ci F), (Ci G), (Ci H)]), (Hw b716 33 true 3 (Co 7 v'717)), (Hc b703 34 [(Ci E), (Ci F), (Ci G), (Ci (stepN A B C D E F G H x0))]), (Ho true rs'705), (Ho true rs'718)]))))))))))))))))) ∧
 (∀ b726 : Nat,
 (True ∧
 (True ∧
 (((isArray v'704 x0 rs'705) ∧
 (capAx x0)) ∧
 (∀ v'727 : Value,
 (∀ rs'728 : (List Row),
 ((isArray v'727 (stepA A B C D E F G H x0) rs'728) →
 (True ∧
 ((b726 = b726 ∧
 (wholeC true v'727 3)) ∧
 (True ∧
 (b703 = b703 ∧
 (True ∧
 (true = true ∧
 (∀ Q729 : ((List SV) →
 ((List Ch) →
 Prop)),
 ((∀ b730 : Nat,
 (∀ b731 : Nat,
 (b0 = b0 ∧
 (b1 = b1 ∧
 (((isArray v0 x0 rs0) ∧
 (capAx x0)) ∧
 (∀ v'732 : Value,
 (∀ rs'733 : (List Row),
 ((isArray v'732 x0 rs'733) →
 (b2 = b2 ∧
 (((isArray v'732 x0 rs'733) ∧
 (capAx x0)) ∧
 (∀ v'734 : Value,
 (∀ rs'735 : (List Row),
 ((isArray v'734 (stepA A B C D E F G H x0) rs'735) →
 ((b730 = b730 ∧
 (wholeC true v'734 3)) ∧
 (b731 = b731 ∧
 (Q729 [(aV [(Ci A), (Ci B), (Ci C), (Ci D)]), (aV [(Ci A), (Ci B), (Ci C), (Ci D)]), (oV 0 v0), (oV 6 v'732), (aV [(Ci E), (Ci F), (Ci G), (Ci H)]), (aV [(Ci E), (Ci F), (Ci G), (Ci H)]), (uV [(Ao 7 v'734), (Ag [(Ci E), (Ci F), (Ci G), (Ci (stepN A B C D E F G H x0))]), (Ab (stepOk A B C D E F G H x0))]), (uV [(Ao 7 v'734), (Ag [(Ci E), (Ci F), (Ci G), (Ci (stepN A B C D E F G H x0))]), (Ab (stepOk A B C D E F G H x0))]), (oV 7 v'734), (aV [(Ci E), (Ci F), (Ci G), (Ci (stepN A B C D E F G H x0))]), (bV (stepOk A B C D E F G H x0)), (pV 4 b730 0), (pV 5 b731 0), (bV (stepOk A B C D E F G H x0))] [(Ho false rs0), (Hc b0 23 [(Ci A), (Ci B), (Ci C), (Ci D)]), (Hw b1 27 true 3 (Co 0 v0)), (Hc b2 29 [(Ci E), (Ci F), (Ci G), (Ci H)]), (Hw b730 33 true 3 (Co 7 v'734)), (Hc b731 34 [(Ci E), (Ci F), (Ci G), (Ci (stepN A B C D E F G H x0))]), (Ho true rs'733), (Ho true rs'735)])))))))))))))))) →
 (Q729 [(aV [(Ci A), (Ci B), (Ci C), (Ci D)]), (aV [(Ci A), (Ci B), (Ci C), (Ci D)]), (oV 0 v0), (oV 6 v'704), (aV [(Ci E), (Ci F), (Ci G), (Ci H)]), (aV [(Ci E), (Ci F), (Ci G), (Ci H)]), (uV [(Ao 7 v'727), (Ag [(Ci E), (Ci F), (Ci G), (Ci (stepN A B C D E F G H x0))]), (Ab (stepOk A B C D E F G H x0))]), (uV [(Ao 7 v'727), (Ag [(Ci E), (Ci F), (Ci G), (Ci (stepN A B C D E F G H x0))]), (Ab (stepOk A B C D E F G H x0))]), (oV 7 v'727), (aV [(Ci E), (Ci F), (Ci G), (Ci (stepN A B C D E F G H x0))]), (bV (stepOk A B C D E F G H x0)), (pV 4 b726 0), (pV 5 b703 0), (bV (stepOk A B C D E F G H x0))] [(Ho false rs0), (Hc b0 23 [(Ci A), (Ci B), (Ci C), (Ci D)]), (Hw b1 27 true 3 (Co 0 v0)), (Hc b2 29 [(Ci E), (Ci F), (Ci G), (Ci H)]), (Hw b726 33 true 3 (Co 7 v'727)), (Hc b703 34 [(Ci E), (Ci F), (Ci G), (Ci (stepN A B C D E F G H x0))]), (Ho true rs'705), (Ho true rs'728)])))))))))))))))))))))) ∧
 (∀ b736 : Nat,
 (True ∧
 (((isArray v0 x0 rs0) ∧
 (capAx x0)) ∧
 (∀ v'737 : Value,
 (∀ rs'738 : (List Row),
 ((isArray v'737 x0 rs'738) →
 (True ∧
 (True ∧
 (((isArray v'737 x0 rs'738) ∧
 (capAx x0)) ∧
 (∀ v'739 : Value,
 (∀ rs'740 : (List Row),
 ((isArray v'739 (stepA A B C D E F G H x0) rs'740) →
 (True ∧
 ((b736 = b736 ∧
 (wholeC true v'739 3)) ∧
 (True ∧
 (b703 = b703 ∧
 (True ∧
 (true = true ∧
 (∀ Q741 : ((List SV) →
 ((List Ch) →
 Prop)),
 ((∀ b742 : Nat,
 (∀ b743 : Nat,
 (b0 = b0 ∧
 (b1 = b1 ∧
 (((isArray v0 x0 rs0) ∧
 (capAx x0)) ∧
 (∀ v'744 : Value,
 (∀ rs'745 : (List Row),
 ((isArray v'744 x0 rs'745) →
 (b2 = b2 ∧
 (((isArray v'744 x0 rs'745) ∧
 (capAx x0)) ∧
 (∀ v'746 : Value,
 (∀ rs'747 : (List Row),
 ((isArray v'746 (stepA A B C D E F G H x0) rs'747) →
 ((b742 = b742 ∧
 (wholeC true v'746 3)) ∧
 (b743 = b743 ∧
 (Q741 [(aV [(Ci A), (Ci B), (Ci C), (Ci D)]), (aV [(Ci A), (Ci B), (Ci C), (Ci D)]), (oV 0 v0), (oV 6 v'744), (aV [(Ci E), (Ci F), (Ci G), (Ci H)]), (aV [(Ci E), (Ci F), (Ci G), (Ci H)]), (uV [(Ao 7 v'746), (Ag [(Ci E), (Ci F), (Ci G), (Ci (stepN A B C D E F G H x0))]), (Ab (stepOk A B C D E F G H x0))]), (uV [(Ao 7 v'746), (Ag [(Ci E), (Ci F), (Ci G), (Ci (stepN A B C D E F G H x0))]), (Ab (stepOk A B C D E F G H x0))]), (oV 7 v'746), (aV [(Ci E), (Ci F), (Ci G), (Ci (stepN A B C D E F G H x0))]), (bV (stepOk A B C D E F G H x0)), (pV 4 b742 0), (pV 5 b743 0), (bV (stepOk A B C D E F G H x0))] [(Ho false rs0), (Hc b0 23 [(Ci A), (Ci B), (Ci C), (Ci D)]), (Hw b1 27 true 3 (Co 0 v0)), (Hc b2 29 [(Ci E), (Ci F), (Ci G), (Ci H)]), (Hw b742 33 true 3 (Co 7 v'746)), (Hc b743 34 [(Ci E), (Ci F), (Ci G), (Ci (stepN A B C D E F G H x0))]), (Ho true rs'745), (Ho true rs'747)])))))))))))))))) →
 (Q741 [(aV [(Ci A), (Ci B), (Ci C), (Ci D)]), (aV [(Ci A), (Ci B), (Ci C), (Ci D)]), (oV 0 v0), (oV 6 v'737), (aV [(Ci E), (Ci F), (Ci G), (Ci H)]), (aV [(Ci E), (Ci F), (Ci G), (Ci H)]), (uV [(Ao 7 v'739), (Ag [(Ci E), (Ci F), (Ci G), (Ci (stepN A B C D E F G H x0))]), (Ab (stepOk A B C D E F G H x0))]), (uV [(Ao 7 v'739), (Ag [(Ci E), (Ci F), (Ci G), (Ci (stepN A B C D E F G H x0))]), (Ab (stepOk A B C D E F G H x0))]), (oV 7 v'739), (aV [(Ci E), (Ci F), (Ci G), (Ci (stepN A B C D E F G H x0))]), (bV (stepOk A B C D E F G H x0)), (pV 4 b736 0), (pV 5 b703 0), (bV (stepOk A B C D E F G H x0))] [(Ho false rs0), (Hc b0 23 [(Ci A), (Ci B), (Ci C), (Ci D)]), (Hw b1 27 true 3 (Co 0 v0)), (Hc b2 29 [(Ci E), (Ci F), (Ci G), (Ci H)]), (Hw b736 33 true 3 (Co 7 v'739)), (Hc b703 34 [(Ci E), (Ci F), (Ci G), (Ci (stepN A B C D E F G H x0))]), (Ho true rs'738), (Ho true rs'740)]))))))))))))))))))))))))))) ∧
 ((∀ b748 : Nat,
 (True ∧
 ((True ∧
 ((((isArray v0 x0 rs0) ∧
 (capAx x0)) ∧
 (∀ v'749 : Value,
 (∀ rs'750 : (List Row),
 ((isArray v'749 x0 rs'750) →
 (True ∧
 ((True ∧
 ((((isArray v'749 x0 rs'750) ∧
 (capAx x0)) ∧
 (∀ v'751 : Value,
 (∀ rs'752 : (List Row),
 ((isArray v'751 (stepA A B C D E F G H x0) rs'752) →
 (True ∧
 (∀ b753 : Nat,
 (True ∧
 ((b748 = b748 ∧
 (wholeC true v'751 3)) ∧
 (True ∧
 (b753 = b753 ∧
 (True ∧
 (true = true ∧
 (∀ Q754 : ((List SV) →
 ((List Ch) →
 Prop)),
 ((∀ b755 : Nat,
 (∀ b756 : Nat,
 (b0 = b0 ∧
 (b1 = b1 ∧
 (((isArray v0 x0 rs0) ∧
 (capAx x0)) ∧
 (∀ v'757 : Value,
 (∀ rs'758 : (List Row),
 ((isArray v'757 x0 rs'758) →
 (b2 = b2 ∧
 (((isArray v'757 x0 rs'758) ∧
 (capAx x0)) ∧
 (∀ v'759 : Value,
 (∀ rs'760 : (List Row),
 ((isArray v'759 (stepA A B C D E F G H x0) rs'760) →
 ((b755 = b755 ∧
 (wholeC true v'759 3)) ∧
 (b756 = b756 ∧
 (Q754 [(aV [(Ci A), (Ci B), (Ci C), (Ci D)]), (aV [(Ci A), (Ci B), (Ci C), (Ci D)]), (oV 0 v0), (oV 6 v'757), (aV [(Ci E), (Ci F), (Ci G), (Ci H)]), (aV [(Ci E), (Ci F), (Ci G), (Ci H)]), (uV [(Ao 7 v'759), (Ag [(Ci E), (Ci F), (Ci G), (Ci (stepN A B C D E F G H x0))]), (Ab (stepOk A B C D E F G H x0))]), (uV [(Ao 7 v'759), (Ag [(Ci E), (Ci F), (Ci G), (Ci (stepN A B C D E F G H x0))]), (Ab (stepOk A B C D E F G H x0))]), (oV 7 v'759), (aV [(Ci E), (Ci F), (Ci G), (Ci (stepN A B C D E F G H x0))]), (bV (stepOk A B C D E F G H x0)), (pV 4 b755 0), (pV 5 b756 0), (bV (stepOk A B C D E F G H x0))] [(Ho false rs0), (Hc b0 23 [(Ci A), (Ci B), (Ci C), (Ci D)]), (Hw b1 27 true 3 (Co 0 v0)), (Hc b2 29 [(Ci E), (Ci F), (Ci G), (Ci H)]), (Hw b755 33 true 3 (Co 7 v'759)), (Hc b756 34 [(Ci E), (Ci F), (Ci G), (Ci (stepN A B C D E F G H x0))]), (Ho true rs'758), (Ho true rs'760)])))))))))))))))) →
 (Q754 [(aV [(Ci A), (Ci B), (Ci C), (Ci D)]), (aV [(Ci A), (Ci B), (Ci C), (Ci D)]), (oV 0 v0), (oV 6 v'749), (aV [(Ci E), (Ci F), (Ci G), (Ci H)]), (aV [(Ci E), (Ci F), (Ci G), (Ci H)]), (uV [(Ao 7 v'751), (Ag [(Ci E), (Ci F), (Ci G), (Ci (stepN A B C D E F G H x0))]), (Ab (stepOk A B C D E F G H x0))]), (uV [(Ao 7 v'751), (Ag [(Ci E), (Ci F), (Ci G), (Ci (stepN A B C D E F G H x0))]), (Ab (stepOk A B C D E F G H x0))]), (oV 7 v'751), (aV [(Ci E), (Ci F), (Ci G), (Ci (stepN A B C D E F G H x0))]), (bV (stepOk A B C D E F G H x0)), (pV 4 b748 0), (pV 5 b753 0), (bV (stepOk A B C D E F G H x0))] [(Ho false rs0), (Hc b0 23 [(Ci A), (Ci B), (Ci C), (Ci D)]), (Hw b1 27 true 3 (Co 0 v0)), (Hc b2 29 [(Ci E), (Ci F), (Ci G), (Ci H)]), (Hw b748 33 true 3 (Co 7 v'751)), (Hc b753 34 [(Ci E), (Ci F), (Ci G), (Ci (stepN A B C D E F G H x0))]), (Ho true rs'750), (Ho true rs'752)]))))))))))))))) ∧
 (∀ b761 : Nat,
 (True ∧
 (((isArray v'749 x0 rs'750) ∧
 (capAx x0)) ∧
 (∀ v'762 : Value,
 (∀ rs'763 : (List Row),
 ((isArray v'762 (stepA A B C D E F G H x0) rs'763) →
 (True ∧
 ((b748 = b748 ∧
 (wholeC true v'762 3)) ∧
 (True ∧
 (b761 = b761 ∧
 (True ∧
 (true = true ∧
 (∀ Q764 : ((List SV) →
 ((List Ch) →
 Prop)),
 ((∀ b765 : Nat,
 (∀ b766 : Nat,
 (b0 = b0 ∧
 (b1 = b1 ∧
 (((isArray v0 x0 rs0) ∧
 (capAx x0)) ∧
 (∀ v'767 : Value,
 (∀ rs'768 : (List Row),
 ((isArray v'767 x0 rs'768) →
 (b2 = b2 ∧
 (((isArray v'767 x0 rs'768) ∧
 (capAx x0)) ∧
 (∀ v'769 : Value,
 (∀ rs'770 : (List Row),
 ((isArray v'769 (stepA A B C D E F G H x0) rs'770) →
 ((b765 = b765 ∧
 (wholeC true v'769 3)) ∧
 (b766 = b766 ∧
 (Q764 [(aV [(Ci A), (Ci B), (Ci C), (Ci D)]), (aV [(Ci A), (Ci B), (Ci C), (Ci D)]), (oV 0 v0), (oV 6 v'767), (aV [(Ci E), (Ci F), (Ci G), (Ci H)]), (aV [(Ci E), (Ci F), (Ci G), (Ci H)]), (uV [(Ao 7 v'769), (Ag [(Ci E), (Ci F), (Ci G), (Ci (stepN A B C D E F G H x0))]), (Ab (stepOk A B C D E F G H x0))]), (uV [(Ao 7 v'769), (Ag [(Ci E), (Ci F), (Ci G), (Ci (stepN A B C D E F G H x0))]), (Ab (stepOk A B C D E F G H x0))]), (oV 7 v'769), (aV [(Ci E), (Ci F), (Ci G), (Ci (stepN A B C D E F G H x0))]), (bV (stepOk A B C D E F G H x0)), (pV 4 b765 0), (pV 5 b766 0), (bV (stepOk A B C D E F G H x0))] [(Ho false rs0), (Hc b0 23 [(Ci A), (Ci B), (Ci C), (Ci D)]), (Hw b1 27 true 3 (Co 0 v0)), (Hc b2 29 [(Ci E), (Ci F), (Ci G), (Ci H)]), (Hw b765 33 true 3 (Co 7 v'769)), (Hc b766 34 [(Ci E), (Ci F), (Ci G), (Ci (stepN A B C D E F G H x0))]), (Ho true rs'768), (Ho true rs'770)])))))))))))))))) →
 (Q764 [(aV [(Ci A), (Ci B), (Ci C), (Ci D)]), (aV [(Ci A), (Ci B), (Ci C), (Ci D)]), (oV 0 v0), (oV 6 v'749), (aV [(Ci E), (Ci F), (Ci G), (Ci H)]), (aV [(Ci E), (Ci F), (Ci G), (Ci H)]), (uV [(Ao 7 v'762), (Ag [(Ci E), (Ci F), (Ci G), (Ci (stepN A B C D E F G H x0))]), (Ab (stepOk A B C D E F G H x0))]), (uV [(Ao 7 v'762), (Ag [(Ci E), (Ci F), (Ci G), (Ci (stepN A B C D E F G H x0))]), (Ab (stepOk A B C D E F G H x0))]), (oV 7 v'762), (aV [(Ci E), (Ci F), (Ci G), (Ci (stepN A B C D E F G H x0))]), (bV (stepOk A B C D E F G H x0)), (pV 4 b748 0), (pV 5 b761 0), (bV (stepOk A B C D E F G H x0))] [(Ho false rs0), (Hc b0 23 [(Ci A), (Ci B), (Ci C), (Ci D)]), (Hw b1 27 true 3 (Co 0 v0)), (Hc b2 29 [(Ci E), (Ci F), (Ci G), (Ci H)]), (Hw b748 33 true 3 (Co 7 v'762)), (Hc b761 34 [(Ci E), (Ci F), (Ci G), (Ci (stepN A B C D E F G H x0))]), (Ho true rs'750), (Ho true rs'763)]))))))))))))))))) ∧
 (∀ b771 : Nat,
 (True ∧
 (True ∧
 (((isArray v'749 x0 rs'750) ∧
 (capAx x0)) ∧
 (∀ v'772 : Value,
 (∀ rs'773 : (List Row),
 ((isArray v'772 (stepA A B C D E F G H x0) rs'773) →
 (True ∧
 ((b748 = b748 ∧
 (wholeC true v'772 3)) ∧
 (True ∧
 (b771 = b771 ∧
 (True ∧
 (true = true ∧
 (∀ Q774 : ((List SV) →
 ((List Ch) →
 Prop)),
 ((∀ b775 : Nat,
 (∀ b776 : Nat,
 (b0 = b0 ∧
 (b1 = b1 ∧
 (((isArray v0 x0 rs0) ∧
 (capAx x0)) ∧
 (∀ v'777 : Value,
 (∀ rs'778 : (List Row),
 ((isArray v'777 x0 rs'778) →
 (b2 = b2 ∧
 (((isArray v'777 x0 rs'778) ∧
 (capAx x0)) ∧
 (∀ v'779 : Value,
 (∀ rs'780 : (List Row),
 ((isArray v'779 (stepA A B C D E F G H x0) rs'780) →
 ((b775 = b775 ∧
 (wholeC true v'779 3)) ∧
 (b776 = b776 ∧
 (Q774 [(aV [(Ci A), (Ci B), (Ci C), (Ci D)]), (aV [(Ci A), (Ci B), (Ci C), (Ci D)]), (oV 0 v0), (oV 6 v'777), (aV [(Ci E), (Ci F), (Ci G), (Ci H)]), (aV [(Ci E), (Ci F), (Ci G), (Ci H)]), (uV [(Ao 7 v'779), (Ag [(Ci E), (Ci F), (Ci G), (Ci (stepN A B C D E F G H x0))]), (Ab (stepOk A B C D E F G H x0))]), (uV [(Ao 7 v'779), (Ag [(Ci E), (Ci F), (Ci G), (Ci (stepN A B C D E F G H x0))]), (Ab (stepOk A B C D E F G H x0))]), (oV 7 v'779), (aV [(Ci E), (Ci F), (Ci G), (Ci (stepN A B C D E F G H x0))]), (bV (stepOk A B C D E F G H x0)), (pV 4 b775 0), (pV 5 b776 0), (bV (stepOk A B C D E F G H x0))] [(Ho false rs0), (Hc b0 23 [(Ci A), (Ci B), (Ci C), (Ci D)]), (Hw b1 27 true 3 (Co 0 v0)), (Hc b2 29 [(Ci E), (Ci F), (Ci G), (Ci H)]), (Hw b775 33 true 3 (Co 7 v'779)), (Hc b776 34 [(Ci E), (Ci F), (Ci G), (Ci (stepN A B C D E F G H x0))]), (Ho true rs'778), (Ho true rs'780)])))))))))))))))) →
 (Q774 [(aV [(Ci A), (Ci B), (Ci C), (Ci D)]), (aV [(Ci A), (Ci B), (Ci C), (Ci D)]), (oV 0 v0), (oV 6 v'749), (aV [(Ci E), (Ci F), (Ci G), (Ci H)]), (aV [(Ci E), (Ci F), (Ci G), (Ci H)]), (uV [(Ao 7 v'772), (Ag [(Ci E), (Ci F), (Ci G), (Ci (stepN A B C D E F G H x0))]), (Ab (stepOk A B C D E F G H x0))]), (uV [(Ao 7 v'772), (Ag [(Ci E), (Ci F), (Ci G), (Ci (stepN A B C D E F G H x0))]), (Ab (stepOk A B C D E F G H x0))]), (oV 7 v'772), (aV [(Ci E), (Ci F), (Ci G), (Ci (stepN A B C D E F G H x0))]), (bV (stepOk A B C D E F G H x0)), (pV 4 b748 0), (pV 5 b771 0), (bV (stepOk A B C D E F G H x0))] [(Ho false rs0), (Hc b0 23 [(Ci A), (Ci B), (Ci C), (Ci D)]), (Hw b1 27 true 3 (Co 0 v0)), (Hc b2 29 [(Ci E), (Ci F), (Ci G), (Ci H)]), (Hw b748 33 true 3 (Co 7 v'772)), (Hc b771 34 [(Ci E), (Ci F), (Ci G), (Ci (stepN A B C D E F G H x0))]), (Ho true rs'750), (Ho true rs'773)])))))))))))))))))))))) ∧
 (∀ b781 : Nat,
 (True ∧
 (((isArray v0 x0 rs0) ∧
 (capAx x0)) ∧
 (∀ v'782 : Value,
 (∀ rs'783 : (List Row),
 ((isArray v'782 x0 rs'783) →
 (True ∧
 (True ∧
 (((isArray v'782 x0 rs'783) ∧
 (capAx x0)) ∧
 (∀ v'784 : Value,
 (∀ rs'785 : (List Row),
 ((isArray v'784 (stepA A B C D E F G H x0) rs'785) →
 (True ∧
 ((b748 = b748 ∧
 (wholeC true v'784 3)) ∧
 (True ∧
 (b781 = b781 ∧
 (True ∧
 (true = true ∧
 (∀ Q786 : ((List SV) →
 ((List Ch) →
 Prop)),
 ((∀ b787 : Nat,
 (∀ b788 : Nat,
 (b0 = b0 ∧
 (b1 = b1 ∧
 (((isArray v0 x0 rs0) ∧
 (capAx x0)) ∧
 (∀ v'789 : Value,
 (∀ rs'790 : (List Row),
 ((isArray v'789 x0 rs'790) →
 (b2 = b2 ∧
 (((isArray v'789 x0 rs'790) ∧
 (capAx x0)) ∧
 (∀ v'791 : Value,
 (∀ rs'792 : (List Row),
 ((isArray v'791 (stepA A B C D E F G H x0) rs'792) →
 ((b787 = b787 ∧
 (wholeC true v'791 3)) ∧
 (b788 = b788 ∧
 (Q786 [(aV [(Ci A), (Ci B), (Ci C), (Ci D)]), (aV [(Ci A), (Ci B), (Ci C), (Ci D)]), (oV 0 v0), (oV 6 v'789), (aV [(Ci E), (Ci F), (Ci G), (Ci H)]), (aV [(Ci E), (Ci F), (Ci G), (Ci H)]), (uV [(Ao 7 v'791), (Ag [(Ci E), (Ci F), (Ci G), (Ci (stepN A B C D E F G H x0))]), (Ab (stepOk A B C D E F G H x0))]), (uV [(Ao 7 v'791), (Ag [(Ci E), (Ci F), (Ci G), (Ci (stepN A B C D E F G H x0))]), (Ab (stepOk A B C D E F G H x0))]), (oV 7 v'791), (aV [(Ci E), (Ci F), (Ci G), (Ci (stepN A B C D E F G H x0))]), (bV (stepOk A B C D E F G H x0)), (pV 4 b787 0), (pV 5 b788 0), (bV (stepOk A B C D E F G H x0))] [(Ho false rs0), (Hc b0 23 [(Ci A), (Ci B), (Ci C), (Ci D)]), (Hw b1 27 true 3 (Co 0 v0)), (Hc b2 29 [(Ci E), (Ci F), (Ci G), (Ci H)]), (Hw b787 33 true 3 (Co 7 v'791)), (Hc b788 34 [(Ci E), (Ci F), (Ci G), (Ci (stepN A B C D E F G H x0))]), (Ho true rs'790), (Ho true rs'792)])))))))))))))))) →
 (Q786 [(aV [(Ci A), (Ci B), (Ci C), (Ci D)]), (aV [(Ci A), (Ci B), (Ci C), (Ci D)]), (oV 0 v0), (oV 6 v'782), (aV [(Ci E), (Ci F), (Ci G), (Ci H)]), (aV [(Ci E), (Ci F), (Ci G), (Ci H)]), (uV [(Ao 7 v'784), (Ag [(Ci E), (Ci F), (Ci G), (Ci (stepN A B C D E F G H x0))]), (Ab (stepOk A B C D E F G H x0))]), (uV [(Ao 7 v'784), (Ag [(Ci E), (Ci F), (Ci G), (Ci (stepN A B C D E F G H x0))]), (Ab (stepOk A B C D E F G H x0))]), (oV 7 v'784), (aV [(Ci E), (Ci F), (Ci G), (Ci (stepN A B C D E F G H x0))]), (bV (stepOk A B C D E F G H x0)), (pV 4 b748 0), (pV 5 b781 0), (bV (stepOk A B C D E F G H x0))] [(Ho false rs0), (Hc b0 23 [(Ci A), (Ci B), (Ci C), (Ci D)]), (Hw b1 27 true 3 (Co 0 v0)), (Hc b2 29 [(Ci E), (Ci F), (Ci G), (Ci H)]), (Hw b748 33 true 3 (Co 7 v'784)), (Hc b781 34 [(Ci E), (Ci F), (Ci G), (Ci (stepN A B C D E F G H x0))]), (Ho true rs'783), (Ho true rs'785)]))))))))))))))))))))))) ∧
 (∀ b793 : Nat,
 (True ∧
 (True ∧
 (((isArray v0 x0 rs0) ∧
 (capAx x0)) ∧
 (∀ v'794 : Value,
 (∀ rs'795 : (List Row),
 ((isArray v'794 x0 rs'795) →
 (True ∧
 (True ∧
 (((isArray v'794 x0 rs'795) ∧
 (capAx x0)) ∧
 (∀ v'796 : Value,
 (∀ rs'797 : (List Row),
 ((isArray v'796 (stepA A B C D E F G H x0) rs'797) →
 (True ∧
 ((b748 = b748 ∧
 (wholeC true v'796 3)) ∧
 (True ∧
 (b793 = b793 ∧
 (True ∧
 (true = true ∧
 (∀ Q798 : ((List SV) →
 ((List Ch) →
 Prop)),
 ((∀ b799 : Nat,
 (∀ b800 : Nat,
 (b0 = b0 ∧
 (b1 = b1 ∧
 (((isArray v0 x0 rs0) ∧
 (capAx x0)) ∧
 (∀ v'801 : Value,
 (∀ rs'802 : (List Row),
 ((isArray v'801 x0 rs'802) →
 (b2 = b2 ∧
 (((isArray v'801 x0 rs'802) ∧
 (capAx x0)) ∧
 (∀ v'803 : Value,
 (∀ rs'804 : (List Row),
 ((isArray v'803 (stepA A B C D E F G H x0) rs'804) →
 ((b799 = b799 ∧
 (wholeC true v'803 3)) ∧
 (b800 = b800 ∧
 (Q798 [(aV [(Ci A), (Ci B), (Ci C), (Ci D)]), (aV [(Ci A), (Ci B), (Ci C), (Ci D)]), (oV 0 v0), (oV 6 v'801), (aV [(Ci E), (Ci F), (Ci G), (Ci H)]), (aV [(Ci E), (Ci F), (Ci G), (Ci H)]), (uV [(Ao 7 v'803), (Ag [(Ci E), (Ci F), (Ci G), (Ci (stepN A B C D E F G H x0))]), (Ab (stepOk A B C D E F G H x0))]), (uV [(Ao 7 v'803), (Ag [(Ci E), (Ci F), (Ci G), (Ci (stepN A B C D E F G H x0))]), (Ab (stepOk A B C D E F G H x0))]), (oV 7 v'803), (aV [(Ci E), (Ci F), (Ci G), (Ci (stepN A B C D E F G H x0))]), (bV (stepOk A B C D E F G H x0)), (pV 4 b799 0), (pV 5 b800 0), (bV (stepOk A B C D E F G H x0))] [(Ho false rs0), (Hc b0 23 [(Ci A), (Ci B), (Ci C), (Ci D)]), (Hw b1 27 true 3 (Co 0 v0)), (Hc b2 29 [(Ci E), (Ci F), (Ci G), (Ci H)]), (Hw b799 33 true 3 (Co 7 v'803)), (Hc b800 34 [(Ci E), (Ci F), (Ci G), (Ci (stepN A B C D E F G H x0))]), (Ho true rs'802), (Ho true rs'804)])))))))))))))))) →
 (Q798 [(aV [(Ci A), (Ci B), (Ci C), (Ci D)]), (aV [(Ci A), (Ci B), (Ci C), (Ci D)]), (oV 0 v0), (oV 6 v'794), (aV [(Ci E), (Ci F), (Ci G), (Ci H)]), (aV [(Ci E), (Ci F), (Ci G), (Ci H)]), (uV [(Ao 7 v'796), (Ag [(Ci E), (Ci F), (Ci G), (Ci (stepN A B C D E F G H x0))]), (Ab (stepOk A B C D E F G H x0))]), (uV [(Ao 7 v'796), (Ag [(Ci E), (Ci F), (Ci G), (Ci (stepN A B C D E F G H x0))]), (Ab (stepOk A B C D E F G H x0))]), (oV 7 v'796), (aV [(Ci E), (Ci F), (Ci G), (Ci (stepN A B C D E F G H x0))]), (bV (stepOk A B C D E F G H x0)), (pV 4 b748 0), (pV 5 b793 0), (bV (stepOk A B C D E F G H x0))] [(Ho false rs0), (Hc b0 23 [(Ci A), (Ci B), (Ci C), (Ci D)]), (Hw b1 27 true 3 (Co 0 v0)), (Hc b2 29 [(Ci E), (Ci F), (Ci G), (Ci H)]), (Hw b748 33 true 3 (Co 7 v'796)), (Hc b793 34 [(Ci E), (Ci F), (Ci G), (Ci (stepN A B C D E F G H x0))]), (Ho true rs'795), (Ho true rs'797)]))))))))))))))))))))))))) ∧
 (∀ b805 : Nat,
 (True ∧
 ((True ∧
 ((((isArray v0 x0 rs0) ∧
 (capAx x0)) ∧
 (∀ v'806 : Value,
 (∀ rs'807 : (List Row),
 ((isArray v'806 x0 rs'807) →
 (True ∧
 ((True ∧
 ((((isArray v'806 x0 rs'807) ∧
 (capAx x0)) ∧
 (∀ v'808 : Value,
 (∀ rs'809 : (List Row),
 ((isArray v'808 (stepA A B C D E F G H x0) rs'809) →
 (True ∧
 (∀ b810 : Nat,
 (True ∧
 ((b810 = b810 ∧
 (wholeC true v'808 3)) ∧
 (True ∧
 (b805 = b805 ∧
 (True ∧
 (true = true ∧
 (∀ Q811 : ((List SV) →
 ((List Ch) →
 Prop)),
 ((∀ b812 : Nat,
 (∀ b813 : Nat,
 (b0 = b0 ∧
 (b1 = b1 ∧
 (((isArray v0 x0 rs0) ∧
 (capAx x0)) ∧
 (∀ v'814 : Value,
 (∀ rs'815 : (List Row),
 ((isArray v'814 x0 rs'815) →
 (b2 = b2 ∧
 (((isArray v'814 x0 rs'815) ∧
 (capAx x0)) ∧
 (∀ v'816 : Value,
 (∀ rs'817 : (List Row),
 ((isArray v'816 (stepA A B C D E F G H x0) rs'817) →
 ((b812 = b812 ∧
 (wholeC true v'816 3)) ∧
 (b813 = b813 ∧
 (Q811 [(aV [(Ci A), (Ci B), (Ci C), (Ci D)]), (aV [(Ci A), (Ci B), (Ci C), (Ci D)]), (oV 0 v0), (oV 6 v'814), (aV [(Ci E), (Ci F), (Ci G), (Ci H)]), (aV [(Ci E), (Ci F), (Ci G), (Ci H)]), (uV [(Ao 7 v'816), (Ag [(Ci E), (Ci F), (Ci G), (Ci (stepN A B C D E F G H x0))]), (Ab (stepOk A B C D E F G H x0))]), (uV [(Ao 7 v'816), (Ag [(Ci E), (Ci F), (Ci G), (Ci (stepN A B C D E F G H x0))]), (Ab (stepOk A B C D E F G H x0))]), (oV 7 v'816), (aV [(Ci E), (Ci F), (Ci G), (Ci (stepN A B C D E F G H x0))]), (bV (stepOk A B C D E F G H x0)), (pV 4 b812 0), (pV 5 b813 0), (bV (stepOk A B C D E F G H x0))] [(Ho false rs0), (Hc b0 23 [(Ci A), (Ci B), (Ci C), (Ci D)]), (Hw b1 27 true 3 (Co 0 v0)), (Hc b2 29 [(Ci E), (Ci F), (Ci G), (Ci H)]), (Hw b812 33 true 3 (Co 7 v'816)), (Hc b813 34 [(Ci E), (Ci F), (Ci G), (Ci (stepN A B C D E F G H x0))]), (Ho true rs'815), (Ho true rs'817)])))))))))))))))) →
 (Q811 [(aV [(Ci A), (Ci B), (Ci C), (Ci D)]), (aV [(Ci A), (Ci B), (Ci C), (Ci D)]), (oV 0 v0), (oV 6 v'806), (aV [(Ci E), (Ci F), (Ci G), (Ci H)]), (aV [(Ci E), (Ci F), (Ci G), (Ci H)]), (uV [(Ao 7 v'808), (Ag [(Ci E), (Ci F), (Ci G), (Ci (stepN A B C D E F G H x0))]), (Ab (stepOk A B C D E F G H x0))]), (uV [(Ao 7 v'808), (Ag [(Ci E), (Ci F), (Ci G), (Ci (stepN A B C D E F G H x0))]), (Ab (stepOk A B C D E F G H x0))]), (oV 7 v'808), (aV [(Ci E), (Ci F), (Ci G), (Ci (stepN A B C D E F G H x0))]), (bV (stepOk A B C D E F G H x0)), (pV 4 b810 0), (pV 5 b805 0), (bV (stepOk A B C D E F G H x0))] [(Ho false rs0), (Hc b0 23 [(Ci A), (Ci B), (Ci C), (Ci D)]), (Hw b1 27 true 3 (Co 0 v0)), (Hc b2 29 [(Ci E), (Ci F), (Ci G), (Ci H)]), (Hw b810 33 true 3 (Co 7 v'808)), (Hc b805 34 [(Ci E), (Ci F), (Ci G), (Ci (stepN A B C D E F G H x0))]), (Ho true rs'807), (Ho true rs'809)]))))))))))))))) ∧
 (∀ b818 : Nat,
 (True ∧
 (((isArray v'806 x0 rs'807) ∧
 (capAx x0)) ∧
 (∀ v'819 : Value,
 (∀ rs'820 : (List Row),
 ((isArray v'819 (stepA A B C D E F G H x0) rs'820) →
 (True ∧
 ((b818 = b818 ∧
 (wholeC true v'819 3)) ∧
 (True ∧
 (b805 = b805 ∧
 (True ∧
 (true = true ∧
 (∀ Q821 : ((List SV) →
 ((List Ch) →
 Prop)),
 ((∀ b822 : Nat,
 (∀ b823 : Nat,
 (b0 = b0 ∧
 (b1 = b1 ∧
 (((isArray v0 x0 rs0) ∧
 (capAx x0)) ∧
 (∀ v'824 : Value,
 (∀ rs'825 : (List Row),
 ((isArray v'824 x0 rs'825) →
 (b2 = b2 ∧
 (((isArray v'824 x0 rs'825) ∧
 (capAx x0)) ∧
 (∀ v'826 : Value,
 (∀ rs'827 : (List Row),
 ((isArray v'826 (stepA A B C D E F G H x0) rs'827) →
 ((b822 = b822 ∧
 (wholeC true v'826 3)) ∧
 (b823 = b823 ∧
 (Q821 [(aV [(Ci A), (Ci B), (Ci C), (Ci D)]), (aV [(Ci A), (Ci B), (Ci C), (Ci D)]), (oV 0 v0), (oV 6 v'824), (aV [(Ci E), (Ci F), (Ci G), (Ci H)]), (aV [(Ci E), (Ci F), (Ci G), (Ci H)]), (uV [(Ao 7 v'826), (Ag [(Ci E), (Ci F), (Ci G), (Ci (stepN A B C D E F G H x0))]), (Ab (stepOk A B C D E F G H x0))]), (uV [(Ao 7 v'826), (Ag [(Ci E), (Ci F), (Ci G), (Ci (stepN A B C D E F G H x0))]), (Ab (stepOk A B C D E F G H x0))]), (oV 7 v'826), (aV [(Ci E), (Ci F), (Ci G), (Ci (stepN A B C D E F G H x0))]), (bV (stepOk A B C D E F G H x0)), (pV 4 b822 0), (pV 5 b823 0), (bV (stepOk A B C D E F G H x0))] [(Ho false rs0), (Hc b0 23 [(Ci A), (Ci B), (Ci C), (Ci D)]), (Hw b1 27 true 3 (Co 0 v0)), (Hc b2 29 [(Ci E), (Ci F), (Ci G), (Ci H)]), (Hw b822 33 true 3 (Co 7 v'826)), (Hc b823 34 [(Ci E), (Ci F), (Ci G), (Ci (stepN A B C D E F G H x0))]), (Ho true rs'825), (Ho true rs'827)])))))))))))))))) →
 (Q821 [(aV [(Ci A), (Ci B), (Ci C), (Ci D)]), (aV [(Ci A), (Ci B), (Ci C), (Ci D)]), (oV 0 v0), (oV 6 v'806), (aV [(Ci E), (Ci F), (Ci G), (Ci H)]), (aV [(Ci E), (Ci F), (Ci G), (Ci H)]), (uV [(Ao 7 v'819), (Ag [(Ci E), (Ci F), (Ci G), (Ci (stepN A B C D E F G H x0))]), (Ab (stepOk A B C D E F G H x0))]), (uV [(Ao 7 v'819), (Ag [(Ci E), (Ci F), (Ci G), (Ci (stepN A B C D E F G H x0))]), (Ab (stepOk A B C D E F G H x0))]), (oV 7 v'819), (aV [(Ci E), (Ci F), (Ci G), (Ci (stepN A B C D E F G H x0))]), (bV (stepOk A B C D E F G H x0)), (pV 4 b818 0), (pV 5 b805 0), (bV (stepOk A B C D E F G H x0))] [(Ho false rs0), (Hc b0 23 [(Ci A), (Ci B), (Ci C), (Ci D)]), (Hw b1 27 true 3 (Co 0 v0)), (Hc b2 29 [(Ci E), (Ci F), (Ci G), (Ci H)]), (Hw b818 33 true 3 (Co 7 v'819)), (Hc b805 34 [(Ci E), (Ci F), (Ci G), (Ci (stepN A B C D E F G H x0))]), (Ho true rs'807), (Ho true rs'820)]))))))))))))))))) ∧
 (∀ b828 : Nat,
 (True ∧
 (True ∧
 (((isArray v'806 x0 rs'807) ∧
 (capAx x0)) ∧
 (∀ v'829 : Value,
 (∀ rs'830 : (List Row),
 ((isArray v'829 (stepA A B C D E F G H x0) rs'830) →
 (True ∧
 ((b828 = b828 ∧
 (wholeC true v'829 3)) ∧
 (True ∧
 (b805 = b805 ∧
 (True ∧
 (true = true ∧
 (∀ Q831 : ((List SV) →
 ((List Ch) →
 Prop)),
 ((∀ b832 : Nat,
 (∀ b833 : Nat,
 (b0 = b0 ∧
 (b1 = b1 ∧
 (((isArray v0 x0 rs0) ∧
 (capAx x0)) ∧
 (∀ v'834 : Value,
 (∀ rs'835 : (List Row),
 ((isArray v'834 x0 rs'835) →
 (b2 = b2 ∧
 (((isArray v'834 x0 rs'835) ∧
 (capAx x0)) ∧
 (∀ v'836 : Value,
 (∀ rs'837 : (List Row),
 ((isArray v'836 (stepA A B C D E F G H x0) rs'837) →
 ((b832 = b832 ∧
 (wholeC true v'836 3)) ∧
 (b833 = b833 ∧
 (Q831 [(aV [(Ci A), (Ci B), (Ci C), (Ci D)]), (aV [(Ci A), (Ci B), (Ci C), (Ci D)]), (oV 0 v0), (oV 6 v'834), (aV [(Ci E), (Ci F), (Ci G), (Ci H)]), (aV [(Ci E), (Ci F), (Ci G), (Ci H)]), (uV [(Ao 7 v'836), (Ag [(Ci E), (Ci F), (Ci G), (Ci (stepN A B C D E F G H x0))]), (Ab (stepOk A B C D E F G H x0))]), (uV [(Ao 7 v'836), (Ag [(Ci E), (Ci F), (Ci G), (Ci (stepN A B C D E F G H x0))]), (Ab (stepOk A B C D E F G H x0))]), (oV 7 v'836), (aV [(Ci E), (Ci F), (Ci G), (Ci (stepN A B C D E F G H x0))]), (bV (stepOk A B C D E F G H x0)), (pV 4 b832 0), (pV 5 b833 0), (bV (stepOk A B C D E F G H x0))] [(Ho false rs0), (Hc b0 23 [(Ci A), (Ci B), (Ci C), (Ci D)]), (Hw b1 27 true 3 (Co 0 v0)), (Hc b2 29 [(Ci E), (Ci F), (Ci G), (Ci H)]), (Hw b832 33 true 3 (Co 7 v'836)), (Hc b833 34 [(Ci E), (Ci F), (Ci G), (Ci (stepN A B C D E F G H x0))]), (Ho true rs'835), (Ho true rs'837)])))))))))))))))) →
 (Q831 [(aV [(Ci A), (Ci B), (Ci C), (Ci D)]), (aV [(Ci A), (Ci B), (Ci C), (Ci D)]), (oV 0 v0), (oV 6 v'806), (aV [(Ci E), (Ci F), (Ci G), (Ci H)]), (aV [(Ci E), (Ci F), (Ci G), (Ci H)]), (uV [(Ao 7 v'829), (Ag [(Ci E), (Ci F), (Ci G), (Ci (stepN A B C D E F G H x0))]), (Ab (stepOk A B C D E F G H x0))]), (uV [(Ao 7 v'829), (Ag [(Ci E), (Ci F), (Ci G), (Ci (stepN A B C D E F G H x0))]), (Ab (stepOk A B C D E F G H x0))]), (oV 7 v'829), (aV [(Ci E), (Ci F), (Ci G), (Ci (stepN A B C D E F G H x0))]), (bV (stepOk A B C D E F G H x0)), (pV 4 b828 0), (pV 5 b805 0), (bV (stepOk A B C D E F G H x0))] [(Ho false rs0), (Hc b0 23 [(Ci A), (Ci B), (Ci C), (Ci D)]), (Hw b1 27 true 3 (Co 0 v0)), (Hc b2 29 [(Ci E), (Ci F), (Ci G), (Ci H)]), (Hw b828 33 true 3 (Co 7 v'829)), (Hc b805 34 [(Ci E), (Ci F), (Ci G), (Ci (stepN A B C D E F G H x0))]), (Ho true rs'807), (Ho true rs'830)])))))))))))))))))))))) ∧
 (∀ b838 : Nat,
 (True ∧
 (((isArray v0 x0 rs0) ∧
 (capAx x0)) ∧
 (∀ v'839 : Value,
 (∀ rs'840 : (List Row),
 ((isArray v'839 x0 rs'840) →
 (True ∧
 (True ∧
 (((isArray v'839 x0 rs'840) ∧
 (capAx x0)) ∧
 (∀ v'841 : Value,
 (∀ rs'842 : (List Row),
 ((isArray v'841 (stepA A B C D E F G H x0) rs'842) →
 (True ∧
 ((b838 = b838 ∧
 (wholeC true v'841 3)) ∧
 (True ∧
 (b805 = b805 ∧
 (True ∧
 (true = true ∧
 (∀ Q843 : ((List SV) →
 ((List Ch) →
 Prop)),
 ((∀ b844 : Nat,
 (∀ b845 : Nat,
 (b0 = b0 ∧
 (b1 = b1 ∧
 (((isArray v0 x0 rs0) ∧
 (capAx x0)) ∧
 (∀ v'846 : Value,
 (∀ rs'847 : (List Row),
 ((isArray v'846 x0 rs'847) →
 (b2 = b2 ∧
 (((isArray v'846 x0 rs'847) ∧
 (capAx x0)) ∧
 (∀ v'848 : Value,
 (∀ rs'849 : (List Row),
 ((isArray v'848 (stepA A B C D E F G H x0) rs'849) →
 ((b844 = b844 ∧
 (wholeC true v'848 3)) ∧
 (b845 = b845 ∧
 (Q843 [(aV [(Ci A), (Ci B), (Ci C), (Ci D)]), (aV [(Ci A), (Ci B), (Ci C), (Ci D)]), (oV 0 v0), (oV 6 v'846), (aV [(Ci E), (Ci F), (Ci G), (Ci H)]), (aV [(Ci E), (Ci F), (Ci G), (Ci H)]), (uV [(Ao 7 v'848), (Ag [(Ci E), (Ci F), (Ci G), (Ci (stepN A B C D E F G H x0))]), (Ab (stepOk A B C D E F G H x0))]), (uV [(Ao 7 v'848), (Ag [(Ci E), (Ci F), (Ci G), (Ci (stepN A B C D E F G H x0))]), (Ab (stepOk A B C D E F G H x0))]), (oV 7 v'848), (aV [(Ci E), (Ci F), (Ci G), (Ci (stepN A B C D E F G H x0))]), (bV (stepOk A B C D E F G H x0)), (pV 4 b844 0), (pV 5 b845 0), (bV (stepOk A B C D E F G H x0))] [(Ho false rs0), (Hc b0 23 [(Ci A), (Ci B), (Ci C), (Ci D)]), (Hw b1 27 true 3 (Co 0 v0)), (Hc b2 29 [(Ci E), (Ci F), (Ci G), (Ci H)]), (Hw b844 33 true 3 (Co 7 v'848)), (Hc b845 34 [(Ci E), (Ci F), (Ci G), (Ci (stepN A B C D E F G H x0))]), (Ho true rs'847), (Ho true rs'849)])))))))))))))))) →
 (Q843 [(aV [(Ci A), (Ci B), (Ci C), (Ci D)]), (aV [(Ci A), (Ci B), (Ci C), (Ci D)]), (oV 0 v0), (oV 6 v'839), (aV [(Ci E), (Ci F), (Ci G), (Ci H)]), (aV [(Ci E), (Ci F), (Ci G), (Ci H)]), (uV [(Ao 7 v'841), (Ag [(Ci E), (Ci F), (Ci G), (Ci (stepN A B C D E F G H x0))]), (Ab (stepOk A B C D E F G H x0))]), (uV [(Ao 7 v'841), (Ag [(Ci E), (Ci F), (Ci G), (Ci (stepN A B C D E F G H x0))]), (Ab (stepOk A B C D E F G H x0))]), (oV 7 v'841), (aV [(Ci E), (Ci F), (Ci G), (Ci (stepN A B C D E F G H x0))]), (bV (stepOk A B C D E F G H x0)), (pV 4 b838 0), (pV 5 b805 0), (bV (stepOk A B C D E F G H x0))] [(Ho false rs0), (Hc b0 23 [(Ci A), (Ci B), (Ci C), (Ci D)]), (Hw b1 27 true 3 (Co 0 v0)), (Hc b2 29 [(Ci E), (Ci F), (Ci G), (Ci H)]), (Hw b838 33 true 3 (Co 7 v'841)), (Hc b805 34 [(Ci E), (Ci F), (Ci G), (Ci (stepN A B C D E F G H x0))]), (Ho true rs'840), (Ho true rs'842)]))))))))))))))))))))))) ∧
 (∀ b850 : Nat,
 (True ∧
 (True ∧
 (((isArray v0 x0 rs0) ∧
 (capAx x0)) ∧
 (∀ v'851 : Value,
 (∀ rs'852 : (List Row),
 ((isArray v'851 x0 rs'852) →
 (True ∧
 (True ∧
 (((isArray v'851 x0 rs'852) ∧
 (capAx x0)) ∧
 (∀ v'853 : Value,
 (∀ rs'854 : (List Row),
 ((isArray v'853 (stepA A B C D E F G H x0) rs'854) →
 (True ∧
 ((b850 = b850 ∧
 (wholeC true v'853 3)) ∧
 (True ∧
 (b805 = b805 ∧
 (True ∧
 (true = true ∧
 (∀ Q855 : ((List SV) →
 ((List Ch) →
 Prop)),
 ((∀ b856 : Nat,
 (∀ b857 : Nat,
 (b0 = b0 ∧
 (b1 = b1 ∧
 (((isArray v0 x0 rs0) ∧
 (capAx x0)) ∧
 (∀ v'858 : Value,
 (∀ rs'859 : (List Row),
 ((isArray v'858 x0 rs'859) →
 (b2 = b2 ∧
 (((isArray v'858 x0 rs'859) ∧
 (capAx x0)) ∧
 (∀ v'860 : Value,
 (∀ rs'861 : (List Row),
 ((isArray v'860 (stepA A B C D E F G H x0) rs'861) →
 ((b856 = b856 ∧
 (wholeC true v'860 3)) ∧
 (b857 = b857 ∧
 (Q855 [(aV [(Ci A), (Ci B), (Ci C), (Ci D)]), (aV [(Ci A), (Ci B), (Ci C), (Ci D)]), (oV 0 v0), (oV 6 v'858), (aV [(Ci E), (Ci F), (Ci G), (Ci H)]), (aV [(Ci E), (Ci F), (Ci G), (Ci H)]), (uV [(Ao 7 v'860), (Ag [(Ci E), (Ci F), (Ci G), (Ci (stepN A B C D E F G H x0))]), (Ab (stepOk A B C D E F G H x0))]), (uV [(Ao 7 v'860), (Ag [(Ci E), (Ci F), (Ci G), (Ci (stepN A B C D E F G H x0))]), (Ab (stepOk A B C D E F G H x0))]), (oV 7 v'860), (aV [(Ci E), (Ci F), (Ci G), (Ci (stepN A B C D E F G H x0))]), (bV (stepOk A B C D E F G H x0)), (pV 4 b856 0), (pV 5 b857 0), (bV (stepOk A B C D E F G H x0))] [(Ho false rs0), (Hc b0 23 [(Ci A), (Ci B), (Ci C), (Ci D)]), (Hw b1 27 true 3 (Co 0 v0)), (Hc b2 29 [(Ci E), (Ci F), (Ci G), (Ci H)]), (Hw b856 33 true 3 (Co 7 v'860)), (Hc b857 34 [(Ci E), (Ci F), (Ci G), (Ci (stepN A B C D E F G H x0))]), (Ho true rs'859), (Ho true rs'861)])))))))))))))))) →
 (Q855 [(aV [(Ci A), (Ci B), (Ci C), (Ci D)]), (aV [(Ci A), (Ci B), (Ci C), (Ci D)]), (oV 0 v0), (oV 6 v'851), (aV [(Ci E), (Ci F), (Ci G), (Ci H)]), (aV [(Ci E), (Ci F), (Ci G), (Ci H)]), (uV [(Ao 7 v'853), (Ag [(Ci E), (Ci F), (Ci G), (Ci (stepN A B C D E F G H x0))]), (Ab (stepOk A B C D E F G H x0))]), (uV [(Ao 7 v'853), (Ag [(Ci E), (Ci F), (Ci G), (Ci (stepN A B C D E F G H x0))]), (Ab (stepOk A B C D E F G H x0))]), (oV 7 v'853), (aV [(Ci E), (Ci F), (Ci G), (Ci (stepN A B C D E F G H x0))]), (bV (stepOk A B C D E F G H x0)), (pV 4 b850 0), (pV 5 b805 0), (bV (stepOk A B C D E F G H x0))] [(Ho false rs0), (Hc b0 23 [(Ci A), (Ci B), (Ci C), (Ci D)]), (Hw b1 27 true 3 (Co 0 v0)), (Hc b2 29 [(Ci E), (Ci F), (Ci G), (Ci H)]), (Hw b850 33 true 3 (Co 7 v'853)), (Hc b805 34 [(Ci E), (Ci F), (Ci G), (Ci (stepN A B C D E F G H x0))]), (Ho true rs'852), (Ho true rs'854)]))))))))))))))))))))))))))))))))))))))))))))) := by kernel_rfl
theorem law_FnExactMoveStep_any (A : Int) (B : Int) (C : Int) (D : Int) (v0 : Value) (rs0 : List Row) (E : Int) (F : Int) (G : Int) (H : Int) (W : World) (bA : -9223372036854775808 ≤ A ∧ A ≤ 9223372036854775807) (bB : -9223372036854775808 ≤ B ∧ B ≤ 9223372036854775807) (bC : -9223372036854775808 ≤ C ∧ C ≤ 9223372036854775807) (bD : -9223372036854775808 ≤ D ∧ D ≤ 9223372036854775807) (x0 : AD) (hx0 : isArray v0 x0 rs0) (hw0 : ∀ r ∈ rs0, r.own = false ∧ r.sat W) (hn0 : lensAx x0) (bE : -9223372036854775808 ≤ E ∧ E ≤ 9223372036854775807) (bF : -9223372036854775808 ≤ F ∧ F ≤ 9223372036854775807) (bG : -9223372036854775808 ≤ G ∧ G ≤ 9223372036854775807) (bH : -9223372036854775808 ≤ H ∧ H ≤ 9223372036854775807) : Calls Try.prog 3 #[.agg #[.int .i64 A, .int .i64 B, .int .i64 C, .int .i64 D], v0, .agg #[.int .i64 E, .int .i64 F, .int .i64 G, .int .i64 H]] W fun e W' => e = .returned (.bool true) ∧ Below W.heap.size W W' := by
  refine fn_ok mixed (E := {tb := [(13, sToArrX x0), (16, sEqArrayO), (18, sMarkArrayO), (19, sHeldArrayO), (10, sSzArrayO), (12, stoGeometry), (14, stoMove), (17, seqMove), (15, sMStepX x0), (11, sMStepX x0)], O := [(5, [11, 12, 0, 1, 2, 3, 4, 5, 6, 7, 8, 9, 10, 13, 14, 15]), (7, [10, 11, 0, 1, 2, 3, 4, 5, 6, 7, 8, 9, 12, 13, 14]), (24, [11, 12, 0, 1, 2, 3, 4, 5, 6, 7, 8, 9, 10, 13, 14, 15])]}) ⟨sToArrX_ok x0, sEqArrayO_ok, sMarkArrayO_ok, sHeldArrayO_ok, sSzArrayO_ok, stoGeometry_okk, stoMove_okk, seqMove_okk, sMStepX_I x0, sMStepX_S x0, trivial⟩ Try.func3 (fun _ _ => loopsOK_nil _ _ _) (@Eq.mpr _ _ (law_FnExactMoveStep_T A B C D v0 rs0 E F G H x0) ?_) (HS.seenAll (fun _ => False) [.obj false rs0] (seenC_obj hw0 seenC_nil)) (fun v ch' w' hk hs => ⟨by rw [hk], hs.below⟩)
  clear hw0
  repeat' (show _; first
    | with_reducible exact rfl
    | with_reducible assumption
    | (intro (Q : List SV → List Ch → Prop) h; repeat (show Q _ _; first | with_reducible exact h | (replace h := h.2) | (refine (fun h => ?_) (h ?_))))
    | with_reducible exact cap_step (by assumption)
    | with_reducible exact capOf1Ax (by assumption)
    | with_reducible exact wholeArray (by assumption)
    | with_reducible exact capOf1Array (by assumption)
    | refine And.intro ?_ ?_
    | apply Exists.intro
    | (refine fun (h : @Eq Bool _ _) => ?_; exfalso; revert h; simp; done)
    | (refine fun (h : @Eq Bool _ _) => ?_; exfalso; simp at h; omega)
    | (refine fun (h : @Eq Bool _ _) => ?_; exfalso; replace h := of_decide_eq_true h; simp only [mk] at h; omega)
    | intro _
    | exact True.intro
    | exact rfl
    | omega
    | (simp only [mk]; omega))
  all_goals (exfalso; rename_i h; rw [eqMv_self] at h; cases h)
theorem walk_FnExactMoveStep (cs0 : Array Value) (cs1 : Array Value) (cs2 : Array Value) (W : World) (h0 : Has W (.cons .int (.cons .int (.cons .int (.cons .int .nil)))) cs0.toList) (h1 : Has W (.cons (.slice (.cons (.slice .int) (.cons .bool .nil))) (.cons (.slice .int) (.cons (.slice .int) .nil))) cs1.toList) (h2 : Has W (.cons .int (.cons .int (.cons .int (.cons .int .nil)))) cs2.toList) : Calls Try.prog 3 #[.agg cs0, .agg cs1, .agg cs2] W fun e W' => e = .returned (.bool true) ∧ Below W.heap.size W W' := by
  obtain ⟨l0, hl0⟩ : ∃ l, cs0.toList = l := ⟨_, rfl⟩
  rw [hl0] at h0
  obtain ⟨aGGroups, _, rfl, baGGroups, h0_f0⟩ := has_int h0
  obtain ⟨aGBanks, _, rfl, baGBanks, h0_f1⟩ := has_int h0_f0
  obtain ⟨aGRows, _, rfl, baGRows, h0_f2⟩ := has_int h0_f1
  obtain ⟨aGCols, _, rfl, baGCols, h0_f3⟩ := has_int h0_f2
  obtain rfl := has_nil h0_f3
  rw [arr_of hl0]
  obtain ⟨l1, hl1⟩ : ∃ l, cs1.toList = l := ⟨_, rfl⟩
  rw [hl1] at h1
  obtain ⟨xaA, vaA, rsaA, evaA, hxaA, hwaA, hnaA⟩ := has_array h1
  rw [arr_of hl1, ← evaA]
  obtain ⟨l2, hl2⟩ : ∃ l, cs2.toList = l := ⟨_, rfl⟩
  rw [hl2] at h2
  obtain ⟨aMBank, _, rfl, baMBank, h2_f0⟩ := has_int h2
  obtain ⟨aMFrom, _, rfl, baMFrom, h2_f1⟩ := has_int h2_f0
  obtain ⟨aMTo, _, rfl, baMTo, h2_f2⟩ := has_int h2_f1
  obtain ⟨aMNext, _, rfl, baMNext, h2_f3⟩ := has_int h2_f2
  obtain rfl := has_nil h2_f3
  rw [arr_of hl2]
  exact law_FnExactMoveStep_any aGGroups aGBanks aGRows aGCols vaA rsaA aMBank aMFrom aMTo aMNext W baGGroups baGBanks baGRows baGCols xaA hxaA hwaA hnaA baMBank baMFrom baMTo baMNext
end Go.Proofs.Ytddeinpnadfgmaa

/-
  FnExactMoveGet.
-/
import Derived.Test.YtddeinpnadfgmaaSxM7
import Derived.Test.YtddeinpnadfgmaaSxHA
namespace Go.Proofs.Ytddeinpnadfgmaa
set_option linter.unusedVariables false
set_option linter.unusedSimpArgs false
open Go.RowKit
set_option maxRecDepth 100000
set_option maxHeartbeats 8000000

abbrev ArrayD := AD
theorem capOf1Array {x : AD} (h : cap1Ax x) : capAx x := capOf1Ax h
theorem capA_of {x : AD} (h : capAx x) : capA x := by
  have h1 : totN x.c.sn x.c.n ≤ 2097152 := h.1
  exact ⟨by have := totN_n (sn := x.c.sn) x.c.n; omega, h.2.1, h.2.2, fun i hi => by have := totN_sn (sn := x.c.sn) hi; omega⟩
theorem totN_set {sn : Nat → Nat} {k m : Nat} : ∀ n : Nat, totN (fun i => if i = k then m else sn i) n ≤ totN sn n + m ∧ (n ≤ k → totN (fun i => if i = k then m else sn i) n = totN sn n) := fun n => by
  induction n with
  | zero => exact ⟨Nat.zero_le _, fun _ => rfl⟩
  | succ n ih =>
    simp only [totN]
    by_cases e : n = k
    · have := ih.2 (by omega)
      simp only [if_pos e]
      exact ⟨by omega, fun h => by omega⟩
    · simp only [if_neg e]
      exact ⟨by omega, fun h => by have := ih.2 (by omega); omega⟩
theorem cap_set {x : AD} {k m : Nat} {f : Nat → Int} {b : Bool} (h : cap1Ax x) (hm : m ≤ 1048576) : capAx (setA x k m f b) := by
  have h1 := (totN_set (sn := x.c.sn) (k := k) (m := m) x.c.n).1
  exact ⟨by show totN _ x.c.n ≤ _; have := h.1; simp only [setA]; omega, by have := h.2.1; show x.aN ≤ _; omega, by have := h.2.2; show x.hN ≤ _; omega⟩
theorem cap_sn {x : AD} (h : cap1Ax x) {i : Nat} (hi : i < x.c.n) : x.c.sn i ≤ 1048576 := by
  have := totN_sn (sn := x.c.sn) hi
  have := h.1
  omega
def sToArrX (x0 : AD) : Sm := fun args ch k =>
  match args with
  | [.a (.c (.obj i v))] =>
    match ch[i]? with
    | some (.obj _ rs) => (isArray v x0 rs ∧ capAx x0) ∧ ∀ (v' : Value) (rs' : List Row), isArray v' x0 rs' → k (.a (.c (.obj ch.length v'))) (ch ++ [.obj true rs']) []
    | _ => False
  | _ => False
theorem sToArrX_ok (x0 : AD) : SmOK Try.prog 13 (sToArrX x0) := by
  refine ⟨sToArrayO_ok_laws_toArray.1, fun X args ch k w h0 hs => sToArrayO_ok_laws_toArray.2 X args ch k w ?_ hs⟩
  unfold sToArrX at h0
  unfold sToArrayO
  split at h0
  · split at h0
    · rename_i hi
      simp only [hi]
      exact ⟨x0, h0⟩
    · exact h0.elim
  · exact h0.elim
theorem totN_put {sn : Nat → Nat} {k m : Nat} (n : Nat) : totN (fun i => if i = k then m else sn i) n ≤ totN sn n + m := (totN_set (sn := sn) (k := k) (m := m) n).1
/-- Within bounds, with a margin. -/
def capM (b : Nat) (x : AD) : Prop := totN x.c.sn x.c.n ≤ b ∧ x.aN ≤ 2097152 ∧ x.hN ≤ 2097152
theorem capM_1 {x : AD} (h : cap1Ax x) : capM 1048576 x := ⟨h.1, by have := h.2.1; omega, by have := h.2.2; omega⟩
theorem capM_ax {x : AD} {b : Nat} (h : capM b x) (hb : b ≤ 2097152) : capAx x := ⟨Nat.le_trans h.1 hb, h.2.1, h.2.2⟩
theorem capM_le {x : AD} {b c : Nat} (h : capM b x) (hb : b ≤ c) : capM c x := ⟨Nat.le_trans h.1 hb, h.2.1, h.2.2⟩
theorem capM_set {x : AD} {b k m : Nat} {f : Nat → Int} {p : Bool} (h : capM b x) : capM (b + m) (setA x k m f p) :=
  ⟨Nat.le_trans (totN_put _) (Nat.add_le_add_right h.1 m), h.2⟩
theorem capM_po {x : AD} {b : Nat} {p : Nat → Bool} (h : capM b x) : capM b (poA x p) := h
theorem capM_get {x : AD} {b k : Nat} (h : capM b x) : capM (b + 11) (getN x k) := by
  unfold getN
  split
  · exact capM_le h (by omega)
  · split
    · exact capM_set h
    · split
      · exact capM_le (capM_po h) (by omega)
      · exact capM_le h (by omega)
theorem cap_mg {gG gB gR gC mB mF mT mN q : Int} {x : AD} (h : cap1Ax x) : capAx (mgA gG gB gR gC mB mF mT mN x q) := by
  have h1 := capM_1 h
  unfold mgA
  split
  · generalize (if ieq mN gC = true then mT else mF) = r
    unfold gwA
    split
    · exact capM_ax (capM_get h1) (by omega)
    · exact capOf1Ax h
  · exact capOf1Ax h
def sMGetX (x : AD) : Sm := fun args ch k =>
  match args with
  | [.a (.agg [c0, c1, c2, c3]), .a (.c (.obj i v)), .a (.agg [e0, e1, e2, e3]), .a (.c f0)] =>
    match ch[i]?, ints [c0, c1, c2, c3, e0, e1, e2, e3, f0] with
    | some (.obj _ rs), some [gG, gB, gR, gC, mB, mF, mT, mN, q] => (isArray v x rs ∧ capAx x) ∧ ∀ (v' : Value) (rs' : List Row), isArray v' (mgA gG gB gR gC mB mF mT mN x q) rs' → k (.tup [.c (.obj ch.length v'), .c (.int (mgX gG gB gR gC mB mF mT mN x q)), .c (.int (mgC gG gB gR gC mB mF mT mN x q))]) (ch ++ [.obj true rs']) []
    | _, _ => False
  | _ => False
theorem sMGetX_I (x : AD) : SmOK Try.prog 40 (sMGetX x) := by
  refine smArr Try.call40 fun args ch k w X h0 hs => ?_
  unfold sMGetX at h0
  split at h0
  · rename_i c0 c1 c2 c3 i v e0 e1 e2 e3 f0
    split at h0
    · rename_i o rs gG gB gR gC mB mF mT mN q hid hi
      obtain ⟨q0, hi⟩ := ints_cons hi
      obtain ⟨q1, hi⟩ := ints_cons hi
      obtain ⟨q2, hi⟩ := ints_cons hi
      obtain ⟨q3, hi⟩ := ints_cons hi
      obtain ⟨q4, hi⟩ := ints_cons hi
      obtain ⟨q5, hi⟩ := ints_cons hi
      obtain ⟨q6, hi⟩ := ints_cons hi
      obtain ⟨q7, hi⟩ := ints_cons hi
      obtain ⟨q8, hi⟩ := ints_cons hi
      obtain ⟨⟨hx, hc⟩, h1⟩ := h0
      obtain ⟨O, A, H, C, D, E, so, sc, rfl, hA⟩ := isA_seen hx (hs.seeObj hid)
      have e20 : SA.den (.agg [c0, c1, c2, c3]) = .agg #[.int .i64 gG, .int .i64 gB, .int .i64 gR, .int .i64 gC] := by simp only [SA.den, den_c, List.map_cons, List.map_nil, q0, q1, q2, q3]
      have e21 : SA.den (.agg [e0, e1, e2, e3]) = .agg #[.int .i64 mB, .int .i64 mF, .int .i64 mT, .int .i64 mN] := by simp only [SA.den, den_c, List.map_cons, List.map_nil, q4, q5, q6, q7]
      have e22 : SA.den (.c f0) = .int .i64 q := by simp only [SA.den, den_c, List.map_cons, List.map_nil, q8]
      refine ⟨mgA gG gB gR gC mB mF mT mN x q, fun s => .tup [s, .c (.int (mgX gG gB gR gC mB mF mT mN x q)), .c (.int (mgC gG gB gR gC mB mF mT mN x q))], fun id v' rs' hv => ?_, ?_⟩
      · by_cases e : id = ch.length
        · subst e; exact .inl (h1 v' rs' hv)
        · exact .inr e
      · simp only [List.map_cons, List.map_nil, den_a, e20, e21, e22]
        exact Calls.mono (mgtI_all x O A H C D E so sc gG gB gR gC mB mF mT mN q w hA (capA_of hc)) fun e w' ⟨O', A', H', C', D', E', so', sc', he, hn⟩ => ⟨O', A', H', C', D', E', so', sc', fun _ => by rw [he]; rfl, hn⟩
    · exact h0.elim
  · exact h0.elim
theorem sMGetX_S (x : AD) : SmOK Try.prog 42 (sMGetX x) := by
  refine smArr Try.call42 fun args ch k w X h0 hs => ?_
  unfold sMGetX at h0
  split at h0
  · rename_i c0 c1 c2 c3 i v e0 e1 e2 e3 f0
    split at h0
    · rename_i o rs gG gB gR gC mB mF mT mN q hid hi
      obtain ⟨q0, hi⟩ := ints_cons hi
      obtain ⟨q1, hi⟩ := ints_cons hi
      obtain ⟨q2, hi⟩ := ints_cons hi
      obtain ⟨q3, hi⟩ := ints_cons hi
      obtain ⟨q4, hi⟩ := ints_cons hi
      obtain ⟨q5, hi⟩ := ints_cons hi
      obtain ⟨q6, hi⟩ := ints_cons hi
      obtain ⟨q7, hi⟩ := ints_cons hi
      obtain ⟨q8, hi⟩ := ints_cons hi
      obtain ⟨⟨hx, hc⟩, h1⟩ := h0
      obtain ⟨O, A, H, C, D, E, so, sc, rfl, hA⟩ := isA_seen hx (hs.seeObj hid)
      have e20 : SA.den (.agg [c0, c1, c2, c3]) = .agg #[.int .i64 gG, .int .i64 gB, .int .i64 gR, .int .i64 gC] := by simp only [SA.den, den_c, List.map_cons, List.map_nil, q0, q1, q2, q3]
      have e21 : SA.den (.agg [e0, e1, e2, e3]) = .agg #[.int .i64 mB, .int .i64 mF, .int .i64 mT, .int .i64 mN] := by simp only [SA.den, den_c, List.map_cons, List.map_nil, q4, q5, q6, q7]
      have e22 : SA.den (.c f0) = .int .i64 q := by simp only [SA.den, den_c, List.map_cons, List.map_nil, q8]
      refine ⟨mgA gG gB gR gC mB mF mT mN x q, fun s => .tup [s, .c (.int (mgX gG gB gR gC mB mF mT mN x q)), .c (.int (mgC gG gB gR gC mB mF mT mN x q))], fun id v' rs' hv => ?_, ?_⟩
      · by_cases e : id = ch.length
        · subst e; exact .inl (h1 v' rs' hv)
        · exact .inr e
      · simp only [List.map_cons, List.map_nil, den_a, e20, e21, e22]
        exact Calls.mono (mgtS_all x O A H C D E so sc gG gB gR gC mB mF mT mN q w hA (capA_of hc)) fun e w' ⟨O', A', H', C', D', E', so', sc', he, hn⟩ => ⟨O', A', H', C', D', E', so', sc', fun _ => by rw [he]; rfl, hn⟩
    · exact h0.elim
  · exact h0.elim
theorem ctoGeometry_T (gGroups gBanks gRows gCols : Int) : (exFn Try.prog {tb := []} 400 Try.f12 ([.a (.agg [.int gGroups, .int gBanks, .int gRows, .int gCols])]) ([]) (fun v _ => v.den = .agg #[.int .i64 (gGroups), .int .i64 (gBanks), .int .i64 (gRows), .int .i64 (gCols)])) = (
  (∀ b0 : Nat,
 (∀ b1 : Nat,
 (∀ b2 : Nat,
 (b0 = b0 ∧
 (b2 = b2 ∧
 (b0 = b0 ∧
 (b2 = b2 ∧
 (b0 = b0 ∧
 (b2 = b2 ∧
 (b0 = b0 ∧
 (b2 = b2 ∧
 (b2 = b2 ∧
 (b1 = b1 ∧
 (b1 = b1 ∧
 (Wa [(Wi gGroups), (Wi gBanks), (Wi gRows), (Wi gCols)]) = (Wa [(Wi gGroups), (Wi gBanks), (Wi gRows), (Wi gCols)])))))))))))))))) := by kernel_rfl
theorem ctoGeometry_any (gGroups gBanks gRows gCols : Int) (w : World) : Calls Try.prog 12 #[.agg #[.int .i64 gGroups, .int .i64 gBanks, .int .i64 gRows, .int .i64 gCols]] w fun e w' => e = .returned (.agg #[.int .i64 (gGroups), .int .i64 (gBanks), .int .i64 (gRows), .int .i64 (gCols)]) ∧ Below w.heap.size w w' := by
  refine fnB (tb := []) trivial Try.func12 (@Eq.mpr _ _ (ctoGeometry_T gGroups gBanks gRows gCols) ?_) (HS.start w (fun _ => False)) (fun v ch' w' hk hs => ⟨by rw [hk], hs.below⟩)
  repeat' (first | exact rfl | exact True.intro | refine And.intro ?_ ?_ | intro _)
  all_goals (try (simp_all; done))
  all_goals (try (simp_all; omega))
def stoGeometry : Sm := fun args ch k =>
  match args with
  | [.a (.agg [c0, c1, c2, c3])] =>
    match ints [c0, c1, c2, c3], bools [] with
    | some [gGroups, gBanks, gRows, gCols], some [] => k (.a (.agg [.int (gGroups), .int (gBanks), .int (gRows), .int (gCols)])) ch []
    | _, _ => False
  | _ => False
theorem stoGeometry_ok {f : FuncId} (hc : ∀ args w, (callFunc f args).run Try.prog w = .ok (.enter f args) w) (h : ∀ (gGroups gBanks gRows gCols : Int) (w : World), Calls Try.prog f #[.agg #[.int .i64 gGroups, .int .i64 gBanks, .int .i64 gRows, .int .i64 gCols]] w fun e w' => e = .returned (.agg #[.int .i64 (gGroups), .int .i64 (gBanks), .int .i64 (gRows), .int .i64 (gCols)]) ∧ Below w.heap.size w w') : SmOK Try.prog f stoGeometry := by
  refine smB hc fun args ch k w X h0 hs => ?_
  unfold stoGeometry at h0
  split at h0
  · split at h0
    · rename_i gGroups gBanks gRows gCols hi hb
      obtain ⟨e0, hi1⟩ := ints_cons hi
      obtain ⟨e1, hi2⟩ := ints_cons hi1
      obtain ⟨e2, hi3⟩ := ints_cons hi2
      obtain ⟨e3, hi4⟩ := ints_cons hi3
      refine ⟨_, h0, ?_⟩
      simp only [List.map_cons, List.map_nil, den_a, den_c, SA.den, e0, e1, e2, e3]
      exact h gGroups gBanks gRows gCols w
    · exact h0.elim
  · exact h0.elim
theorem stoGeometry_okk : SmOK Try.prog 12 stoGeometry := stoGeometry_ok Try.call12 ctoGeometry_any
theorem ctoMove_T (gBank gFrom gTo gNext : Int) : (exFn Try.prog {tb := []} 400 Try.f14 ([.a (.agg [.int gBank, .int gFrom, .int gTo, .int gNext])]) ([]) (fun v _ => v.den = .agg #[.int .i64 (gBank), .int .i64 (gFrom), .int .i64 (gTo), .int .i64 (gNext)])) = (
  (∀ b0 : Nat,
 (∀ b1 : Nat,
 (∀ b2 : Nat,
 (b0 = b0 ∧
 (b2 = b2 ∧
 (b0 = b0 ∧
 (b2 = b2 ∧
 (b0 = b0 ∧
 (b2 = b2 ∧
 (b0 = b0 ∧
 (b2 = b2 ∧
 (b2 = b2 ∧
 (b1 = b1 ∧
 (b1 = b1 ∧
 (Wa [(Wi gBank), (Wi gFrom), (Wi gTo), (Wi gNext)]) = (Wa [(Wi gBank), (Wi gFrom), (Wi gTo), (Wi gNext)])))))))))))))))) := by kernel_rfl
theorem ctoMove_any (gBank gFrom gTo gNext : Int) (w : World) : Calls Try.prog 14 #[.agg #[.int .i64 gBank, .int .i64 gFrom, .int .i64 gTo, .int .i64 gNext]] w fun e w' => e = .returned (.agg #[.int .i64 (gBank), .int .i64 (gFrom), .int .i64 (gTo), .int .i64 (gNext)]) ∧ Below w.heap.size w w' := by
  refine fnB (tb := []) trivial Try.func14 (@Eq.mpr _ _ (ctoMove_T gBank gFrom gTo gNext) ?_) (HS.start w (fun _ => False)) (fun v ch' w' hk hs => ⟨by rw [hk], hs.below⟩)
  repeat' (first | exact rfl | exact True.intro | refine And.intro ?_ ?_ | intro _)
  all_goals (try (simp_all; done))
  all_goals (try (simp_all; omega))
def stoMove : Sm := fun args ch k =>
  match args with
  | [.a (.agg [c0, c1, c2, c3])] =>
    match ints [c0, c1, c2, c3], bools [] with
    | some [gBank, gFrom, gTo, gNext], some [] => k (.a (.agg [.int (gBank), .int (gFrom), .int (gTo), .int (gNext)])) ch []
    | _, _ => False
  | _ => False
theorem stoMove_ok {f : FuncId} (hc : ∀ args w, (callFunc f args).run Try.prog w = .ok (.enter f args) w) (h : ∀ (gBank gFrom gTo gNext : Int) (w : World), Calls Try.prog f #[.agg #[.int .i64 gBank, .int .i64 gFrom, .int .i64 gTo, .int .i64 gNext]] w fun e w' => e = .returned (.agg #[.int .i64 (gBank), .int .i64 (gFrom), .int .i64 (gTo), .int .i64 (gNext)]) ∧ Below w.heap.size w w') : SmOK Try.prog f stoMove := by
  refine smB hc fun args ch k w X h0 hs => ?_
  unfold stoMove at h0
  split at h0
  · split at h0
    · rename_i gBank gFrom gTo gNext hi hb
      obtain ⟨e0, hi1⟩ := ints_cons hi
      obtain ⟨e1, hi2⟩ := ints_cons hi1
      obtain ⟨e2, hi3⟩ := ints_cons hi2
      obtain ⟨e3, hi4⟩ := ints_cons hi3
      refine ⟨_, h0, ?_⟩
      simp only [List.map_cons, List.map_nil, den_a, den_c, SA.den, e0, e1, e2, e3]
      exact h gBank gFrom gTo gNext w
    · exact h0.elim
  · exact h0.elim
theorem stoMove_okk : SmOK Try.prog 14 stoMove := stoMove_ok Try.call14 ctoMove_any
theorem law_FnExactMoveGet_T (A : Int) (B : Int) (C : Int) (D : Int) (v0 : Value) (rs0 : List Row) (E : Int) (F : Int) (G : Int) (H : Int) (I : Int) (x0 : AD) : (exFn Try.prog {tb := [(13, sToArrX x0), (16, sEqArrayO), (18, sMarkArrayO), (19, sHeldArrayO), (10, sSzArrayO), (12, stoGeometry), (14, stoMove), (40, sMGetX x0), (42, sMGetX x0)], O := [(5, [12, 0, 1, 2, 3, 4, 5, 6, 7, 8, 9, 10, 11, 13, 14, 15]), (7, [11, 0, 1, 2, 3, 4, 5, 6, 7, 8, 9, 10, 12, 13, 14]), (24, [12, 0, 1, 2, 3, 4, 5, 6, 7, 8, 9, 10, 11, 13, 14, 15])]} 400 Try.f9 ([.a (.agg [.int A, .int B, .int C, .int D]), .a (.c (.obj 0 v0)), .a (.agg [.int E, .int F, .int G, .int H]), .a (.c (.int I))]) ([.obj false rs0]) (fun v _ => v.den = .bool true)) = (
  (∀ b0 : Nat,
 ((wholeC true v0 3) ∧
 (∀ b1 : Nat,
 (∀ b2 : Nat,
 (b1 = b1 ∧
 (∃ x3 : AD, (((isArray v0 x3 rs0) ∧
 ((lensAx x3) ∧
 (szK1 (1048576 : Int)))) ∧
 ((Wb true) = (Wb true) ∧
 (∀ z4 : Int,
 ((szO z4 (1048576 : Int)) →
 ((cap1Ax x3) →
 (((decide (z4 < (0 : Int))) = true →
 (Wb true) = (Wb true)) ∧
 ((decide (z4 < (0 : Int))) = false →
 ((∀ b5 : Nat,
 (b0 = b0 ∧
 (b1 = b1 ∧
 (((isArray v0 x0 rs0) ∧
 (capAx x0)) ∧
 (∀ v'6 : Value,
 (∀ rs'7 : (List Row),
 ((isArray v'6 x0 rs'7) →
 (b2 = b2 ∧
 (((isArray v'6 x0 rs'7) ∧
 (capAx x0)) ∧
 (∀ v'8 : Value,
 (∀ rs'9 : (List Row),
 ((isArray v'8 (mgA A B C D E F G H x0 I) rs'9) →
 ((b5 = b5 ∧
 (wholeC true v'8 3)) ∧
 (b1 = b1 ∧
 (((isArray v0 x0 rs0) ∧
 (capAx x0)) ∧
 (∀ v'10 : Value,
 (∀ rs'11 : (List Row),
 ((isArray v'10 x0 rs'11) →
 (∀ b12 : Nat,
 ((b12 = b12 ∧
 (wholeC true v'10 3)) ∧
 ((∀ b13 : Nat,
 (b0 = b0 ∧
 (b12 = b12 ∧
 (b2 = b2 ∧
 (((isArray v'10 x0 rs'11) ∧
 (capAx x0)) ∧
 (∀ v'14 : Value,
 (∀ rs'15 : (List Row),
 ((isArray v'14 (mgA A B C D E F G H x0 I) rs'15) →
 ((b13 = b13 ∧
 (wholeC true v'14 3)) ∧
 (b13 = b13 ∧
 (b5 = b5 ∧
 (∃ x16 : AD, (((isArray v'14 x16 rs'15) ∧
 ((isArray v'8 x16 rs'9) ∧
 (capAx x16))) ∧
 ((((mgX A B C D E F G H x0 I) != (mgX A B C D E F G H x0 I)) = false →
 ((((mgC A B C D E F G H x0 I) != (mgC A B C D E F G H x0 I)) = true →
 (Wb false) = (Wb true)) ∧
 (((mgC A B C D E F G H x0 I) != (mgC A B C D E F G H x0 I)) = false →
 (b12 = b12 ∧
 (b1 = b1 ∧
 (((isArray v0 x0 rs0) ∧
 (capAx x0)) ∧
 (∀ v'17 : Value,
 (∀ rs'18 : (List Row),
 ((isArray v'17 x0 rs'18) →
 (True ∧
 (∃ x19 : AD, (((isArray v'10 x19 rs'11) ∧
 ((isArray v'17 x19 rs'18) ∧
 (capAx x19))) ∧
 (True ∧
 (b12 = b12 ∧
 (∃ x20 : AD, (((isArray v'10 x20 rs'11) ∧
 ((capAx x20) ∧
 (mrkC (1 : Int)))) ∧
 ((endC (1 : Int) (endArray (1 : Int) x20) (50331648 : Int)) →
 (∀ rs'21 : (List Row),
 ((isArray v'10 (markArrayD (1 : Int) x20) rs'21) →
 (((decide ((endArray (1 : Int) x20) < (0 : Int))) = false →
 (b13 = b13 ∧
 (b5 = b5 ∧
 (∃ x22 : AD, (((isArray v'14 x22 rs'15) ∧
 ((isArray v'8 x22 rs'9) ∧
 (capAx x22))) ∧
 ((((mgX A B C D E F G H x0 I) != (mgX A B C D E F G H x0 I)) = false →
 ((((mgC A B C D E F G H x0 I) != (mgC A B C D E F G H x0 I)) = true →
 (Wb false) = (Wb true)) ∧
 (((mgC A B C D E F G H x0 I) != (mgC A B C D E F G H x0 I)) = false →
 (b13 = b13 ∧
 (∃ x23 : AD, (((isArray v'14 x23 rs'15) ∧
 ((capAx x23) ∧
 (mrkC (1 : Int)))) ∧
 ((endC (1 : Int) (endArray (1 : Int) x23) (50331648 : Int)) →
 (∀ rs'24 : (List Row),
 ((isArray v'14 (markArrayD (1 : Int) x23) rs'24) →
 (b13 = b13 ∧
 (∃ x25 : AD, (((isArray v'14 (markArrayD (1 : Int) x25) rs'24) ∧
 ((capAx x25) ∧
 (mrkC (1 : Int)))) ∧
 (((decide ((endArray (1 : Int) x25) < (0 : Int))) = true →
 (Wb false) = (Wb true)) ∧
 ((decide ((endArray (1 : Int) x25) < (0 : Int))) = false →
 ((((endArray (1 : Int) x25) != (endArray (1 : Int) x23)) = true →
 (Wb false) = (Wb true)) ∧
 (((endArray (1 : Int) x25) != (endArray (1 : Int) x23)) = false →
 ((∀ b26 : Nat,
 (b0 = b0 ∧
 (b1 = b1 ∧
 (((isArray v0 x0 rs0) ∧
 (capAx x0)) ∧
 (∀ v'27 : Value,
 (∀ rs'28 : (List Row),
 ((isArray v'27 x0 rs'28) →
 (b2 = b2 ∧
 (((isArray v'27 x0 rs'28) ∧
 (capAx x0)) ∧
 (∀ v'29 : Value,
 (∀ rs'30 : (List Row),
 ((isArray v'29 (mgA A B C D E F G H x0 I) rs'30) →
 ((b26 = b26 ∧
 (wholeC true v'29 3)) ∧
 (b26 = b26 ∧
 (b5 = b5 ∧
 (∃ x31 : AD, (((isArray v'29 x31 rs'30) ∧
 ((isArray v'8 x31 rs'9) ∧
 (capAx x31))) ∧
 ((((mgX A B C D E F G H x0 I) != (mgX A B C D E F G H x0 I)) = false →
 ((((mgC A B C D E F G H x0 I) != (mgC A B C D E F G H x0 I)) = true →
 (Wb false) = (Wb true)) ∧
 (((mgC A B C D E F G H x0 I) != (mgC A B C D E F G H x0 I)) = false →
 (b13 = b13 ∧
 (∃ x32 : AD, (((isArray v'14 (markArrayD (1 : Int) x32) rs'24) ∧
 ((capAx x32) ∧
 (mrkC (1 : Int)))) ∧
 (((decide ((endArray (1 : Int) x32) < (0 : Int))) = true →
 (Wb false) = (Wb true)) ∧
 ((decide ((endArray (1 : Int) x32) < (0 : Int))) = false →
 ((((endArray (1 : Int) x32) != (endArray (1 : Int) x23)) = true →
 (Wb false) = (Wb true)) ∧
 (((endArray (1 : Int) x32) != (endArray (1 : Int) x23)) = false →
 (Wb true) = (Wb true))))))))))) ∧
 (((mgX A B C D E F G H x0 I) != (mgX A B C D E F G H x0 I)) = true →
 (Wb false) = (Wb true)))))))))))))))))))) ∧
 (b0 = b0 ∧
 (b1 = b1 ∧
 (b2 = b2 ∧
 ((True ∧
 ((((isArray v0 x0 rs0) ∧
 (capAx x0)) ∧
 (∀ v'33 : Value,
 (∀ rs'34 : (List Row),
 ((isArray v'33 x0 rs'34) →
 (True ∧
 ((True ∧
 ((((isArray v'33 x0 rs'34) ∧
 (capAx x0)) ∧
 (∀ v'35 : Value,
 (∀ rs'36 : (List Row),
 ((isArray v'35 (mgA A B C D E F G H x0 I) rs'36) →
 (True ∧
 (∀ b37 : Nat,
 (True ∧
 ((b37 = b37 ∧
 (wholeC true v'35 3)) ∧
 (True ∧
 (true = true ∧
 (∀ Q38 : ((List SV) →
 ((List Ch) →
 Prop)),
 ((∀ b39 : Nat,
 (b0 = b0 ∧
 (b1 = b1 ∧
 (((isArray v0 x0 rs0) ∧
 (capAx x0)) ∧
 (∀ v'40 : Value,
 (∀ rs'41 : (List Row),
 ((isArray v'40 x0 rs'41) →
 (b2 = b2 ∧
 (((isArray v'40 x0 rs'41) ∧
 (capAx x0)) ∧
 (∀ v'42 : Value,
 (∀ rs'43 : (List Row),
 ((isArray v'42 (mgA A B C D E F G H x0 I) rs'43) →
 ((b39 = b39 ∧
 (wholeC true v'42 3)) ∧
 (Q38 [(aV [(Ci A), (Ci B), (Ci C), (Ci D)]), (aV [(Ci A), (Ci B), (Ci C), (Ci D)]), (oV 0 v0), (oV 13 v'40), (aV [(Ci E), (Ci F), (Ci G), (Ci H)]), (aV [(Ci E), (Ci F), (Ci G), (Ci H)]), (iV I), (uV [(Ao 14 v'42), (Ai (mgX A B C D E F G H x0 I)), (Ai (mgC A B C D E F G H x0 I))]), (uV [(Ao 14 v'42), (Ai (mgX A B C D E F G H x0 I)), (Ai (mgC A B C D E F G H x0 I))]), (oV 14 v'42), (iV (mgX A B C D E F G H x0 I)), (iV (mgC A B C D E F G H x0 I)), (pV 12 b39 0), (iV (mgX A B C D E F G H x0 I)), (iV (mgC A B C D E F G H x0 I))] [(Ho false rs0), (Hc b0 23 [(Ci A), (Ci B), (Ci C), (Ci D)]), (Hw b1 27 true 3 (Co 0 v0)), (Hc b2 29 [(Ci E), (Ci F), (Ci G), (Ci H)]), (Hw b5 33 true 3 (Co 6 v'8)), (Ho true rs'7), (Ho true rs'9), (Ho true rs'21), (Hw b12 33 true 3 (Co 7 v'10)), (Hw b13 33 true 3 (Co 10 v'14)), (Ho true rs'24), (Ho true rs'18), (Hw b39 33 true 3 (Co 14 v'42)), (Ho true rs'41), (Ho true rs'43)])))))))))))))) →
 (Q38 [(aV [(Ci A), (Ci B), (Ci C), (Ci D)]), (aV [(Ci A), (Ci B), (Ci C), (Ci D)]), (oV 0 v0), (oV 13 v'33), (aV [(Ci E), (Ci F), (Ci G), (Ci H)]), (aV [(Ci E), (Ci F), (Ci G), (Ci H)]), (iV I), (uV [(Ao 14 v'35), (Ai (mgX A B C D E F G H x0 I)), (Ai (mgC A B C D E F G H x0 I))]), (uV [(Ao 14 v'35), (Ai (mgX A B C D E F G H x0 I)), (Ai (mgC A B C D E F G H x0 I))]), (oV 14 v'35), (iV (mgX A B C D E F G H x0 I)), (iV (mgC A B C D E F G H x0 I)), (pV 12 b37 0), (iV (mgX A B C D E F G H x0 I)), (iV (mgC A B C D E F G H x0 I))] [(Ho false rs0), (Hc b0 23 [(Ci A), (Ci B), (Ci C), (Ci D)]), (Hw b1 27 true 3 (Co 0 v0)), (Hc b2 29 [(Ci E), (Ci F), (Ci G), (Ci H)]), (Hw b5 33 true 3 (Co 6 v'8)), (Ho true rs'7), (Ho true rs'9), (Ho true rs'21), (Hw b12 33 true 3 (Co 7 v'10)), (Hw b13 33 true 3 (Co 10 v'14)), (Ho true rs'24), (Ho true rs'18), (Hw b37 33 true 3 (Co 14 v'35)), (Ho true rs'34), (Ho true rs'36)]))))))))))))) ∧
 (∀ b44 : Nat,
 (True ∧
 (((isArray v'33 x0 rs'34) ∧
 (capAx x0)) ∧
 (∀ v'45 : Value,
 (∀ rs'46 : (List Row),
 ((isArray v'45 (mgA A B C D E F G H x0 I) rs'46) →
 (True ∧
 ((b44 = b44 ∧
 (wholeC true v'45 3)) ∧
 (True ∧
 (true = true ∧
 (∀ Q47 : ((List SV) →
 ((List Ch) →
 Prop)),
 ((∀ b48 : Nat,
 (b0 = b0 ∧
 (b1 = b1 ∧
 (((isArray v0 x0 rs0) ∧
 (capAx x0)) ∧
 (∀ v'49 : Value,
 (∀ rs'50 : (List Row),
 ((isArray v'49 x0 rs'50) →
 (b2 = b2 ∧
 (((isArray v'49 x0 rs'50) ∧
 (capAx x0)) ∧
 (∀ v'51 : Value,
 (∀ rs'52 : (List Row),
 ((isArray v'51 (mgA A B C D E F G H x0 I) rs'52) →
 ((b48 = b48 ∧
 (wholeC true v'51 3)) ∧
 (Q47 [(aV [(Ci A), (Ci B), (Ci C), (Ci D)]), (aV [(Ci A), (Ci B), (Ci C), (Ci D)]), (oV 0 v0), (oV 13 v'49), (aV [(Ci E), (Ci F), (Ci G), (Ci H)]), (aV [(Ci E), (Ci F), (Ci G), (Ci H)]), (iV I), (uV [(Ao 14 v'51), (Ai (mgX A B C D E F G H x0 I)), (Ai (mgC A B C D E F G H x0 I))]), (uV [(Ao 14 v'51), (Ai (mgX A B C D E F G H x0 I)), (Ai (mgC A B C D E F G H x0 I))]), (oV 14 v'51), (iV (mgX A B C D E F G H x0 I)), (iV (mgC A B C D E F G H x0 I)), (pV 12 b48 0), (iV (mgX A B C D E F G H x0 I)), (iV (mgC A B C D E F G H x0 I))] [(Ho false rs0), (Hc b0 23 [(Ci A), (Ci B), (Ci C), (Ci D)]), (Hw b1 27 true 3 (Co 0 v0)), (Hc b2 29 [(Ci E), (Ci F), (Ci G), (Ci H)]), (Hw b5 33 true 3 (Co 6 v'8)), (Ho true rs'7), (Ho true rs'9), (Ho true rs'21), (Hw b12 33 true 3 (Co 7 v'10)), (Hw b13 33 true 3 (Co 10 v'14)), (Ho true rs'24), (Ho true rs'18), (Hw b48 33 true 3 (Co 14 v'51)), (Ho true rs'50), (Ho true rs'52)])))))))))))))) →
 (Q47 [(aV [(Ci A), (Ci B), (Ci C), (Ci D)]), (aV [(Ci A), (Ci B), (Ci C), (Ci D)]), (oV 0 v0), (oV 13 v'33), (aV [(Ci E), (Ci F), (Ci G), (Ci H)]), (aV [(Ci E), (Ci F), (Ci G), (Ci H)]), (iV I), (uV [(Ao 14 v'45), (Ai (mgX A B C D E F G H x0 I)), (Ai (mgC A B C D E F G H x0 I))]), (uV [(Ao 14 v'45), (Ai (mgX A B C D E F G H x0 I)), (Ai (mgC A B C D E F G H x0 I))]), (oV 14 v'45), (iV (mgX A B C D E F G H x0 I)), (iV (mgC A B C D E F G H x0 I)), (pV 12 b44 0), (iV (mgX A B C D E F G H x0 I)), (iV (mgC A B C D E F G H x0 I))] [(Ho false rs0), (Hc b0 23 [(Ci A), (Ci B), (Ci C), (Ci D)]), (Hw b1 27 true 3 (Co 0 v0)), (Hc b2 29 [(Ci E), (Ci F), (Ci G), (Ci H)]), (Hw b5 33 true 3 (Co 6 v'8)), (Ho true rs'7), (Ho true rs'9), (Ho true rs'21), (Hw b12 33 true 3 (Co 7 v'10)), (Hw b13 33 true 3 (Co 10 v'14)), (Ho true rs'24), (Ho true rs'18), (Hw b44 33 true 3 (Co 14 v'45)), (Ho true rs'34), (Ho true rs'46)]))))))))))))))) ∧
 (∀ b53 : Nat,
 (True ∧
 (True ∧
 (((isArray v'33 x0 rs'34) ∧
 (capAx x0)) ∧
 (∀ v'54 : Value,
 (∀ rs'55 : (List Row),
 ((isArray v'54 (mgA A B C D E F G H x0 I) rs'55) →
 (True ∧
 ((b53 = b53 ∧
 (wholeC true v'54 3)) ∧
 (True ∧
 (true = true ∧
 (∀ Q56 : ((List SV) →
 ((List Ch) →
 Prop)),
 ((∀ b57 : Nat,
 (b0 = b0 ∧
 (b1 = b1 ∧
 (((isArray v0 x0 rs0) ∧
 (capAx x0)) ∧
 (∀ v'58 : Value,
 (∀ rs'59 : (List Row),
 ((isArray v'58 x0 rs'59) →
 (b2 = b2 ∧
 (((isArray v'58 x0 rs'59) ∧
 (capAx x0)) ∧
 (∀ v'60 : Value,
 (∀ rs'61 : (List Row),
 ((isArray v'60 (mgA A B C D E F G H x0 I) rs'61) →
 ((b57 = b57 ∧
 (wholeC true v'60 3)) ∧
 (Q56 [(aV [(Ci A), (Ci B), (Ci C), (Ci D)]), (aV [(Ci A), (Ci B), (Ci C), (Ci D)]), (oV 0 v0), (oV 13 v'58), (aV [(Ci E), (Ci F), (Ci G), (Ci H)]), (aV [(Ci E), (Ci F), (Ci G), (Ci H)]), (iV I), (uV [(Ao 14 v'60), (Ai (mgX A B C D E F G H x0 I)), (Ai (mgC A B C D E F G H x0 I))]), (uV [(Ao 14 v'60), (Ai (mgX A B C D E F G H x0 I)), (Ai (mgC A B C D E F G H x0 I))]), (oV 14 v'60), (iV (mgX A B C D E F G H x0 I)), (iV (mgC A B C D E F G H x0 I)), (pV 12 b57 0), (iV (mgX A B C D E F G H x0 I)), (iV (mgC A B C D E F G H x0 I))] [(Ho false rs0), (Hc b0 23 [(Ci A), (Ci B), (Ci C), (Ci D)]), (Hw b1 27 true 3 (Co 0 v0)), (Hc b2 29 [(Ci E), (Ci F), (Ci G), (Ci H)]), (Hw b5 33 true 3 (Co 6 v'8)), (Ho true rs'7), (Ho true rs'9), (Ho true rs'21), (Hw b12 33 true 3 (Co 7 v'10)), (Hw b13 33 true 3 (Co 10 v'14)), (Ho true rs'24), (Ho true rs'18), (Hw b57 33 true 3 (Co 14 v'60)), (Ho true rs'59), (Ho true rs'61)])))))))))))))) →
 (Q56 [(aV [(Ci A), (Ci B), (Ci C), (Ci D)]), (aV [(Ci A), (Ci B), (Ci C), (Ci D)]), (oV 0 v0), (oV 13 v'33), (aV [(Ci E), (Ci F), (Ci G), (Ci H)]), (aV [(Ci E), (Ci F), (Ci G), (Ci H)]), (iV I), (uV [(Ao 14 v'54), (Ai (mgX A B C D E F G H x0 I)), (Ai (mgC A B C D E F G H x0 I))]), (uV [(Ao 14 v'54), (Ai (mgX A B C D E F G H x0 I)), (Ai (mgC A B C D E F G H x0 I))]), (oV 14 v'54), (iV (mgX A B C D E F G H x0 I)), (iV (mgC A B C D E F G H x0 I)), (pV 12 b53 0), (iV (mgX A B C D E F G H x0 I)), (iV (mgC A B C D E F G H x0 I))] [(Ho false rs0), (Hc b0 23 [(Ci A), (Ci B), (Ci C), (Ci D)]), (Hw b1 27 true 3 (Co 0 v0)), (Hc b2 29 [(Ci E), (Ci F), (Ci G), (Ci H)]), (Hw b5 33 true 3 (Co 6 v'8)), (Ho true rs'7), (Ho true rs'9), (Ho true rs'21), (Hw b12 33 true 3 (Co 7 v'10)), (Hw b13 33 true 3 (Co 10 v'14)), (Ho true rs'24), (Ho true rs'18), (Hw b53 33 true 3 (Co 14 v'54)), (Ho true rs'34), (Ho true rs'55)])))))))))))))))))))) ∧
 (∀ b62 : Nat,
 (True ∧
 (((isArray v0 x0 rs0) ∧
 (capAx x0)) ∧
 (∀ v'63 : Value,
 (∀ rs'64 : (List Row),
 ((isArray v'63 x0 rs'64) →
 (True ∧
 (True ∧
 (((isArray v'63 x0 rs'64) ∧
 (capAx x0)) ∧
 (∀ v'65 : Value,
 (∀ rs'66 : (List Row),
 ((isArray v'65 (mgA A B C D E F G H x0 I) rs'66) →
 (True ∧
 ((b62 = b62 ∧
 (wholeC true v'65 3)) ∧
 (True ∧
 (true = true ∧
 (∀ Q67 : ((List SV) →
 ((List Ch) →
 Prop)),
 ((∀ b68 : Nat,
 (b0 = b0 ∧
 (b1 = b1 ∧
 (((isArray v0 x0 rs0) ∧
 (capAx x0)) ∧
 (∀ v'69 : Value,
 (∀ rs'70 : (List Row),
 ((isArray v'69 x0 rs'70) →
 (b2 = b2 ∧
 (((isArray v'69 x0 rs'70) ∧
 (capAx x0)) ∧
 (∀ v'71 : Value,
 (∀ rs'72 : (List Row),
 ((isArray v'71 (mgA A B C D E F G H x0 I) rs'72) →
 ((b68 = b68 ∧
 (wholeC true v'71 3)) ∧
 (Q67 [(aV [(Ci A), (Ci B), (Ci C), (Ci D)]), (aV [(Ci A), (Ci B), (Ci C), (Ci D)]), (oV 0 v0), (oV 13 v'69), (aV [(Ci E), (Ci F), (Ci G), (Ci H)]), (aV [(Ci E), (Ci F), (Ci G), (Ci H)]), (iV I), (uV [(Ao 14 v'71), (Ai (mgX A B C D E F G H x0 I)), (Ai (mgC A B C D E F G H x0 I))]), (uV [(Ao 14 v'71), (Ai (mgX A B C D E F G H x0 I)), (Ai (mgC A B C D E F G H x0 I))]), (oV 14 v'71), (iV (mgX A B C D E F G H x0 I)), (iV (mgC A B C D E F G H x0 I)), (pV 12 b68 0), (iV (mgX A B C D E F G H x0 I)), (iV (mgC A B C D E F G H x0 I))] [(Ho false rs0), (Hc b0 23 [(Ci A), (Ci B), (Ci C), (Ci D)]), (Hw b1 27 true 3 (Co 0 v0)), (Hc b2 29 [(Ci E), (Ci F), (Ci G), (Ci H)]), (Hw b5 33 true 3 (Co 6 v'8)), (Ho true rs'7), (Ho true rs'9), (Ho true rs'21), (Hw b12 33 true 3 (Co 7 v'10)), (Hw b13 33 true 3 (Co 10 v'14)), (Ho true rs'24), (Ho true rs'18), (Hw b68 33 true 3 (Co 14 v'71)), (Ho true rs'70), (Ho true rs'72)])))))))))))))) →
 (Q67 [(aV [(Ci A), (Ci B), (Ci C), (Ci D)]), (aV [(Ci A), (Ci B), (Ci C), (Ci D)]), (oV 0 v0), (oV 13 v'63), (aV [(Ci E), (Ci F), (Ci G), (Ci H)]), (aV [(Ci E), (Ci F), (Ci G), (Ci H)]), (iV I), (uV [(Ao 14 v'65), (Ai (mgX A B C D E F G H x0 I)), (Ai (mgC A B C D E F G H x0 I))]), (uV [(Ao 14 v'65), (Ai (mgX A B C D E F G H x0 I)), (Ai (mgC A B C D E F G H x0 I))]), (oV 14 v'65), (iV (mgX A B C D E F G H x0 I)), (iV (mgC A B C D E F G H x0 I)), (pV 12 b62 0), (iV (mgX A B C D E F G H x0 I)), (iV (mgC A B C D E F G H x0 I))] [(Ho false rs0), (Hc b0 23 [(Ci A), (Ci B), (Ci C), (Ci D)]), (Hw b1 27 true 3 (Co 0 v0)), (Hc b2 29 [(Ci E), (Ci F), (Ci G), (Ci H)]), (Hw b5 33 true 3 (Co 6 v'8)), (Ho true rs'7), (Ho true rs'9), (Ho true rs'21), (Hw b12 33 true 3 (Co 7 v'10)), (Hw b13 33 true 3 (Co 10 v'14)), (Ho true rs'24), (Ho true rs'18), (Hw b62 33 true 3 (Co 14 v'65)), (Ho true rs'64), (Ho true rs'66)]))))))))))))))))))))) ∧
 (∀ b73 : Nat,
 (True ∧
 (True ∧
 (((isArray v0 x0 rs0) ∧
 (capAx x0)) ∧
 (∀ v'74 : Value,
 (∀ rs'75 : (List Row),
 ((isArray v'74 x0 rs'75) →
 (True ∧
 (True ∧
 (((isArray v'74 x0 rs'75) ∧
 (capAx x0)) ∧
 (∀ v'76 : Value,
 (∀ rs'77 : (List Row),
 ((isArray v'76 (mgA A B C D E F G H x0 I) rs'77) →
 (True ∧
 ((b73 = b73 ∧
 (wholeC true v'76 3)) ∧
 (True ∧
 (true = true ∧
 (∀ Q78 : ((List SV) →
 ((List Ch) →
 Prop)),
 ((∀ b79 : Nat,
 (b0 = b0 ∧
 (b1 = b1 ∧
 (((isArray v0 x0 rs0) ∧
 (capAx x0)) ∧
 (∀ v'80 : Value,
 (∀ rs'81 : (List Row),
 ((isArray v'80 x0 rs'81) →
 (b2 = b2 ∧
 (((isArray v'80 x0 rs'81) ∧
 (capAx x0)) ∧
 (∀ v'82 : Value,
 (∀ rs'83 : (List Row),
 ((isArray v'82 (mgA A B C D E F G H x0 I) rs'83) →
 ((b79 = b79 ∧
 (wholeC true v'82 3)) ∧
 (Q78 [(aV [(Ci A), (Ci B), (Ci C), (Ci D)]), (aV [(Ci A), (Ci B), (Ci C), (Ci D)]), (oV 0 v0), (oV 13 v'80), (aV [(Ci E), (Ci F), (Ci G), (Ci H)]), (aV [(Ci E), (Ci F), (Ci G), (Ci H)]), (iV I), (uV [(Ao 14 v'82), (Ai (mgX A B C D E F G H x0 I)), (Ai (mgC A B C D E F G H x0 I))]), (uV [(Ao 14 v'82), (Ai (mgX A B C D E F G H x0 I)), (Ai (mgC A B C D E F G H x0 I))]), (oV 14 v'82), (iV (mgX A B C D E F G H x0 I)), (iV (mgC A B C D E F G H x0 I)), (pV 12 b79 0), (iV (mgX A B C D E F G H x0 I)), (iV (mgC A B C D E F G H x0 I))] [(Ho false rs0), (Hc b0 23 [(Ci A), (Ci B), (Ci C), (Ci D)]), (Hw b1 27 true 3 (Co 0 v0)), (Hc b2 29 [(Ci E), (Ci F), (Ci G), (Ci H)]), (Hw b5 33 true 3 (Co 6 v'8)), (Ho true rs'7), (Ho true rs'9), (Ho true rs'21), (Hw b12 33 true 3 (Co 7 v'10)), (Hw b13 33 true 3 (Co 10 v'14)), (Ho true rs'24), (Ho true rs'18), (Hw b79 33 true 3 (Co 14 v'82)), (Ho true rs'81), (Ho true rs'83)])))))))))))))) →
 (Q78 [(aV [(Ci A), (Ci B), (Ci C), (Ci D)]), (aV [(Ci A), (Ci B), (Ci C), (Ci D)]), (oV 0 v0), (oV 13 v'74), (aV [(Ci E), (Ci F), (Ci G), (Ci H)]), (aV [(Ci E), (Ci F), (Ci G), (Ci H)]), (iV I), (uV [(Ao 14 v'76), (Ai (mgX A B C D E F G H x0 I)), (Ai (mgC A B C D E F G H x0 I))]), (uV [(Ao 14 v'76), (Ai (mgX A B C D E F G H x0 I)), (Ai (mgC A B C D E F G H x0 I))]), (oV 14 v'76), (iV (mgX A B C D E F G H x0 I)), (iV (mgC A B C D E F G H x0 I)), (pV 12 b73 0), (iV (mgX A B C D E F G H x0 I)), (iV (mgC A B C D E F G H x0 I))] [(Ho false rs0), (Hc b0 23 [(Ci A), (Ci B), (Ci C), (Ci D)]), (Hw b1 27 true 3 (Co 0 v0)), (Hc b2 29 [(Ci E), (Ci F), (Ci G), (Ci H)]), (Hw b5 33 true 3 (Co 6 v'8)), (Ho true rs'7), (Ho true rs'9), (Ho true rs'21), (Hw b12 33 true 3 (Co 7 v'10)), (Hw b13 33 true 3 (Co 10 v'14)), (Ho true rs'24), (Ho true rs'18), (Hw b73 33 true 3 (Co 14 v'76)), (Ho true rs'75), (Ho true rs'77)]))))))))))))))))))))))))))))))))))))))))) ∧
 (((mgX A B C D E F G H x0 I) != (mgX A B C D E F G H x0 I)) = true →
 (Wb false) = (Wb true)))))))) ∧
 ((decide ((endArray (1 : Int) x20) < (0 : Int))) = true →
 (Wb false) = (Wb true)))))))))))))))))))))) ∧
 (((mgX A B C D E F G H x0 I) != (mgX A B C D E F G H x0 I)) = true →
 (Wb false) = (Wb true)))))))))))))))) ∧
 (b0 = b0 ∧
 (b12 = b12 ∧
 (b2 = b2 ∧
 ((True ∧
 ((True ∧
 ((((isArray v'10 x0 rs'11) ∧
 (capAx x0)) ∧
 (∀ v'84 : Value,
 (∀ rs'85 : (List Row),
 ((isArray v'84 (mgA A B C D E F G H x0 I) rs'85) →
 (True ∧
 (∀ b86 : Nat,
 (True ∧
 ((b86 = b86 ∧
 (wholeC true v'84 3)) ∧
 (True ∧
 (true = true ∧
 (∀ Q87 : ((List SV) →
 ((List Ch) →
 Prop)),
 ((∀ b88 : Nat,
 (b0 = b0 ∧
 (b12 = b12 ∧
 (b2 = b2 ∧
 (((isArray v'10 x0 rs'11) ∧
 (capAx x0)) ∧
 (∀ v'89 : Value,
 (∀ rs'90 : (List Row),
 ((isArray v'89 (mgA A B C D E F G H x0 I) rs'90) →
 ((b88 = b88 ∧
 (wholeC true v'89 3)) ∧
 (Q87 [(aV [(Ci A), (Ci B), (Ci C), (Ci D)]), (aV [(Ci A), (Ci B), (Ci C), (Ci D)]), (oV 7 v'10), (aV [(Ci E), (Ci F), (Ci G), (Ci H)]), (aV [(Ci E), (Ci F), (Ci G), (Ci H)]), (iV I), (uV [(Ao 10 v'89), (Ai (mgX A B C D E F G H x0 I)), (Ai (mgC A B C D E F G H x0 I))]), (uV [(Ao 10 v'89), (Ai (mgX A B C D E F G H x0 I)), (Ai (mgC A B C D E F G H x0 I))]), (oV 10 v'89), (iV (mgX A B C D E F G H x0 I)), (iV (mgC A B C D E F G H x0 I)), (pV 9 b88 0), (iV (mgX A B C D E F G H x0 I)), (iV (mgC A B C D E F G H x0 I))] [(Ho false rs0), (Hc b0 23 [(Ci A), (Ci B), (Ci C), (Ci D)]), (Hw b1 27 true 3 (Co 0 v0)), (Hc b2 29 [(Ci E), (Ci F), (Ci G), (Ci H)]), (Hw b5 33 true 3 (Co 6 v'8)), (Ho true rs'7), (Ho true rs'9), (Ho true rs'11), (Hw b12 33 true 3 (Co 7 v'10)), (Hw b88 33 true 3 (Co 10 v'89)), (Ho true rs'90)])))))))))) →
 (Q87 [(aV [(Ci A), (Ci B), (Ci C), (Ci D)]), (aV [(Ci A), (Ci B), (Ci C), (Ci D)]), (oV 7 v'10), (aV [(Ci E), (Ci F), (Ci G), (Ci H)]), (aV [(Ci E), (Ci F), (Ci G), (Ci H)]), (iV I), (uV [(Ao 10 v'84), (Ai (mgX A B C D E F G H x0 I)), (Ai (mgC A B C D E F G H x0 I))]), (uV [(Ao 10 v'84), (Ai (mgX A B C D E F G H x0 I)), (Ai (mgC A B C D E F G H x0 I))]), (oV 10 v'84), (iV (mgX A B C D E F G H x0 I)), (iV (mgC A B C D E F G H x0 I)), (pV 9 b86 0), (iV (mgX A B C D E F G H x0 I)), (iV (mgC A B C D E F G H x0 I))] [(Ho false rs0), (Hc b0 23 [(Ci A), (Ci B), (Ci C), (Ci D)]), (Hw b1 27 true 3 (Co 0 v0)), (Hc b2 29 [(Ci E), (Ci F), (Ci G), (Ci H)]), (Hw b5 33 true 3 (Co 6 v'8)), (Ho true rs'7), (Ho true rs'9), (Ho true rs'11), (Hw b12 33 true 3 (Co 7 v'10)), (Hw b86 33 true 3 (Co 10 v'84)), (Ho true rs'85)]))))))))))))) ∧
 (∀ b91 : Nat,
 (True ∧
 (((isArray v'10 x0 rs'11) ∧
 (capAx x0)) ∧
 (∀ v'92 : Value,
 (∀ rs'93 : (List Row),
 ((isArray v'92 (mgA A B C D E F G H x0 I) rs'93) →
 (True ∧
 ((b91 = b91 ∧
 (wholeC true v'92 3)) ∧
 (True ∧
 (true = true ∧
 (∀ Q94 : ((List SV) →
 ((List Ch) →
 Prop)),
 ((∀ b95 : Nat,
 (b0 = b0 ∧
 (b12 = b12 ∧
 (b2 = b2 ∧
 (((isArray v'10 x0 rs'11) ∧
 (capAx x0)) ∧
 (∀ v'96 : Value,
 (∀ rs'97 : (List Row),
 ((isArray v'96 (mgA A B C D E F G H x0 I) rs'97) →
 ((b95 = b95 ∧
 (wholeC true v'96 3)) ∧
 (Q94 [(aV [(Ci A), (Ci B), (Ci C), (Ci D)]), (aV [(Ci A), (Ci B), (Ci C), (Ci D)]), (oV 7 v'10), (aV [(Ci E), (Ci F), (Ci G), (Ci H)]), (aV [(Ci E), (Ci F), (Ci G), (Ci H)]), (iV I), (uV [(Ao 10 v'96), (Ai (mgX A B C D E F G H x0 I)), (Ai (mgC A B C D E F G H x0 I))]), (uV [(Ao 10 v'96), (Ai (mgX A B C D E F G H x0 I)), (Ai (mgC A B C D E F G H x0 I))]), (oV 10 v'96), (iV (mgX A B C D E F G H x0 I)), (iV (mgC A B C D E F G H x0 I)), (pV 9 b95 0), (iV (mgX A B C D E F G H x0 I)), (iV (mgC A B C D E F G H x0 I))] [(Ho false rs0), (Hc b0 23 [(Ci A), (Ci B), (Ci C), (Ci D)]), (Hw b1 27 true 3 (Co 0 v0)), (Hc b2 29 [(Ci E), (Ci F), (Ci G), (Ci H)]), (Hw b5 33 true 3 (Co 6 v'8)), (Ho true rs'7), (Ho true rs'9), (Ho true rs'11), (Hw b12 33 true 3 (Co 7 v'10)), (Hw b95 33 true 3 (Co 10 v'96)), (Ho true rs'97)])))))))))) →
 (Q94 [(aV [(Ci A), (Ci B), (Ci C), (Ci D)]), (aV [(Ci A), (Ci B), (Ci C), (Ci D)]), (oV 7 v'10), (aV [(Ci E), (Ci F), (Ci G), (Ci H)]), (aV [(Ci E), (Ci F), (Ci G), (Ci H)]), (iV I), (uV [(Ao 10 v'92), (Ai (mgX A B C D E F G H x0 I)), (Ai (mgC A B C D E F G H x0 I))]), (uV [(Ao 10 v'92), (Ai (mgX A B C D E F G H x0 I)), (Ai (mgC A B C D E F G H x0 I))]), (oV 10 v'92), (iV (mgX A B C D E F G H x0 I)), (iV (mgC A B C D E F G H x0 I)), (pV 9 b91 0), (iV (mgX A B C D E F G H x0 I)), (iV (mgC A B C D E F G H x0 I))] [(Ho false rs0), (Hc b0 23 [(Ci A), (Ci B), (Ci C), (Ci D)]), (Hw b1 27 true 3 (Co 0 v0)), (Hc b2 29 [(Ci E), (Ci F), (Ci G), (Ci H)]), (Hw b5 33 true 3 (Co 6 v'8)), (Ho true rs'7), (Ho true rs'9), (Ho true rs'11), (Hw b12 33 true 3 (Co 7 v'10)), (Hw b91 33 true 3 (Co 10 v'92)), (Ho true rs'93)]))))))))))))))) ∧
 (∀ b98 : Nat,
 (True ∧
 (True ∧
 (((isArray v'10 x0 rs'11) ∧
 (capAx x0)) ∧
 (∀ v'99 : Value,
 (∀ rs'100 : (List Row),
 ((isArray v'99 (mgA A B C D E F G H x0 I) rs'100) →
 (True ∧
 ((b98 = b98 ∧
 (wholeC true v'99 3)) ∧
 (True ∧
 (true = true ∧
 (∀ Q101 : ((List SV) →
 ((List Ch) →
 Prop)),
 ((∀ b102 : Nat,
 (b0 = b0 ∧
 (b12 = b12 ∧
 (b2 = b2 ∧
 (((isArray v'10 x0 rs'11) ∧
 (capAx x0)) ∧
 (∀ v'103 : Value,
 (∀ rs'104 : (List Row),
 ((isArray v'103 (mgA A B C D E F G H x0 I) rs'104) →
 ((b102 = b102 ∧
 (wholeC true v'103 3)) ∧
 (Q101 [(aV [(Ci A), (Ci B), (Ci C), (Ci D)]), (aV [(Ci A), (Ci B), (Ci C), (Ci D)]), (oV 7 v'10), (aV [(Ci E), (Ci F), (Ci G), (Ci H)]), (aV [(Ci E), (Ci F), (Ci G), (Ci H)]), (iV I), (uV [(Ao 10 v'103), (Ai (mgX A B C D E F G H x0 I)), (Ai (mgC A B C D E F G H x0 I))]), (uV [(Ao 10 v'103), (Ai (mgX A B C D E F G H x0 I)), (Ai (mgC A B C D E F G H x0 I))]), (oV 10 v'103), (iV (mgX A B C D E F G H x0 I)), (iV (mgC A B C D E F G H x0 I)), (pV 9 b102 0), (iV (mgX A B C D E F G H x0 I)), (iV (mgC A B C D E F G H x0 I))] [(Ho false rs0), (Hc b0 23 [(Ci A), (Ci B), (Ci C), (Ci D)]), (Hw b1 27 true 3 (Co 0 v0)), (Hc b2 29 [(Ci E), (Ci F), (Ci G), (Ci H)]), (Hw b5 33 true 3 (Co 6 v'8)), (Ho true rs'7), (Ho true rs'9), (Ho true rs'11), (Hw b12 33 true 3 (Co 7 v'10)), (Hw b102 33 true 3 (Co 10 v'103)), (Ho true rs'104)])))))))))) →
 (Q101 [(aV [(Ci A), (Ci B), (Ci C), (Ci D)]), (aV [(Ci A), (Ci B), (Ci C), (Ci D)]), (oV 7 v'10), (aV [(Ci E), (Ci F), (Ci G), (Ci H)]), (aV [(Ci E), (Ci F), (Ci G), (Ci H)]), (iV I), (uV [(Ao 10 v'99), (Ai (mgX A B C D E F G H x0 I)), (Ai (mgC A B C D E F G H x0 I))]), (uV [(Ao 10 v'99), (Ai (mgX A B C D E F G H x0 I)), (Ai (mgC A B C D E F G H x0 I))]), (oV 10 v'99), (iV (mgX A B C D E F G H x0 I)), (iV (mgC A B C D E F G H x0 I)), (pV 9 b98 0), (iV (mgX A B C D E F G H x0 I)), (iV (mgC A B C D E F G H x0 I))] [(Ho false rs0), (Hc b0 23 [(Ci A), (Ci B), (Ci C), (Ci D)]), (Hw b1 27 true 3 (Co 0 v0)), (Hc b2 29 [(Ci E), (Ci F), (Ci G), (Ci H)]), (Hw b5 33 true 3 (Co 6 v'8)), (Ho true rs'7), (Ho true rs'9), (Ho true rs'11), (Hw b12 33 true 3 (Co 7 v'10)), (Hw b98 33 true 3 (Co 10 v'99)), (Ho true rs'100)])))))))))))))))) ∧
 (∀ b105 : Nat,
 (True ∧
 (True ∧
 (True ∧
 (((isArray v'10 x0 rs'11) ∧
 (capAx x0)) ∧
 (∀ v'106 : Value,
 (∀ rs'107 : (List Row),
 ((isArray v'106 (mgA A B C D E F G H x0 I) rs'107) →
 (True ∧
 ((b105 = b105 ∧
 (wholeC true v'106 3)) ∧
 (True ∧
 (true = true ∧
 (∀ Q108 : ((List SV) →
 ((List Ch) →
 Prop)),
 ((∀ b109 : Nat,
 (b0 = b0 ∧
 (b12 = b12 ∧
 (b2 = b2 ∧
 (((isArray v'10 x0 rs'11) ∧
 (capAx x0)) ∧
 (∀ v'110 : Value,
 (∀ rs'111 : (List Row),
 ((isArray v'110 (mgA A B C D E F G H x0 I) rs'111) →
 ((b109 = b109 ∧
 (wholeC true v'110 3)) ∧
 (Q108 [(aV [(Ci A), (Ci B), (Ci C), (Ci D)]), (aV [(Ci A), (Ci B), (Ci C), (Ci D)]), (oV 7 v'10), (aV [(Ci E), (Ci F), (Ci G), (Ci H)]), (aV [(Ci E), (Ci F), (Ci G), (Ci H)]), (iV I), (uV [(Ao 10 v'110), (Ai (mgX A B C D E F G H x0 I)), (Ai (mgC A B C D E F G H x0 I))]), (uV [(Ao 10 v'110), (Ai (mgX A B C D E F G H x0 I)), (Ai (mgC A B C D E F G H x0 I))]), (oV 10 v'110), (iV (mgX A B C D E F G H x0 I)), (iV (mgC A B C D E F G H x0 I)), (pV 9 b109 0), (iV (mgX A B C D E F G H x0 I)), (iV (mgC A B C D E F G H x0 I))] [(Ho false rs0), (Hc b0 23 [(Ci A), (Ci B), (Ci C), (Ci D)]), (Hw b1 27 true 3 (Co 0 v0)), (Hc b2 29 [(Ci E), (Ci F), (Ci G), (Ci H)]), (Hw b5 33 true 3 (Co 6 v'8)), (Ho true rs'7), (Ho true rs'9), (Ho true rs'11), (Hw b12 33 true 3 (Co 7 v'10)), (Hw b109 33 true 3 (Co 10 v'110)), (Ho true rs'111)])))))))))) →
 (Q108 [(aV [(Ci A), (Ci B), (Ci C), (Ci D)]), (aV [(Ci A), (Ci B), (Ci C), (Ci D)]), (oV 7 v'10), (aV [(Ci E), (Ci F), (Ci G), (Ci H)]), (aV [(Ci E), (Ci F), (Ci G), (Ci H)]), (iV I), (uV [(Ao 10 v'106), (Ai (mgX A B C D E F G H x0 I)), (Ai (mgC A B C D E F G H x0 I))]), (uV [(Ao 10 v'106), (Ai (mgX A B C D E F G H x0 I)), (Ai (mgC A B C D E F G H x0 I))]), (oV 10 v'106), (iV (mgX A B C D E F G H x0 I)), (iV (mgC A B C D E F G H x0 I)), (pV 9 b105 0), (iV (mgX A B C D E F G H x0 I)), (iV (mgC A B C D E F G H x0 I))] [(Ho false rs0), (Hc b0 23 [(Ci A), (Ci B), (Ci C), (Ci D)]), (Hw b1 27 true 3 (Co 0 v0)), (Hc b2 29 [(Ci E), (Ci F), (Ci G), (Ci H)]), (Hw b5 33 true 3 (Co 6 v'8)), (Ho true rs'7), (Ho true rs'9), (Ho true rs'11), (Hw b12 33 true 3 (Co 7 v'10)), (Hw b105 33 true 3 (Co 10 v'106)), (Ho true rs'107)])))))))))))))))))))))))))))))))))))))))) ∧
 (b0 = b0 ∧
 (b1 = b1 ∧
 (b2 = b2 ∧
 ((True ∧
 ((((isArray v0 x0 rs0) ∧
 (capAx x0)) ∧
 (∀ v'112 : Value,
 (∀ rs'113 : (List Row),
 ((isArray v'112 x0 rs'113) →
 (True ∧
 ((True ∧
 ((((isArray v'112 x0 rs'113) ∧
 (capAx x0)) ∧
 (∀ v'114 : Value,
 (∀ rs'115 : (List Row),
 ((isArray v'114 (mgA A B C D E F G H x0 I) rs'115) →
 (True ∧
 (∀ b116 : Nat,
 (True ∧
 ((b116 = b116 ∧
 (wholeC true v'114 3)) ∧
 (True ∧
 (true = true ∧
 (∀ Q117 : ((List SV) →
 ((List Ch) →
 Prop)),
 ((∀ b118 : Nat,
 (b0 = b0 ∧
 (b1 = b1 ∧
 (((isArray v0 x0 rs0) ∧
 (capAx x0)) ∧
 (∀ v'119 : Value,
 (∀ rs'120 : (List Row),
 ((isArray v'119 x0 rs'120) →
 (b2 = b2 ∧
 (((isArray v'119 x0 rs'120) ∧
 (capAx x0)) ∧
 (∀ v'121 : Value,
 (∀ rs'122 : (List Row),
 ((isArray v'121 (mgA A B C D E F G H x0 I) rs'122) →
 ((b118 = b118 ∧
 (wholeC true v'121 3)) ∧
 (Q117 [(aV [(Ci A), (Ci B), (Ci C), (Ci D)]), (aV [(Ci A), (Ci B), (Ci C), (Ci D)]), (oV 0 v0), (oV 5 v'119), (aV [(Ci E), (Ci F), (Ci G), (Ci H)]), (aV [(Ci E), (Ci F), (Ci G), (Ci H)]), (iV I), (uV [(Ao 6 v'121), (Ai (mgX A B C D E F G H x0 I)), (Ai (mgC A B C D E F G H x0 I))]), (uV [(Ao 6 v'121), (Ai (mgX A B C D E F G H x0 I)), (Ai (mgC A B C D E F G H x0 I))]), (oV 6 v'121), (iV (mgX A B C D E F G H x0 I)), (iV (mgC A B C D E F G H x0 I)), (pV 4 b118 0), (iV (mgX A B C D E F G H x0 I)), (iV (mgC A B C D E F G H x0 I))] [(Ho false rs0), (Hc b0 23 [(Ci A), (Ci B), (Ci C), (Ci D)]), (Hw b1 27 true 3 (Co 0 v0)), (Hc b2 29 [(Ci E), (Ci F), (Ci G), (Ci H)]), (Hw b118 33 true 3 (Co 6 v'121)), (Ho true rs'120), (Ho true rs'122)])))))))))))))) →
 (Q117 [(aV [(Ci A), (Ci B), (Ci C), (Ci D)]), (aV [(Ci A), (Ci B), (Ci C), (Ci D)]), (oV 0 v0), (oV 5 v'112), (aV [(Ci E), (Ci F), (Ci G), (Ci H)]), (aV [(Ci E), (Ci F), (Ci G), (Ci H)]), (iV I), (uV [(Ao 6 v'114), (Ai (mgX A B C D E F G H x0 I)), (Ai (mgC A B C D E F G H x0 I))]), (uV [(Ao 6 v'114), (Ai (mgX A B C D E F G H x0 I)), (Ai (mgC A B C D E F G H x0 I))]), (oV 6 v'114), (iV (mgX A B C D E F G H x0 I)), (iV (mgC A B C D E F G H x0 I)), (pV 4 b116 0), (iV (mgX A B C D E F G H x0 I)), (iV (mgC A B C D E F G H x0 I))] [(Ho false rs0), (Hc b0 23 [(Ci A), (Ci B), (Ci C), (Ci D)]), (Hw b1 27 true 3 (Co 0 v0)), (Hc b2 29 [(Ci E), (Ci F), (Ci G), (Ci H)]), (Hw b116 33 true 3 (Co 6 v'114)), (Ho true rs'113), (Ho true rs'115)]))))))))))))) ∧
 (∀ b123 : Nat,
 (True ∧
 (((isArray v'112 x0 rs'113) ∧
 (capAx x0)) ∧
 (∀ v'124 : Value,
 (∀ rs'125 : (List Row),
 ((isArray v'124 (mgA A B C D E F G H x0 I) rs'125) →
 (True ∧
 ((b123 = b123 ∧
 (wholeC true v'124 3)) ∧
 (True ∧
 (true = true ∧
 (∀ Q126 : ((List SV) →
 ((List Ch) →
 Prop)),
 ((∀ b127 : Nat,
 (b0 = b0 ∧
 (b1 = b1 ∧
 (((isArray v0 x0 rs0) ∧
 (capAx x0)) ∧
 (∀ v'128 : Value,
 (∀ rs'129 : (List Row),
 ((isArray v'128 x0 rs'129) →
 (b2 = b2 ∧
 (((isArray v'128 x0 rs'129) ∧
 (capAx x0)) ∧
 (∀ v'130 : Value,
 (∀ rs'131 : (List Row),
 ((isArray v'130 (mgA A B C D E F G H x0 I) rs'131) →
 ((b127 = b127 ∧
 (wholeC true v'130 3)) ∧
 (Q126 [(aV [(Ci A), (Ci B), (Ci C), (Ci D)]), (aV [(Ci A), (Ci B), (Ci C), (Ci D)]), (oV 0 v0), (oV 5 v'128), (aV [(Ci E), (Ci F), (Ci G), (Ci H)]), (aV [(Ci E), (Ci F), (Ci G), (Ci H)]), (iV I), (uV [(Ao 6 v'130), (Ai (mgX A B C D E F G H x0 I)), (Ai (mgC A B C D E F G H x0 I))]), (uV [(Ao 6 v'130), (Ai (mgX A B C D E F G H x0 I)), (Ai (mgC A B C D E F G H x0 I))]), (oV 6 v'130), (iV (mgX A B C D E F G H x0 I)), (iV (mgC A B C D E F G H x0 I)), (pV 4 b127 0), (iV (mgX A B C D E F G H x0 I)), (iV (mgC A B C D E F G H x0 I))] [(Ho false rs0), (Hc b0 23 [(Ci A), (Ci B), (Ci C), (Ci D)]), (Hw b1 27 true 3 (Co 0 v0)), (Hc b2 29 [(Ci E), (Ci F), (Ci G), (Ci H)]), (Hw b127 33 true 3 (Co 6 v'130)), (Ho true rs'129), (Ho true rs'131)])))))))))))))) →
 (Q126 [(aV [(Ci A), (Ci B), (Ci C), (Ci D)]), (aV [(Ci A), (Ci B), (Ci C), (Ci D)]), (oV 0 v0), (oV 5 v'112), (aV [(Ci E), (Ci F), (Ci G), (Ci H)]), (aV [(Ci E), (Ci F), (Ci G), (Ci H)]), (iV I), (uV [(Ao 6 v'124), (Ai (mgX A B C D E F G H x0 I)), (Ai (mgC A B C D E F G H x0 I))]), (uV [(Ao 6 v'124), (Ai (mgX A B C D E F G H x0 I)), (Ai (mgC A B C D E F G H x0 I))]), (oV 6 v'124), (iV (mgX A B C D E F G H x0 I)), (iV (mgC A B C D E F G H x0 I)), (pV 4 b123 0), (iV (mgX A B C D E F G H x0 I)), (iV (mgC A B C D E F G H x0 I))] [(Ho false rs0), (Hc b0 23 [(Ci A), (Ci B), (Ci C), (Ci D)]), (Hw b1 27 true 3 (Co 0 v0)), (Hc b2 29 [(Ci E), (Ci F), (Ci G), (Ci H)]), (Hw b123 33 true 3 (Co 6 v'124)), (Ho true rs'113), (Ho true rs'125)]))))))))))))))) ∧
 (∀ b132 : Nat,
 (True ∧
 (True ∧
 (((isArray v'112 x0 rs'113) ∧
 (capAx x0)) ∧
 (∀ v'133 : Value,
 (∀ rs'134 : (List Row),
 ((isArray v'133 (mgA A B C D E F G H x0 I) rs'134) →
 (True ∧
 ((b132 = b132 ∧
 (wholeC true v'133 3)) ∧
 (True ∧
 (true = true ∧
 (∀ Q135 : ((List SV) →
 ((List Ch) →
 Prop)),
 ((∀ b136 : Nat,
 (b0 = b0 ∧
 (b1 = b1 ∧
 (((isArray v0 x0 rs0) ∧
 (capAx x0)) ∧
 (∀ v'137 : Value,
 (∀ rs'138 : (List Row),
 ((isArray v'137 x0 rs'138) →
 (b2 = b2 ∧
 (((isArray v'137 x0 rs'138) ∧
 (capAx x0)) ∧
 (∀ v'139 : Value,
 (∀ rs'140 : (List Row),
 ((isArray v'139 (mgA A B C D E F G H x0 I) rs'140) →
 ((b136 = b136 ∧
 (wholeC true v'139 3)) ∧
 (Q135 [(aV [(Ci A), (Ci B), (Ci C), (Ci D)]), (aV [(Ci A), (Ci B), (Ci C), (Ci D)]), (oV 0 v0), (oV 5 v'137), (aV [(Ci E), (Ci F), (Ci G), (Ci H)]), (aV [(Ci E), (Ci F), (Ci G), (Ci H)]), (iV I), (uV [(Ao 6 v'139), (Ai (mgX A B C D E F G H x0 I)), (Ai (mgC A B C D E F G H x0 I))]), (uV [(Ao 6 v'139), (Ai (mgX A B C D E F G H x0 I)), (Ai (mgC A B C D E F G H x0 I))]), (oV 6 v'139), (iV (mgX A B C D E F G H x0 I)), (iV (mgC A B C D E F G H x0 I)), (pV 4 b136 0), (iV (mgX A B C D E F G H x0 I)), (iV (mgC A B C D E F G H x0 I))] [(Ho false rs0), (Hc b0 23 [(Ci A), (Ci B), (Ci C), (Ci D)]), (Hw b1 27 true 3 (Co 0 v0)), (Hc b2 29 [(Ci E), (Ci F), (Ci G), (Ci H)]), (Hw b136 33 true 3 (Co 6 v'139)), (Ho true rs'138), (Ho true rs'140)])))))))))))))) →
 (Q135 [(aV [(Ci A), (Ci B), (Ci C), (Ci D)]), (aV [(Ci A), (Ci B), (Ci C), (Ci D)]), (oV 0 v0), (oV 5 v'112), (aV [(Ci E), (Ci F), (Ci G), (Ci H)]), (aV [(Ci E), (Ci F), (Ci G), (Ci H)]), (iV I), (uV [(Ao 6 v'133), (Ai (mgX A B C D E F G H x0 I)), (Ai (mgC A B C D E F G H x0 I))]), (uV [(Ao 6 v'133), (Ai (mgX A B C D E F G H x0 I)), (Ai (mgC A B C D E F G H x0 I))]), (oV 6 v'133), (iV (mgX A B C D E F G H x0 I)), (iV (mgC A B C D E F G H x0 I)), (pV 4 b132 0), (iV (mgX A B C D E F G H x0 I)), (iV (mgC A B C D E F G H x0 I))] [(Ho false rs0), (Hc b0 23 [(Ci A), (Ci B), (Ci C), (Ci D)]), (Hw b1 27 true 3 (Co 0 v0)), (Hc b2 29 [(Ci E), (Ci F), (Ci G), (Ci H)]), (Hw b132 33 true 3 (Co 6 v'133)), (Ho true rs'113), (Ho true rs'134)])))))))))))))))))))) ∧
 (∀ b141 : Nat,
 (True ∧
 (((isArray v0 x0 rs0) ∧
 (capAx x0)) ∧
 (∀ v'142 : Value,
 (∀ rs'143 : (List Row),
 ((isArray v'142 x0 rs'143) →
 (True ∧
 (True ∧
 (((isArray v'142 x0 rs'143) ∧
 (capAx x0)) ∧
 (∀ v'144 : Value,
 (∀ rs'145 : (List Row),
 ((isArray v'144 (mgA A B C D E F G H x0 I) rs'145) →
 (True ∧
 ((b141 = b141 ∧
 (wholeC true v'144 3)) ∧
 (True ∧
 (true = true ∧
 (∀ Q146 : ((List SV) →
 ((List Ch) →
 Prop)),
 ((∀ b147 : Nat,
 (b0 = b0 ∧
 (b1 = b1 ∧
 (((isArray v0 x0 rs0) ∧
 (capAx x0)) ∧
 (∀ v'148 : Value,
 (∀ rs'149 : (List Row),
 ((isArray v'148 x0 rs'149) →
 (b2 = b2 ∧
 (((isArray v'148 x0 rs'149) ∧
 (capAx x0)) ∧
 (∀ v'150 : Value,
 (∀ rs'151 : (List Row),
 ((isArray v'150 (mgA A B C D E F G H x0 I) rs'151) →
 ((b147 = b147 ∧
 (wholeC true v'150 3)) ∧
 (Q146 [(aV [(Ci A), (Ci B), (Ci C), (Ci D)]), (aV [(Ci A), (Ci B), (Ci C), (Ci D)]), (oV 0 v0), (oV 5 v'148), (aV [(Ci E), (Ci F), (Ci G), (Ci H)]), (aV [(Ci E), (Ci F), (Ci G), (Ci H)]), (iV I), (uV [(Ao 6 v'150), (Ai (mgX A B C D E F G H x0 I)), (Ai (mgC A B C D E F G H x0 I))]), (uV [(Ao 6 v'150), (Ai (mgX A B C D E F G H x0 I)), (Ai (mgC A B C D E F G H x0 I))]), (oV 6 v'150), (iV (mgX A B C D E F G H x0 I)), (iV (mgC A B C D E F G H x0 I)), (pV 4 b147 0), (iV (mgX A B C D E F G H x0 I)), (iV (mgC A B C D E F G H x0 I))] [(Ho false rs0), (Hc b0 23 [(Ci A), (Ci B), (Ci C), (Ci D)]), (Hw b1 27 true 3 (Co 0 v0)), (Hc b2 29 [(Ci E), (Ci F), (Ci G), (Ci H)]), (Hw b147 33 true 3 (Co 6 v'150)), (Ho true rs'149), (Ho true rs'151)])))))))))))))) →
 (Q146 [(aV [(Ci A), (Ci B), (Ci C), (Ci D)]), (aV [(Ci A), (Ci B), (Ci C), (Ci D)]), (oV 0 v0), (oV 5 v'142), (aV [(Ci E), (Ci F), (Ci G), (Ci H)]), (aV [(Ci E), (Ci F), (Ci G), (Ci H)]), (iV I), (uV [(Ao 6 v'144), (Ai (mgX A B C D E F G H x0 I)), (Ai (mgC A B C D E F G H x0 I))]), (uV [(Ao 6 v'144), (Ai (mgX A B C D E F G H x0 I)), (Ai (mgC A B C D E F G H x0 I))]), (oV 6 v'144), (iV (mgX A B C D E F G H x0 I)), (iV (mgC A B C D E F G H x0 I)), (pV 4 b141 0), (iV (mgX A B C D E F G H x0 I)), (iV (mgC A B C D E F G H x0 I))] [(Ho false rs0), (Hc b0 23 [(Ci A), (Ci B), (Ci C), (Ci D)]), (Hw b1 27 true 3 (Co 0 v0)), (Hc b2 29 [(Ci E), (Ci F), (Ci G), (Ci H)]), (Hw b141 33 true 3 (Co 6 v'144)), (Ho true rs'143), (Ho true rs'145)]))))))))))))))))))))) ∧
 (∀ b152 : Nat,
 (True ∧
 (True ∧
 (((isArray v0 x0 rs0) ∧
 (capAx x0)) ∧
 (∀ v'153 : Value,
 (∀ rs'154 : (List Row),
 ((isArray v'153 x0 rs'154) →
 (True ∧
 (True ∧
 (((isArray v'153 x0 rs'154) ∧
 (capAx x0)) ∧
 (∀ v'155 : Value,
 (∀ rs'156 : (List Row),
 ((isArray v'155 (mgA A B C D E F G H x0 I) rs'156) →
 (True ∧
 ((b152 = b152 ∧
 (wholeC true v'155 3)) ∧
 (True ∧
 (true = true ∧
 (∀ Q157 : ((List SV) →
 ((List Ch) →
 Prop)),
 ((∀ b158 : Nat,
 (b0 = b0 ∧
 (b1 = b1 ∧
 (((isArray v0 x0 rs0) ∧
 (capAx x0)) ∧
 (∀ v'159 : Value,
 (∀ rs'160 : (List Row),
 ((isArray v'159 x0 rs'160) →
 (b2 = b2 ∧
 (((isArray v'159 x0 rs'160) ∧
 (capAx x0)) ∧
 (∀ v'161 : Value,
 (∀ rs'162 : (List Row),
 ((isArray v'161 (mgA A B C D E F G H x0 I) rs'162) →
 ((b158 = b158 ∧
 (wholeC true v'161 3)) ∧
 (Q157 [(aV [(Ci A), (Ci B), (Ci C), (Ci D)]), (aV [(Ci A), (Ci B), (Ci C), (Ci D)]), (oV 0 v0), (oV 5 v'159), (aV [(Ci E), (Ci F), (Ci G), (Ci H)]), (aV [(Ci E), (Ci F), (Ci G), (Ci H)]), (iV I), (uV [(Ao 6 v'161), (Ai (mgX A B C D E F G H x0 I)), (Ai (mgC A B C D E F G H x0 I))]), (uV [(Ao 6 v'161), (Ai (mgX A B C D E F G H x0 I)), (Ai (mgC A B C D E F G H x0 I))]), (oV 6 v'161), (iV (mgX A B C D E F G H x0 I)), (iV (mgC A B C D E F G H x0 I)), (pV 4 b158 0), (iV (mgX A B C D E F G H x0 I)), (iV (mgC A B C D E F G H x0 I))] [(Ho false rs0), (Hc b0 23 [(Ci A), (Ci B), (Ci C), (Ci D)]), (Hw b1 27 true 3 (Co 0 v0)), (Hc b2 29 [(Ci E), (Ci F), (Ci G), (Ci H)]), (Hw b158 33 true 3 (Co 6 v'161)), (Ho true rs'160), (Ho true rs'162)])))))))))))))) →
 (Q157 [(aV [(Ci A), (Ci B), (Ci C), (Ci D)]), (aV [(Ci A), (Ci B), (Ci C), (Ci D)]), (oV 0 v0), (oV 5 v'153), (aV [(Ci E), (Ci F), (Ci G), (Ci H)]), (aV [(Ci E), (Ci F), (Ci G), (Ci H)]), (iV I), (uV [(Ao 6 v'155), (Ai (mgX A B C D E F G H x0 I)), (Ai (mgC A B C D E F G H x0 I))]), (uV [(Ao 6 v'155), (Ai (mgX A B C D E F G H x0 I)), (Ai (mgC A B C D E F G H x0 I))]), (oV 6 v'155), (iV (mgX A B C D E F G H x0 I)), (iV (mgC A B C D E F G H x0 I)), (pV 4 b152 0), (iV (mgX A B C D E F G H x0 I)), (iV (mgC A B C D E F G H x0 I))] [(Ho false rs0), (Hc b0 23 [(Ci A), (Ci B), (Ci C), (Ci D)]), (Hw b1 27 true 3 (Co 0 v0)), (Hc b2 29 [(Ci E), (Ci F), (Ci G), (Ci H)]), (Hw b152 33 true 3 (Co 6 v'155)), (Ho true rs'154), (Ho true rs'156)]))))))))))))))))))))))))))))))))))))))) := by kernel_rfl
theorem law_FnExactMoveGet_any (A : Int) (B : Int) (C : Int) (D : Int) (v0 : Value) (rs0 : List Row) (E : Int) (F : Int) (G : Int) (H : Int) (I : Int) (W : World) (bA : -9223372036854775808 ≤ A ∧ A ≤ 9223372036854775807) (bB : -9223372036854775808 ≤ B ∧ B ≤ 9223372036854775807) (bC : -9223372036854775808 ≤ C ∧ C ≤ 9223372036854775807) (bD : -9223372036854775808 ≤ D ∧ D ≤ 9223372036854775807) (x0 : AD) (hx0 : isArray v0 x0 rs0) (hw0 : ∀ r ∈ rs0, r.own = false ∧ r.sat W) (hn0 : lensAx x0) (bE : -9223372036854775808 ≤ E ∧ E ≤ 9223372036854775807) (bF : -9223372036854775808 ≤ F ∧ F ≤ 9223372036854775807) (bG : -9223372036854775808 ≤ G ∧ G ≤ 9223372036854775807) (bH : -9223372036854775808 ≤ H ∧ H ≤ 9223372036854775807) (bI : -9223372036854775808 ≤ I ∧ I ≤ 9223372036854775807) : Calls Try.prog 9 #[.agg #[.int .i64 A, .int .i64 B, .int .i64 C, .int .i64 D], v0, .agg #[.int .i64 E, .int .i64 F, .int .i64 G, .int .i64 H], .int .i64 I] W fun e W' => e = .returned (.bool true) ∧ Below W.heap.size W W' := by
  refine fn_ok mixed (E := {tb := [(13, sToArrX x0), (16, sEqArrayO), (18, sMarkArrayO), (19, sHeldArrayO), (10, sSzArrayO), (12, stoGeometry), (14, stoMove), (40, sMGetX x0), (42, sMGetX x0)], O := [(5, [12, 0, 1, 2, 3, 4, 5, 6, 7, 8, 9, 10, 11, 13, 14, 15]), (7, [11, 0, 1, 2, 3, 4, 5, 6, 7, 8, 9, 10, 12, 13, 14]), (24, [12, 0, 1, 2, 3, 4, 5, 6, 7, 8, 9, 10, 11, 13, 14, 15])]}) ⟨sToArrX_ok x0, sEqArrayO_ok, sMarkArrayO_ok, sHeldArrayO_ok, sSzArrayO_ok, stoGeometry_okk, stoMove_okk, sMGetX_I x0, sMGetX_S x0, trivial⟩ Try.func9 (fun _ _ => loopsOK_nil _ _ _) (@Eq.mpr _ _ (law_FnExactMoveGet_T A B C D v0 rs0 E F G H I x0) ?_) (HS.seenAll (fun _ => False) [.obj false rs0] (seenC_obj hw0 seenC_nil)) (fun v ch' w' hk hs => ⟨by rw [hk], hs.below⟩)
  clear hw0
  repeat' (show _; first
    | with_reducible exact rfl
    | with_reducible assumption
    | (intro (Q : List SV → List Ch → Prop) h; repeat (show Q _ _; first | with_reducible exact h | (replace h := h.2) | (refine (fun h => ?_) (h ?_))))
    | with_reducible exact cap_mg (by assumption)
    | with_reducible exact capOf1Ax (by assumption)
    | with_reducible exact wholeArray (by assumption)
    | with_reducible exact capOf1Array (by assumption)
    | refine And.intro ?_ ?_
    | apply Exists.intro
    | (refine fun (h : @Eq Bool _ _) => ?_; exfalso; revert h; simp; done)
    | (refine fun (h : @Eq Bool _ _) => ?_; exfalso; simp at h; omega)
    | (refine fun (h : @Eq Bool _ _) => ?_; exfalso; replace h := of_decide_eq_true h; simp only [mk] at h; omega)
    | intro _
    | exact True.intro
    | exact rfl
    | omega
    | (simp only [mk]; omega))
theorem walk_FnExactMoveGet (cs0 : Array Value) (cs1 : Array Value) (cs2 : Array Value) (aCol : Int) (W : World) (h0 : Has W (.cons .int (.cons .int (.cons .int (.cons .int .nil)))) cs0.toList) (h1 : Has W (.cons (.slice (.cons (.slice .int) (.cons .bool .nil))) (.cons (.slice .int) (.cons (.slice .int) .nil))) cs1.toList) (h2 : Has W (.cons .int (.cons .int (.cons .int (.cons .int .nil)))) cs2.toList) (baCol : -9223372036854775808 ≤ aCol ∧ aCol ≤ 9223372036854775807) : Calls Try.prog 9 #[.agg cs0, .agg cs1, .agg cs2, .int .i64 aCol] W fun e W' => e = .returned (.bool true) ∧ Below W.heap.size W W' := by
  obtain ⟨l0, hl0⟩ : ∃ l, cs0.toList = l := ⟨_, rfl⟩
  rw [hl0] at h0
  obtain ⟨aGGroups, _, rfl, baGGroups, h0_f0⟩ := has_int h0
  obtain ⟨aGBanks, _, rfl, baGBanks, h0_f1⟩ := has_int h0_f0
  obtain ⟨aGRows, _, rfl, baGRows, h0_f2⟩ := has_int h0_f1
  obtain ⟨aGCols, _, rfl, baGCols, h0_f3⟩ := has_int h0_f2
  obtain rfl := has_nil h0_f3
  rw [arr_of hl0]
  obtain ⟨l1, hl1⟩ : ∃ l, cs1.toList = l := ⟨_, rfl⟩
  rw [hl1] at h1
  obtain ⟨xaA, vaA, rsaA, evaA, hxaA, hwaA, hnaA⟩ := has_array h1
  rw [arr_of hl1, ← evaA]
  obtain ⟨l2, hl2⟩ : ∃ l, cs2.toList = l := ⟨_, rfl⟩
  rw [hl2] at h2
  obtain ⟨aMBank, _, rfl, baMBank, h2_f0⟩ := has_int h2
  obtain ⟨aMFrom, _, rfl, baMFrom, h2_f1⟩ := has_int h2_f0
  obtain ⟨aMTo, _, rfl, baMTo, h2_f2⟩ := has_int h2_f1
  obtain ⟨aMNext, _, rfl, baMNext, h2_f3⟩ := has_int h2_f2
  obtain rfl := has_nil h2_f3
  rw [arr_of hl2]
  exact law_FnExactMoveGet_any aGGroups aGBanks aGRows aGCols vaA rsaA aMBank aMFrom aMTo aMNext aCol W baGGroups baGBanks baGRows baGCols xaA hxaA hwaA hnaA baMBank baMFrom baMTo baMNext baCol
end Go.Proofs.Ytddeinpnadfgmaa

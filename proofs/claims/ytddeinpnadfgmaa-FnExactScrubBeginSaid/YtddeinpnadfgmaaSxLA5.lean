/-
  FnExactScrubBegin.
-/
import Derived.Test.YtddeinpnadfgmaaSxM8
import Derived.Test.YtddeinpnadfgmaaSxS3
namespace Go.Proofs.Ytddeinpnadfgmaa
set_option linter.unusedVariables false
set_option linter.unusedSimpArgs false
open Go.RowKit
set_option maxRecDepth 100000
set_option maxHeartbeats 8000000

abbrev ArrayD := AD
theorem capOf1Array {x : AD} (h : cap1Ax x) : capAx x := capOf1Ax h
theorem capA_of {x : AD} (h : capAx x) : capA x := by
  have h1 : totN x.c.sn x.c.n ≤ 2097152 := h.1
  exact ⟨by have := totN_n (sn := x.c.sn) x.c.n; omega, h.2.1, h.2.2, fun i hi => by have := totN_sn (sn := x.c.sn) hi; omega⟩
theorem totN_set {sn : Nat → Nat} {k m : Nat} : ∀ n : Nat, totN (fun i => if i = k then m else sn i) n ≤ totN sn n + m ∧ (n ≤ k → totN (fun i => if i = k then m else sn i) n = totN sn n) := fun n => by
  induction n with
  | zero => exact ⟨Nat.zero_le _, fun _ => rfl⟩
  | succ n ih =>
    simp only [totN]
    by_cases e : n = k
    · have := ih.2 (by omega)
      simp only [if_pos e]
      exact ⟨by omega, fun h => by omega⟩
    · simp only [if_neg e]
      exact ⟨by omega, fun h => by have := ih.2 (by omega); omega⟩
theorem cap_set {x : AD} {k m : Nat} {f : Nat → Int} {b : Bool} (h : cap1Ax x) (hm : m ≤ 1048576) : capAx (setA x k m f b) := by
  have h1 := (totN_set (sn := x.c.sn) (k := k) (m := m) x.c.n).1
  exact ⟨by show totN _ x.c.n ≤ _; have := h.1; simp only [setA]; omega, by have := h.2.1; show x.aN ≤ _; omega, by have := h.2.2; show x.hN ≤ _; omega⟩
theorem cap_sn {x : AD} (h : cap1Ax x) {i : Nat} (hi : i < x.c.n) : x.c.sn i ≤ 1048576 := by
  have := totN_sn (sn := x.c.sn) hi
  have := h.1
  omega
def sToArrX (x0 : AD) : Sm := fun args ch k =>
  match args with
  | [.a (.c (.obj i v))] =>
    match ch[i]? with
    | some (.obj _ rs) => (isArray v x0 rs ∧ capAx x0) ∧ ∀ (v' : Value) (rs' : List Row), isArray v' x0 rs' → k (.a (.c (.obj ch.length v'))) (ch ++ [.obj true rs']) []
    | _ => False
  | _ => False
theorem sToArrX_ok (x0 : AD) : SmOK Try.prog 13 (sToArrX x0) := by
  refine ⟨sToArrayO_ok_laws_toArray.1, fun X args ch k w h0 hs => sToArrayO_ok_laws_toArray.2 X args ch k w ?_ hs⟩
  unfold sToArrX at h0
  unfold sToArrayO
  split at h0
  · split at h0
    · rename_i hi
      simp only [hi]
      exact ⟨x0, h0⟩
    · exact h0.elim
  · exact h0.elim
def tkD (gG gB gR gC n : Int) (x : AD) : TicketD := if slOk gG gB gR gC n x = true then ⟨n, x.c.sn n.toNat, x.c.sy n.toNat, x.c.po n.toNat, (slA gG gB gR gC n x).c.sn n.toNat, (slA gG gB gR gC n x).c.sy n.toNat, (slA gG gB gR gC n x).c.po n.toNat, slC gG gB gR gC n x⟩ else ⟨0, 0, fun _ => 0, false, 0, fun _ => 0, false, 0⟩
theorem capA_ofx {x : AD} (h : capAx x) : capA x := capA_of h
theorem cap_tk {gG gB gR gC n : Int} {x : AD} (h : cap1Ax x) : capTicket (tkD gG gB gR gC n x) := by
  have hc := capA_of (capOf1Ax h)
  unfold tkD
  split
  · rename_i hok
    simp only [slOk, Bool.and_eq_true] at hok
    have hin := (at_in hok.1 hok.2).2.1
    have hz := capA_sl (gG := gG) (gB := gB) (gR := gR) (gC := gC) (n := n) hc
    exact ⟨hc.2.2.2 _ hin, hz.2.2.2 _ (by rw [slA_n]; exact hin)⟩
  · exact ⟨by show 0 ≤ _; omega, by show 0 ≤ _; omega⟩
def sSbX (x : AD) : Sm := fun args ch k =>
  match args with
  | [.a (.agg [c0, c1, c2, c3]), .a (.c (.obj i v)), .a (.c f0)] =>
    match ch[i]?, ints [c0, c1, c2, c3, f0] with
    | some (.obj _ rs), some [gG, gB, gR, gC, n] => (isArray v x rs ∧ capAx x) ∧ ∀ (v' : Value) (rs' : List Row), isTicket v' (tkD gG gB gR gC n x) rs' → k (.tup [.c (.obj ch.length v'), .c (.bool (slOk gG gB gR gC n x))]) (ch ++ [.obj true rs']) []
    | _, _ => False
  | _ => False
theorem sSbX_I (x : AD) : SmOK Try.prog 35 (sSbX x) := by
  refine smN Try.call35 fun args ch k w X h0 hs => ?_
  unfold sSbX at h0
  split at h0
  · rename_i c0 c1 c2 c3 i v f0
    split at h0
    · rename_i o rs gG gB gR gC n hid hi
      obtain ⟨q0, hi⟩ := ints_cons hi
      obtain ⟨q1, hi⟩ := ints_cons hi
      obtain ⟨q2, hi⟩ := ints_cons hi
      obtain ⟨q3, hi⟩ := ints_cons hi
      obtain ⟨q4, hi⟩ := ints_cons hi
      obtain ⟨⟨hx, hc⟩, h1⟩ := h0
      obtain ⟨O, A, H, C, D, E, so, sc, rfl, hA⟩ := isA_seen hx (hs.seeObj hid)
      have e20 : SA.den (.agg [c0, c1, c2, c3]) = .agg #[.int .i64 gG, .int .i64 gB, .int .i64 gR, .int .i64 gC] := by simp only [SA.den, List.map_cons, List.map_nil, q0, q1, q2, q3]
      have e21 : SA.den (.c f0) = .int .i64 n := by simp only [SA.den, q4]
      simp only [List.map_cons, List.map_nil, den_a, e20, e21]
      refine Calls.mono (sbgI_any x O A H C D E so sc gG gB gR gC n (tkD gG gB gR gC n x).Index (tkD gG gB gR gC n x).BeforeSymbolsN (tkD gG gB gR gC n x).BeforeSymbolsg0 (tkD gG gB gR gC n x).BeforePoison (tkD gG gB gR gC n x).AfterSymbolsN (tkD gG gB gR gC n x).AfterSymbolsg0 (tkD gG gB gR gC n x).AfterPoison (tkD gG gB gR gC n x).Code (slOk gG gB gR gC n x) w hA (capA_of hc) (fun h => by simp [tkD, h]) (fun h => by simp [tkD, h])) fun e w' ⟨r1, r2, k1, k2, he, hs'⟩ => ⟨.tup [.c (.obj ch.length (.agg #[.int .i64 (tkD gG gB gR gC n x).Index, .slice r1 (tkD gG gB gR gC n x).BeforeSymbolsN k1, .bool (tkD gG gB gR gC n x).BeforePoison, .slice r2 (tkD gG gB gR gC n x).AfterSymbolsN k2, .bool (tkD gG gB gR gC n x).AfterPoison, .int .i64 (tkD gG gB gR gC n x).Code])), .c (.bool (slOk gG gB gR gC n x))], [.obj true _], ?_, hs'.pack (rs := [_, _]) (by simp), rfl, h1 _ _ ⟨r1, r2, k1, _, _, k2, _, _, _, _, rfl, rfl⟩⟩
      rw [he]
      rfl
    · exact h0.elim
  · exact h0.elim
theorem sSbX_S (x : AD) : SmOK Try.prog 37 (sSbX x) := by
  refine smN Try.call37 fun args ch k w X h0 hs => ?_
  unfold sSbX at h0
  split at h0
  · rename_i c0 c1 c2 c3 i v f0
    split at h0
    · rename_i o rs gG gB gR gC n hid hi
      obtain ⟨q0, hi⟩ := ints_cons hi
      obtain ⟨q1, hi⟩ := ints_cons hi
      obtain ⟨q2, hi⟩ := ints_cons hi
      obtain ⟨q3, hi⟩ := ints_cons hi
      obtain ⟨q4, hi⟩ := ints_cons hi
      obtain ⟨⟨hx, hc⟩, h1⟩ := h0
      obtain ⟨O, A, H, C, D, E, so, sc, rfl, hA⟩ := isA_seen hx (hs.seeObj hid)
      have e20 : SA.den (.agg [c0, c1, c2, c3]) = .agg #[.int .i64 gG, .int .i64 gB, .int .i64 gR, .int .i64 gC] := by simp only [SA.den, List.map_cons, List.map_nil, q0, q1, q2, q3]
      have e21 : SA.den (.c f0) = .int .i64 n := by simp only [SA.den, q4]
      simp only [List.map_cons, List.map_nil, den_a, e20, e21]
      refine Calls.mono (sbgS_any x O A H C D E so sc gG gB gR gC n (tkD gG gB gR gC n x).Index (tkD gG gB gR gC n x).BeforeSymbolsN (tkD gG gB gR gC n x).BeforeSymbolsg0 (tkD gG gB gR gC n x).BeforePoison (tkD gG gB gR gC n x).AfterSymbolsN (tkD gG gB gR gC n x).AfterSymbolsg0 (tkD gG gB gR gC n x).AfterPoison (tkD gG gB gR gC n x).Code (slOk gG gB gR gC n x) w hA (capA_of hc) (fun h => by simp [tkD, h]) (fun h => by simp [tkD, h])) fun e w' ⟨r1, r2, k1, k2, he, hs'⟩ => ⟨.tup [.c (.obj ch.length (.agg #[.int .i64 (tkD gG gB gR gC n x).Index, .slice r1 (tkD gG gB gR gC n x).BeforeSymbolsN k1, .bool (tkD gG gB gR gC n x).BeforePoison, .slice r2 (tkD gG gB gR gC n x).AfterSymbolsN k2, .bool (tkD gG gB gR gC n x).AfterPoison, .int .i64 (tkD gG gB gR gC n x).Code])), .c (.bool (slOk gG gB gR gC n x))], [.obj true _], ?_, hs'.pack (rs := [_, _]) (by simp), rfl, h1 _ _ ⟨r1, r2, k1, _, _, k2, _, _, _, _, rfl, rfl⟩⟩
      rw [he]
      rfl
    · exact h0.elim
  · exact h0.elim
theorem ctoGeometry_T (gGroups gBanks gRows gCols : Int) : (exFn Try.prog {tb := []} 400 Try.f12 ([.a (.agg [.int gGroups, .int gBanks, .int gRows, .int gCols])]) ([]) (fun v _ => v.den = .agg #[.int .i64 (gGroups), .int .i64 (gBanks), .int .i64 (gRows), .int .i64 (gCols)])) = (
  (∀ b0 : Nat,
 (∀ b1 : Nat,
 (∀ b2 : Nat,
 (b0 = b0 ∧
 (b2 = b2 ∧
 (b0 = b0 ∧
 (b2 = b2 ∧
 (b0 = b0 ∧
 (b2 = b2 ∧
 (b0 = b0 ∧
 (b2 = b2 ∧
 (b2 = b2 ∧
 (b1 = b1 ∧
 (b1 = b1 ∧
 (Wa [(Wi gGroups), (Wi gBanks), (Wi gRows), (Wi gCols)]) = (Wa [(Wi gGroups), (Wi gBanks), (Wi gRows), (Wi gCols)])))))))))))))))) := by kernel_rfl
theorem ctoGeometry_any (gGroups gBanks gRows gCols : Int) (w : World) : Calls Try.prog 12 #[.agg #[.int .i64 gGroups, .int .i64 gBanks, .int .i64 gRows, .int .i64 gCols]] w fun e w' => e = .returned (.agg #[.int .i64 (gGroups), .int .i64 (gBanks), .int .i64 (gRows), .int .i64 (gCols)]) ∧ Below w.heap.size w w' := by
  refine fnB (tb := []) trivial Try.func12 (@Eq.mpr _ _ (ctoGeometry_T gGroups gBanks gRows gCols) ?_) (HS.start w (fun _ => False)) (fun v ch' w' hk hs => ⟨by rw [hk], hs.below⟩)
  repeat' (first | exact rfl | exact True.intro | refine And.intro ?_ ?_ | intro _)
  all_goals (try (simp_all; done))
  all_goals (try (simp_all; omega))
def stoGeometry : Sm := fun args ch k =>
  match args with
  | [.a (.agg [c0, c1, c2, c3])] =>
    match ints [c0, c1, c2, c3], bools [] with
    | some [gGroups, gBanks, gRows, gCols], some [] => k (.a (.agg [.int (gGroups), .int (gBanks), .int (gRows), .int (gCols)])) ch []
    | _, _ => False
  | _ => False
theorem stoGeometry_ok {f : FuncId} (hc : ∀ args w, (callFunc f args).run Try.prog w = .ok (.enter f args) w) (h : ∀ (gGroups gBanks gRows gCols : Int) (w : World), Calls Try.prog f #[.agg #[.int .i64 gGroups, .int .i64 gBanks, .int .i64 gRows, .int .i64 gCols]] w fun e w' => e = .returned (.agg #[.int .i64 (gGroups), .int .i64 (gBanks), .int .i64 (gRows), .int .i64 (gCols)]) ∧ Below w.heap.size w w') : SmOK Try.prog f stoGeometry := by
  refine smB hc fun args ch k w X h0 hs => ?_
  unfold stoGeometry at h0
  split at h0
  · split at h0
    · rename_i gGroups gBanks gRows gCols hi hb
      obtain ⟨e0, hi1⟩ := ints_cons hi
      obtain ⟨e1, hi2⟩ := ints_cons hi1
      obtain ⟨e2, hi3⟩ := ints_cons hi2
      obtain ⟨e3, hi4⟩ := ints_cons hi3
      refine ⟨_, h0, ?_⟩
      simp only [List.map_cons, List.map_nil, den_a, den_c, SA.den, e0, e1, e2, e3]
      exact h gGroups gBanks gRows gCols w
    · exact h0.elim
  · exact h0.elim
theorem stoGeometry_okk : SmOK Try.prog 12 stoGeometry := stoGeometry_ok Try.call12 ctoGeometry_any
theorem law_FnExactScrubBegin_T (A : Int) (B : Int) (C : Int) (D : Int) (v0 : Value) (rs0 : List Row) (E : Int) (x0 : AD) : (exFn Try.prog {tb := [(13, sToArrX x0), (16, sEqArrayO), (18, sMarkArrayO), (19, sHeldArrayO), (10, sSzArrayO), (24, sEqTicketO), (25, sMarkTicketO), (38, sHeldTicketO), (12, stoGeometry), (35, sSbX x0), (37, sSbX x0)], O := [(5, [9, 0, 1, 2, 3, 4, 5, 6, 7, 8, 10, 11]), (7, [8, 0, 1, 2, 3, 4, 5, 6, 7, 9, 10]), (24, [9, 0, 1, 2, 3, 4, 5, 6, 7, 8, 10, 11])]} 400 Try.f7 ([.a (.agg [.int A, .int B, .int C, .int D]), .a (.c (.obj 0 v0)), .a (.c (.int E))]) ([.obj false rs0]) (fun v _ => v.den = .bool true)) = (
  (∀ b0 : Nat,
 ((wholeC true v0 3) ∧
 (∀ b1 : Nat,
 (b1 = b1 ∧
 (∃ x2 : AD, (((isArray v0 x2 rs0) ∧
 ((lensAx x2) ∧
 (szK1 (1048576 : Int)))) ∧
 ((Wb true) = (Wb true) ∧
 (∀ z3 : Int,
 ((szO z3 (1048576 : Int)) →
 ((cap1Ax x2) →
 (((decide (z3 < (0 : Int))) = true →
 (Wb true) = (Wb true)) ∧
 ((decide (z3 < (0 : Int))) = false →
 ((∀ b4 : Nat,
 (b0 = b0 ∧
 (b1 = b1 ∧
 (((isArray v0 x0 rs0) ∧
 (capAx x0)) ∧
 (∀ v'5 : Value,
 (∀ rs'6 : (List Row),
 ((isArray v'5 x0 rs'6) →
 (((isArray v'5 x0 rs'6) ∧
 (capAx x0)) ∧
 (∀ v'7 : Value,
 (∀ rs'8 : (List Row),
 ((isTicket v'7 (tkD A B C D E x0) rs'8) →
 ((b4 = b4 ∧
 (wholeC true v'7 6)) ∧
 (b1 = b1 ∧
 (((isArray v0 x0 rs0) ∧
 (capAx x0)) ∧
 (∀ v'9 : Value,
 (∀ rs'10 : (List Row),
 ((isArray v'9 x0 rs'10) →
 (∀ b11 : Nat,
 ((b11 = b11 ∧
 (wholeC true v'9 3)) ∧
 ((∀ b12 : Nat,
 (b0 = b0 ∧
 (b11 = b11 ∧
 (((isArray v'9 x0 rs'10) ∧
 (capAx x0)) ∧
 (∀ v'13 : Value,
 (∀ rs'14 : (List Row),
 ((isTicket v'13 (tkD A B C D E x0) rs'14) →
 ((b12 = b12 ∧
 (wholeC true v'13 6)) ∧
 (b12 = b12 ∧
 (b4 = b4 ∧
 (∃ x15 : TicketD, (((isTicket v'13 x15 rs'14) ∧
 ((isTicket v'7 x15 rs'8) ∧
 (capTicket x15))) ∧
 ((((slOk A B C D E x0) != (slOk A B C D E x0)) = true →
 (Wb false) = (Wb true)) ∧
 (((slOk A B C D E x0) != (slOk A B C D E x0)) = false →
 (b11 = b11 ∧
 (b1 = b1 ∧
 (((isArray v0 x0 rs0) ∧
 (capAx x0)) ∧
 (∀ v'16 : Value,
 (∀ rs'17 : (List Row),
 ((isArray v'16 x0 rs'17) →
 (True ∧
 (∃ x18 : AD, (((isArray v'9 x18 rs'10) ∧
 ((isArray v'16 x18 rs'17) ∧
 (capAx x18))) ∧
 (True ∧
 (b11 = b11 ∧
 (∃ x19 : AD, (((isArray v'9 x19 rs'10) ∧
 ((capAx x19) ∧
 (mrkC (1 : Int)))) ∧
 ((endC (1 : Int) (endArray (1 : Int) x19) (50331648 : Int)) →
 (∀ rs'20 : (List Row),
 ((isArray v'9 (markArrayD (1 : Int) x19) rs'20) →
 (((decide ((endArray (1 : Int) x19) < (0 : Int))) = false →
 (b12 = b12 ∧
 (b4 = b4 ∧
 (∃ x21 : TicketD, (((isTicket v'13 x21 rs'14) ∧
 ((isTicket v'7 x21 rs'8) ∧
 (capTicket x21))) ∧
 ((((slOk A B C D E x0) != (slOk A B C D E x0)) = true →
 (Wb false) = (Wb true)) ∧
 (((slOk A B C D E x0) != (slOk A B C D E x0)) = false →
 (b12 = b12 ∧
 (∃ x22 : TicketD, (((isTicket v'13 x22 rs'14) ∧
 ((capTicket x22) ∧
 (mrkC (1 : Int)))) ∧
 ((endC (1 : Int) (endTicket (1 : Int) x22) (33554432 : Int)) →
 (∀ rs'23 : (List Row),
 ((isTicket v'13 (markTicketD (1 : Int) x22) rs'23) →
 (b12 = b12 ∧
 (∃ x24 : TicketD, (((isTicket v'13 (markTicketD (1 : Int) x24) rs'23) ∧
 ((capTicket x24) ∧
 (mrkC (1 : Int)))) ∧
 (((decide ((endTicket (1 : Int) x24) < (0 : Int))) = true →
 (Wb false) = (Wb true)) ∧
 ((decide ((endTicket (1 : Int) x24) < (0 : Int))) = false →
 ((((endTicket (1 : Int) x24) != (endTicket (1 : Int) x22)) = true →
 (Wb false) = (Wb true)) ∧
 (((endTicket (1 : Int) x24) != (endTicket (1 : Int) x22)) = false →
 ((∀ b25 : Nat,
 (b0 = b0 ∧
 (b1 = b1 ∧
 (((isArray v0 x0 rs0) ∧
 (capAx x0)) ∧
 (∀ v'26 : Value,
 (∀ rs'27 : (List Row),
 ((isArray v'26 x0 rs'27) →
 (((isArray v'26 x0 rs'27) ∧
 (capAx x0)) ∧
 (∀ v'28 : Value,
 (∀ rs'29 : (List Row),
 ((isTicket v'28 (tkD A B C D E x0) rs'29) →
 ((b25 = b25 ∧
 (wholeC true v'28 6)) ∧
 (b25 = b25 ∧
 (b4 = b4 ∧
 (∃ x30 : TicketD, (((isTicket v'28 x30 rs'29) ∧
 ((isTicket v'7 x30 rs'8) ∧
 (capTicket x30))) ∧
 ((((slOk A B C D E x0) != (slOk A B C D E x0)) = true →
 (Wb false) = (Wb true)) ∧
 (((slOk A B C D E x0) != (slOk A B C D E x0)) = false →
 (b12 = b12 ∧
 (∃ x31 : TicketD, (((isTicket v'13 (markTicketD (1 : Int) x31) rs'23) ∧
 ((capTicket x31) ∧
 (mrkC (1 : Int)))) ∧
 (((decide ((endTicket (1 : Int) x31) < (0 : Int))) = true →
 (Wb false) = (Wb true)) ∧
 ((decide ((endTicket (1 : Int) x31) < (0 : Int))) = false →
 ((((endTicket (1 : Int) x31) != (endTicket (1 : Int) x22)) = true →
 (Wb false) = (Wb true)) ∧
 (((endTicket (1 : Int) x31) != (endTicket (1 : Int) x22)) = false →
 (Wb true) = (Wb true)))))))))))))))))))))))))) ∧
 (b0 = b0 ∧
 (b1 = b1 ∧
 ((True ∧
 ((((isArray v0 x0 rs0) ∧
 (capAx x0)) ∧
 (∀ v'32 : Value,
 (∀ rs'33 : (List Row),
 ((isArray v'32 x0 rs'33) →
 (True ∧
 ((((isArray v'32 x0 rs'33) ∧
 (capAx x0)) ∧
 (∀ v'34 : Value,
 (∀ rs'35 : (List Row),
 ((isTicket v'34 (tkD A B C D E x0) rs'35) →
 (True ∧
 (∀ b36 : Nat,
 (True ∧
 ((b36 = b36 ∧
 (wholeC true v'34 6)) ∧
 (True ∧
 (true = true ∧
 (∀ Q37 : ((List SV) →
 ((List Ch) →
 Prop)),
 ((∀ b38 : Nat,
 (b0 = b0 ∧
 (b1 = b1 ∧
 (((isArray v0 x0 rs0) ∧
 (capAx x0)) ∧
 (∀ v'39 : Value,
 (∀ rs'40 : (List Row),
 ((isArray v'39 x0 rs'40) →
 (((isArray v'39 x0 rs'40) ∧
 (capAx x0)) ∧
 (∀ v'41 : Value,
 (∀ rs'42 : (List Row),
 ((isTicket v'41 (tkD A B C D E x0) rs'42) →
 ((b38 = b38 ∧
 (wholeC true v'41 6)) ∧
 (Q37 [(aV [(Ci A), (Ci B), (Ci C), (Ci D)]), (aV [(Ci A), (Ci B), (Ci C), (Ci D)]), (oV 0 v0), (oV 12 v'39), (iV E), (uV [(Ao 13 v'41), (Ab (slOk A B C D E x0))]), (uV [(Ao 13 v'41), (Ab (slOk A B C D E x0))]), (oV 13 v'41), (bV (slOk A B C D E x0)), (pV 11 b38 0), (bV (slOk A B C D E x0))] [(Ho false rs0), (Hc b0 23 [(Ci A), (Ci B), (Ci C), (Ci D)]), (Hw b1 27 true 3 (Co 0 v0)), (Hw b4 54 true 6 (Co 5 v'7)), (Ho true rs'6), (Ho true rs'8), (Ho true rs'20), (Hw b11 33 true 3 (Co 6 v'9)), (Hw b12 54 true 6 (Co 9 v'13)), (Ho true rs'23), (Ho true rs'17), (Hw b38 54 true 6 (Co 13 v'41)), (Ho true rs'40), (Ho true rs'42)]))))))))))))) →
 (Q37 [(aV [(Ci A), (Ci B), (Ci C), (Ci D)]), (aV [(Ci A), (Ci B), (Ci C), (Ci D)]), (oV 0 v0), (oV 12 v'32), (iV E), (uV [(Ao 13 v'34), (Ab (slOk A B C D E x0))]), (uV [(Ao 13 v'34), (Ab (slOk A B C D E x0))]), (oV 13 v'34), (bV (slOk A B C D E x0)), (pV 11 b36 0), (bV (slOk A B C D E x0))] [(Ho false rs0), (Hc b0 23 [(Ci A), (Ci B), (Ci C), (Ci D)]), (Hw b1 27 true 3 (Co 0 v0)), (Hw b4 54 true 6 (Co 5 v'7)), (Ho true rs'6), (Ho true rs'8), (Ho true rs'20), (Hw b11 33 true 3 (Co 6 v'9)), (Hw b12 54 true 6 (Co 9 v'13)), (Ho true rs'23), (Ho true rs'17), (Hw b36 54 true 6 (Co 13 v'34)), (Ho true rs'33), (Ho true rs'35)]))))))))))))) ∧
 (∀ b43 : Nat,
 (True ∧
 (((isArray v'32 x0 rs'33) ∧
 (capAx x0)) ∧
 (∀ v'44 : Value,
 (∀ rs'45 : (List Row),
 ((isTicket v'44 (tkD A B C D E x0) rs'45) →
 (True ∧
 ((b43 = b43 ∧
 (wholeC true v'44 6)) ∧
 (True ∧
 (true = true ∧
 (∀ Q46 : ((List SV) →
 ((List Ch) →
 Prop)),
 ((∀ b47 : Nat,
 (b0 = b0 ∧
 (b1 = b1 ∧
 (((isArray v0 x0 rs0) ∧
 (capAx x0)) ∧
 (∀ v'48 : Value,
 (∀ rs'49 : (List Row),
 ((isArray v'48 x0 rs'49) →
 (((isArray v'48 x0 rs'49) ∧
 (capAx x0)) ∧
 (∀ v'50 : Value,
 (∀ rs'51 : (List Row),
 ((isTicket v'50 (tkD A B C D E x0) rs'51) →
 ((b47 = b47 ∧
 (wholeC true v'50 6)) ∧
 (Q46 [(aV [(Ci A), (Ci B), (Ci C), (Ci D)]), (aV [(Ci A), (Ci B), (Ci C), (Ci D)]), (oV 0 v0), (oV 12 v'48), (iV E), (uV [(Ao 13 v'50), (Ab (slOk A B C D E x0))]), (uV [(Ao 13 v'50), (Ab (slOk A B C D E x0))]), (oV 13 v'50), (bV (slOk A B C D E x0)), (pV 11 b47 0), (bV (slOk A B C D E x0))] [(Ho false rs0), (Hc b0 23 [(Ci A), (Ci B), (Ci C), (Ci D)]), (Hw b1 27 true 3 (Co 0 v0)), (Hw b4 54 true 6 (Co 5 v'7)), (Ho true rs'6), (Ho true rs'8), (Ho true rs'20), (Hw b11 33 true 3 (Co 6 v'9)), (Hw b12 54 true 6 (Co 9 v'13)), (Ho true rs'23), (Ho true rs'17), (Hw b47 54 true 6 (Co 13 v'50)), (Ho true rs'49), (Ho true rs'51)]))))))))))))) →
 (Q46 [(aV [(Ci A), (Ci B), (Ci C), (Ci D)]), (aV [(Ci A), (Ci B), (Ci C), (Ci D)]), (oV 0 v0), (oV 12 v'32), (iV E), (uV [(Ao 13 v'44), (Ab (slOk A B C D E x0))]), (uV [(Ao 13 v'44), (Ab (slOk A B C D E x0))]), (oV 13 v'44), (bV (slOk A B C D E x0)), (pV 11 b43 0), (bV (slOk A B C D E x0))] [(Ho false rs0), (Hc b0 23 [(Ci A), (Ci B), (Ci C), (Ci D)]), (Hw b1 27 true 3 (Co 0 v0)), (Hw b4 54 true 6 (Co 5 v'7)), (Ho true rs'6), (Ho true rs'8), (Ho true rs'20), (Hw b11 33 true 3 (Co 6 v'9)), (Hw b12 54 true 6 (Co 9 v'13)), (Ho true rs'23), (Ho true rs'17), (Hw b43 54 true 6 (Co 13 v'44)), (Ho true rs'33), (Ho true rs'45)]))))))))))))))))))) ∧
 (∀ b52 : Nat,
 (True ∧
 (((isArray v0 x0 rs0) ∧
 (capAx x0)) ∧
 (∀ v'53 : Value,
 (∀ rs'54 : (List Row),
 ((isArray v'53 x0 rs'54) →
 (True ∧
 (((isArray v'53 x0 rs'54) ∧
 (capAx x0)) ∧
 (∀ v'55 : Value,
 (∀ rs'56 : (List Row),
 ((isTicket v'55 (tkD A B C D E x0) rs'56) →
 (True ∧
 ((b52 = b52 ∧
 (wholeC true v'55 6)) ∧
 (True ∧
 (true = true ∧
 (∀ Q57 : ((List SV) →
 ((List Ch) →
 Prop)),
 ((∀ b58 : Nat,
 (b0 = b0 ∧
 (b1 = b1 ∧
 (((isArray v0 x0 rs0) ∧
 (capAx x0)) ∧
 (∀ v'59 : Value,
 (∀ rs'60 : (List Row),
 ((isArray v'59 x0 rs'60) →
 (((isArray v'59 x0 rs'60) ∧
 (capAx x0)) ∧
 (∀ v'61 : Value,
 (∀ rs'62 : (List Row),
 ((isTicket v'61 (tkD A B C D E x0) rs'62) →
 ((b58 = b58 ∧
 (wholeC true v'61 6)) ∧
 (Q57 [(aV [(Ci A), (Ci B), (Ci C), (Ci D)]), (aV [(Ci A), (Ci B), (Ci C), (Ci D)]), (oV 0 v0), (oV 12 v'59), (iV E), (uV [(Ao 13 v'61), (Ab (slOk A B C D E x0))]), (uV [(Ao 13 v'61), (Ab (slOk A B C D E x0))]), (oV 13 v'61), (bV (slOk A B C D E x0)), (pV 11 b58 0), (bV (slOk A B C D E x0))] [(Ho false rs0), (Hc b0 23 [(Ci A), (Ci B), (Ci C), (Ci D)]), (Hw b1 27 true 3 (Co 0 v0)), (Hw b4 54 true 6 (Co 5 v'7)), (Ho true rs'6), (Ho true rs'8), (Ho true rs'20), (Hw b11 33 true 3 (Co 6 v'9)), (Hw b12 54 true 6 (Co 9 v'13)), (Ho true rs'23), (Ho true rs'17), (Hw b58 54 true 6 (Co 13 v'61)), (Ho true rs'60), (Ho true rs'62)]))))))))))))) →
 (Q57 [(aV [(Ci A), (Ci B), (Ci C), (Ci D)]), (aV [(Ci A), (Ci B), (Ci C), (Ci D)]), (oV 0 v0), (oV 12 v'53), (iV E), (uV [(Ao 13 v'55), (Ab (slOk A B C D E x0))]), (uV [(Ao 13 v'55), (Ab (slOk A B C D E x0))]), (oV 13 v'55), (bV (slOk A B C D E x0)), (pV 11 b52 0), (bV (slOk A B C D E x0))] [(Ho false rs0), (Hc b0 23 [(Ci A), (Ci B), (Ci C), (Ci D)]), (Hw b1 27 true 3 (Co 0 v0)), (Hw b4 54 true 6 (Co 5 v'7)), (Ho true rs'6), (Ho true rs'8), (Ho true rs'20), (Hw b11 33 true 3 (Co 6 v'9)), (Hw b12 54 true 6 (Co 9 v'13)), (Ho true rs'23), (Ho true rs'17), (Hw b52 54 true 6 (Co 13 v'55)), (Ho true rs'54), (Ho true rs'56)])))))))))))))))))))) ∧
 (∀ b63 : Nat,
 (True ∧
 (True ∧
 (((isArray v0 x0 rs0) ∧
 (capAx x0)) ∧
 (∀ v'64 : Value,
 (∀ rs'65 : (List Row),
 ((isArray v'64 x0 rs'65) →
 (True ∧
 (((isArray v'64 x0 rs'65) ∧
 (capAx x0)) ∧
 (∀ v'66 : Value,
 (∀ rs'67 : (List Row),
 ((isTicket v'66 (tkD A B C D E x0) rs'67) →
 (True ∧
 ((b63 = b63 ∧
 (wholeC true v'66 6)) ∧
 (True ∧
 (true = true ∧
 (∀ Q68 : ((List SV) →
 ((List Ch) →
 Prop)),
 ((∀ b69 : Nat,
 (b0 = b0 ∧
 (b1 = b1 ∧
 (((isArray v0 x0 rs0) ∧
 (capAx x0)) ∧
 (∀ v'70 : Value,
 (∀ rs'71 : (List Row),
 ((isArray v'70 x0 rs'71) →
 (((isArray v'70 x0 rs'71) ∧
 (capAx x0)) ∧
 (∀ v'72 : Value,
 (∀ rs'73 : (List Row),
 ((isTicket v'72 (tkD A B C D E x0) rs'73) →
 ((b69 = b69 ∧
 (wholeC true v'72 6)) ∧
 (Q68 [(aV [(Ci A), (Ci B), (Ci C), (Ci D)]), (aV [(Ci A), (Ci B), (Ci C), (Ci D)]), (oV 0 v0), (oV 12 v'70), (iV E), (uV [(Ao 13 v'72), (Ab (slOk A B C D E x0))]), (uV [(Ao 13 v'72), (Ab (slOk A B C D E x0))]), (oV 13 v'72), (bV (slOk A B C D E x0)), (pV 11 b69 0), (bV (slOk A B C D E x0))] [(Ho false rs0), (Hc b0 23 [(Ci A), (Ci B), (Ci C), (Ci D)]), (Hw b1 27 true 3 (Co 0 v0)), (Hw b4 54 true 6 (Co 5 v'7)), (Ho true rs'6), (Ho true rs'8), (Ho true rs'20), (Hw b11 33 true 3 (Co 6 v'9)), (Hw b12 54 true 6 (Co 9 v'13)), (Ho true rs'23), (Ho true rs'17), (Hw b69 54 true 6 (Co 13 v'72)), (Ho true rs'71), (Ho true rs'73)]))))))))))))) →
 (Q68 [(aV [(Ci A), (Ci B), (Ci C), (Ci D)]), (aV [(Ci A), (Ci B), (Ci C), (Ci D)]), (oV 0 v0), (oV 12 v'64), (iV E), (uV [(Ao 13 v'66), (Ab (slOk A B C D E x0))]), (uV [(Ao 13 v'66), (Ab (slOk A B C D E x0))]), (oV 13 v'66), (bV (slOk A B C D E x0)), (pV 11 b63 0), (bV (slOk A B C D E x0))] [(Ho false rs0), (Hc b0 23 [(Ci A), (Ci B), (Ci C), (Ci D)]), (Hw b1 27 true 3 (Co 0 v0)), (Hw b4 54 true 6 (Co 5 v'7)), (Ho true rs'6), (Ho true rs'8), (Ho true rs'20), (Hw b11 33 true 3 (Co 6 v'9)), (Hw b12 54 true 6 (Co 9 v'13)), (Ho true rs'23), (Ho true rs'17), (Hw b63 54 true 6 (Co 13 v'66)), (Ho true rs'65), (Ho true rs'67)]))))))))))))))))))))))))))))))))))))))))))) ∧
 ((decide ((endArray (1 : Int) x19) < (0 : Int))) = true →
 (Wb false) = (Wb true))))))))))))))))))))))))))))))))) ∧
 (b0 = b0 ∧
 (b11 = b11 ∧
 ((True ∧
 ((((isArray v'9 x0 rs'10) ∧
 (capAx x0)) ∧
 (∀ v'74 : Value,
 (∀ rs'75 : (List Row),
 ((isTicket v'74 (tkD A B C D E x0) rs'75) →
 (True ∧
 (∀ b76 : Nat,
 (True ∧
 ((b76 = b76 ∧
 (wholeC true v'74 6)) ∧
 (True ∧
 (true = true ∧
 (∀ Q77 : ((List SV) →
 ((List Ch) →
 Prop)),
 ((∀ b78 : Nat,
 (b0 = b0 ∧
 (b11 = b11 ∧
 (((isArray v'9 x0 rs'10) ∧
 (capAx x0)) ∧
 (∀ v'79 : Value,
 (∀ rs'80 : (List Row),
 ((isTicket v'79 (tkD A B C D E x0) rs'80) →
 ((b78 = b78 ∧
 (wholeC true v'79 6)) ∧
 (Q77 [(aV [(Ci A), (Ci B), (Ci C), (Ci D)]), (aV [(Ci A), (Ci B), (Ci C), (Ci D)]), (oV 6 v'9), (iV E), (uV [(Ao 9 v'79), (Ab (slOk A B C D E x0))]), (uV [(Ao 9 v'79), (Ab (slOk A B C D E x0))]), (oV 9 v'79), (bV (slOk A B C D E x0)), (pV 8 b78 0), (bV (slOk A B C D E x0))] [(Ho false rs0), (Hc b0 23 [(Ci A), (Ci B), (Ci C), (Ci D)]), (Hw b1 27 true 3 (Co 0 v0)), (Hw b4 54 true 6 (Co 5 v'7)), (Ho true rs'6), (Ho true rs'8), (Ho true rs'10), (Hw b11 33 true 3 (Co 6 v'9)), (Hw b78 54 true 6 (Co 9 v'79)), (Ho true rs'80)]))))))))) →
 (Q77 [(aV [(Ci A), (Ci B), (Ci C), (Ci D)]), (aV [(Ci A), (Ci B), (Ci C), (Ci D)]), (oV 6 v'9), (iV E), (uV [(Ao 9 v'74), (Ab (slOk A B C D E x0))]), (uV [(Ao 9 v'74), (Ab (slOk A B C D E x0))]), (oV 9 v'74), (bV (slOk A B C D E x0)), (pV 8 b76 0), (bV (slOk A B C D E x0))] [(Ho false rs0), (Hc b0 23 [(Ci A), (Ci B), (Ci C), (Ci D)]), (Hw b1 27 true 3 (Co 0 v0)), (Hw b4 54 true 6 (Co 5 v'7)), (Ho true rs'6), (Ho true rs'8), (Ho true rs'10), (Hw b11 33 true 3 (Co 6 v'9)), (Hw b76 54 true 6 (Co 9 v'74)), (Ho true rs'75)]))))))))))))) ∧
 (∀ b81 : Nat,
 (True ∧
 (((isArray v'9 x0 rs'10) ∧
 (capAx x0)) ∧
 (∀ v'82 : Value,
 (∀ rs'83 : (List Row),
 ((isTicket v'82 (tkD A B C D E x0) rs'83) →
 (True ∧
 ((b81 = b81 ∧
 (wholeC true v'82 6)) ∧
 (True ∧
 (true = true ∧
 (∀ Q84 : ((List SV) →
 ((List Ch) →
 Prop)),
 ((∀ b85 : Nat,
 (b0 = b0 ∧
 (b11 = b11 ∧
 (((isArray v'9 x0 rs'10) ∧
 (capAx x0)) ∧
 (∀ v'86 : Value,
 (∀ rs'87 : (List Row),
 ((isTicket v'86 (tkD A B C D E x0) rs'87) →
 ((b85 = b85 ∧
 (wholeC true v'86 6)) ∧
 (Q84 [(aV [(Ci A), (Ci B), (Ci C), (Ci D)]), (aV [(Ci A), (Ci B), (Ci C), (Ci D)]), (oV 6 v'9), (iV E), (uV [(Ao 9 v'86), (Ab (slOk A B C D E x0))]), (uV [(Ao 9 v'86), (Ab (slOk A B C D E x0))]), (oV 9 v'86), (bV (slOk A B C D E x0)), (pV 8 b85 0), (bV (slOk A B C D E x0))] [(Ho false rs0), (Hc b0 23 [(Ci A), (Ci B), (Ci C), (Ci D)]), (Hw b1 27 true 3 (Co 0 v0)), (Hw b4 54 true 6 (Co 5 v'7)), (Ho true rs'6), (Ho true rs'8), (Ho true rs'10), (Hw b11 33 true 3 (Co 6 v'9)), (Hw b85 54 true 6 (Co 9 v'86)), (Ho true rs'87)]))))))))) →
 (Q84 [(aV [(Ci A), (Ci B), (Ci C), (Ci D)]), (aV [(Ci A), (Ci B), (Ci C), (Ci D)]), (oV 6 v'9), (iV E), (uV [(Ao 9 v'82), (Ab (slOk A B C D E x0))]), (uV [(Ao 9 v'82), (Ab (slOk A B C D E x0))]), (oV 9 v'82), (bV (slOk A B C D E x0)), (pV 8 b81 0), (bV (slOk A B C D E x0))] [(Ho false rs0), (Hc b0 23 [(Ci A), (Ci B), (Ci C), (Ci D)]), (Hw b1 27 true 3 (Co 0 v0)), (Hw b4 54 true 6 (Co 5 v'7)), (Ho true rs'6), (Ho true rs'8), (Ho true rs'10), (Hw b11 33 true 3 (Co 6 v'9)), (Hw b81 54 true 6 (Co 9 v'82)), (Ho true rs'83)]))))))))))))))) ∧
 (∀ b88 : Nat,
 (True ∧
 (True ∧
 (((isArray v'9 x0 rs'10) ∧
 (capAx x0)) ∧
 (∀ v'89 : Value,
 (∀ rs'90 : (List Row),
 ((isTicket v'89 (tkD A B C D E x0) rs'90) →
 (True ∧
 ((b88 = b88 ∧
 (wholeC true v'89 6)) ∧
 (True ∧
 (true = true ∧
 (∀ Q91 : ((List SV) →
 ((List Ch) →
 Prop)),
 ((∀ b92 : Nat,
 (b0 = b0 ∧
 (b11 = b11 ∧
 (((isArray v'9 x0 rs'10) ∧
 (capAx x0)) ∧
 (∀ v'93 : Value,
 (∀ rs'94 : (List Row),
 ((isTicket v'93 (tkD A B C D E x0) rs'94) →
 ((b92 = b92 ∧
 (wholeC true v'93 6)) ∧
 (Q91 [(aV [(Ci A), (Ci B), (Ci C), (Ci D)]), (aV [(Ci A), (Ci B), (Ci C), (Ci D)]), (oV 6 v'9), (iV E), (uV [(Ao 9 v'93), (Ab (slOk A B C D E x0))]), (uV [(Ao 9 v'93), (Ab (slOk A B C D E x0))]), (oV 9 v'93), (bV (slOk A B C D E x0)), (pV 8 b92 0), (bV (slOk A B C D E x0))] [(Ho false rs0), (Hc b0 23 [(Ci A), (Ci B), (Ci C), (Ci D)]), (Hw b1 27 true 3 (Co 0 v0)), (Hw b4 54 true 6 (Co 5 v'7)), (Ho true rs'6), (Ho true rs'8), (Ho true rs'10), (Hw b11 33 true 3 (Co 6 v'9)), (Hw b92 54 true 6 (Co 9 v'93)), (Ho true rs'94)]))))))))) →
 (Q91 [(aV [(Ci A), (Ci B), (Ci C), (Ci D)]), (aV [(Ci A), (Ci B), (Ci C), (Ci D)]), (oV 6 v'9), (iV E), (uV [(Ao 9 v'89), (Ab (slOk A B C D E x0))]), (uV [(Ao 9 v'89), (Ab (slOk A B C D E x0))]), (oV 9 v'89), (bV (slOk A B C D E x0)), (pV 8 b88 0), (bV (slOk A B C D E x0))] [(Ho false rs0), (Hc b0 23 [(Ci A), (Ci B), (Ci C), (Ci D)]), (Hw b1 27 true 3 (Co 0 v0)), (Hw b4 54 true 6 (Co 5 v'7)), (Ho true rs'6), (Ho true rs'8), (Ho true rs'10), (Hw b11 33 true 3 (Co 6 v'9)), (Hw b88 54 true 6 (Co 9 v'89)), (Ho true rs'90)]))))))))))))))))))))))))))))))))))))) ∧
 (b0 = b0 ∧
 (b1 = b1 ∧
 ((True ∧
 ((((isArray v0 x0 rs0) ∧
 (capAx x0)) ∧
 (∀ v'95 : Value,
 (∀ rs'96 : (List Row),
 ((isArray v'95 x0 rs'96) →
 (True ∧
 ((((isArray v'95 x0 rs'96) ∧
 (capAx x0)) ∧
 (∀ v'97 : Value,
 (∀ rs'98 : (List Row),
 ((isTicket v'97 (tkD A B C D E x0) rs'98) →
 (True ∧
 (∀ b99 : Nat,
 (True ∧
 ((b99 = b99 ∧
 (wholeC true v'97 6)) ∧
 (True ∧
 (true = true ∧
 (∀ Q100 : ((List SV) →
 ((List Ch) →
 Prop)),
 ((∀ b101 : Nat,
 (b0 = b0 ∧
 (b1 = b1 ∧
 (((isArray v0 x0 rs0) ∧
 (capAx x0)) ∧
 (∀ v'102 : Value,
 (∀ rs'103 : (List Row),
 ((isArray v'102 x0 rs'103) →
 (((isArray v'102 x0 rs'103) ∧
 (capAx x0)) ∧
 (∀ v'104 : Value,
 (∀ rs'105 : (List Row),
 ((isTicket v'104 (tkD A B C D E x0) rs'105) →
 ((b101 = b101 ∧
 (wholeC true v'104 6)) ∧
 (Q100 [(aV [(Ci A), (Ci B), (Ci C), (Ci D)]), (aV [(Ci A), (Ci B), (Ci C), (Ci D)]), (oV 0 v0), (oV 4 v'102), (iV E), (uV [(Ao 5 v'104), (Ab (slOk A B C D E x0))]), (uV [(Ao 5 v'104), (Ab (slOk A B C D E x0))]), (oV 5 v'104), (bV (slOk A B C D E x0)), (pV 3 b101 0), (bV (slOk A B C D E x0))] [(Ho false rs0), (Hc b0 23 [(Ci A), (Ci B), (Ci C), (Ci D)]), (Hw b1 27 true 3 (Co 0 v0)), (Hw b101 54 true 6 (Co 5 v'104)), (Ho true rs'103), (Ho true rs'105)]))))))))))))) →
 (Q100 [(aV [(Ci A), (Ci B), (Ci C), (Ci D)]), (aV [(Ci A), (Ci B), (Ci C), (Ci D)]), (oV 0 v0), (oV 4 v'95), (iV E), (uV [(Ao 5 v'97), (Ab (slOk A B C D E x0))]), (uV [(Ao 5 v'97), (Ab (slOk A B C D E x0))]), (oV 5 v'97), (bV (slOk A B C D E x0)), (pV 3 b99 0), (bV (slOk A B C D E x0))] [(Ho false rs0), (Hc b0 23 [(Ci A), (Ci B), (Ci C), (Ci D)]), (Hw b1 27 true 3 (Co 0 v0)), (Hw b99 54 true 6 (Co 5 v'97)), (Ho true rs'96), (Ho true rs'98)]))))))))))))) ∧
 (∀ b106 : Nat,
 (True ∧
 (((isArray v'95 x0 rs'96) ∧
 (capAx x0)) ∧
 (∀ v'107 : Value,
 (∀ rs'108 : (List Row),
 ((isTicket v'107 (tkD A B C D E x0) rs'108) →
 (True ∧
 ((b106 = b106 ∧
 (wholeC true v'107 6)) ∧
 (True ∧
 (true = true ∧
 (∀ Q109 : ((List SV) →
 ((List Ch) →
 Prop)),
 ((∀ b110 : Nat,
 (b0 = b0 ∧
 (b1 = b1 ∧
 (((isArray v0 x0 rs0) ∧
 (capAx x0)) ∧
 (∀ v'111 : Value,
 (∀ rs'112 : (List Row),
 ((isArray v'111 x0 rs'112) →
 (((isArray v'111 x0 rs'112) ∧
 (capAx x0)) ∧
 (∀ v'113 : Value,
 (∀ rs'114 : (List Row),
 ((isTicket v'113 (tkD A B C D E x0) rs'114) →
 ((b110 = b110 ∧
 (wholeC true v'113 6)) ∧
 (Q109 [(aV [(Ci A), (Ci B), (Ci C), (Ci D)]), (aV [(Ci A), (Ci B), (Ci C), (Ci D)]), (oV 0 v0), (oV 4 v'111), (iV E), (uV [(Ao 5 v'113), (Ab (slOk A B C D E x0))]), (uV [(Ao 5 v'113), (Ab (slOk A B C D E x0))]), (oV 5 v'113), (bV (slOk A B C D E x0)), (pV 3 b110 0), (bV (slOk A B C D E x0))] [(Ho false rs0), (Hc b0 23 [(Ci A), (Ci B), (Ci C), (Ci D)]), (Hw b1 27 true 3 (Co 0 v0)), (Hw b110 54 true 6 (Co 5 v'113)), (Ho true rs'112), (Ho true rs'114)]))))))))))))) →
 (Q109 [(aV [(Ci A), (Ci B), (Ci C), (Ci D)]), (aV [(Ci A), (Ci B), (Ci C), (Ci D)]), (oV 0 v0), (oV 4 v'95), (iV E), (uV [(Ao 5 v'107), (Ab (slOk A B C D E x0))]), (uV [(Ao 5 v'107), (Ab (slOk A B C D E x0))]), (oV 5 v'107), (bV (slOk A B C D E x0)), (pV 3 b106 0), (bV (slOk A B C D E x0))] [(Ho false rs0), (Hc b0 23 [(Ci A), (Ci B), (Ci C), (Ci D)]), (Hw b1 27 true 3 (Co 0 v0)), (Hw b106 54 true 6 (Co 5 v'107)), (Ho true rs'96), (Ho true rs'108)]))))))))))))))))))) ∧
 (∀ b115 : Nat,
 (True ∧
 (((isArray v0 x0 rs0) ∧
 (capAx x0)) ∧
 (∀ v'116 : Value,
 (∀ rs'117 : (List Row),
 ((isArray v'116 x0 rs'117) →
 (True ∧
 (((isArray v'116 x0 rs'117) ∧
 (capAx x0)) ∧
 (∀ v'118 : Value,
 (∀ rs'119 : (List Row),
 ((isTicket v'118 (tkD A B C D E x0) rs'119) →
 (True ∧
 ((b115 = b115 ∧
 (wholeC true v'118 6)) ∧
 (True ∧
 (true = true ∧
 (∀ Q120 : ((List SV) →
 ((List Ch) →
 Prop)),
 ((∀ b121 : Nat,
 (b0 = b0 ∧
 (b1 = b1 ∧
 (((isArray v0 x0 rs0) ∧
 (capAx x0)) ∧
 (∀ v'122 : Value,
 (∀ rs'123 : (List Row),
 ((isArray v'122 x0 rs'123) →
 (((isArray v'122 x0 rs'123) ∧
 (capAx x0)) ∧
 (∀ v'124 : Value,
 (∀ rs'125 : (List Row),
 ((isTicket v'124 (tkD A B C D E x0) rs'125) →
 ((b121 = b121 ∧
 (wholeC true v'124 6)) ∧
 (Q120 [(aV [(Ci A), (Ci B), (Ci C), (Ci D)]), (aV [(Ci A), (Ci B), (Ci C), (Ci D)]), (oV 0 v0), (oV 4 v'122), (iV E), (uV [(Ao 5 v'124), (Ab (slOk A B C D E x0))]), (uV [(Ao 5 v'124), (Ab (slOk A B C D E x0))]), (oV 5 v'124), (bV (slOk A B C D E x0)), (pV 3 b121 0), (bV (slOk A B C D E x0))] [(Ho false rs0), (Hc b0 23 [(Ci A), (Ci B), (Ci C), (Ci D)]), (Hw b1 27 true 3 (Co 0 v0)), (Hw b121 54 true 6 (Co 5 v'124)), (Ho true rs'123), (Ho true rs'125)]))))))))))))) →
 (Q120 [(aV [(Ci A), (Ci B), (Ci C), (Ci D)]), (aV [(Ci A), (Ci B), (Ci C), (Ci D)]), (oV 0 v0), (oV 4 v'116), (iV E), (uV [(Ao 5 v'118), (Ab (slOk A B C D E x0))]), (uV [(Ao 5 v'118), (Ab (slOk A B C D E x0))]), (oV 5 v'118), (bV (slOk A B C D E x0)), (pV 3 b115 0), (bV (slOk A B C D E x0))] [(Ho false rs0), (Hc b0 23 [(Ci A), (Ci B), (Ci C), (Ci D)]), (Hw b1 27 true 3 (Co 0 v0)), (Hw b115 54 true 6 (Co 5 v'118)), (Ho true rs'117), (Ho true rs'119)])))))))))))))))))))) ∧
 (∀ b126 : Nat,
 (True ∧
 (True ∧
 (((isArray v0 x0 rs0) ∧
 (capAx x0)) ∧
 (∀ v'127 : Value,
 (∀ rs'128 : (List Row),
 ((isArray v'127 x0 rs'128) →
 (True ∧
 (((isArray v'127 x0 rs'128) ∧
 (capAx x0)) ∧
 (∀ v'129 : Value,
 (∀ rs'130 : (List Row),
 ((isTicket v'129 (tkD A B C D E x0) rs'130) →
 (True ∧
 ((b126 = b126 ∧
 (wholeC true v'129 6)) ∧
 (True ∧
 (true = true ∧
 (∀ Q131 : ((List SV) →
 ((List Ch) →
 Prop)),
 ((∀ b132 : Nat,
 (b0 = b0 ∧
 (b1 = b1 ∧
 (((isArray v0 x0 rs0) ∧
 (capAx x0)) ∧
 (∀ v'133 : Value,
 (∀ rs'134 : (List Row),
 ((isArray v'133 x0 rs'134) →
 (((isArray v'133 x0 rs'134) ∧
 (capAx x0)) ∧
 (∀ v'135 : Value,
 (∀ rs'136 : (List Row),
 ((isTicket v'135 (tkD A B C D E x0) rs'136) →
 ((b132 = b132 ∧
 (wholeC true v'135 6)) ∧
 (Q131 [(aV [(Ci A), (Ci B), (Ci C), (Ci D)]), (aV [(Ci A), (Ci B), (Ci C), (Ci D)]), (oV 0 v0), (oV 4 v'133), (iV E), (uV [(Ao 5 v'135), (Ab (slOk A B C D E x0))]), (uV [(Ao 5 v'135), (Ab (slOk A B C D E x0))]), (oV 5 v'135), (bV (slOk A B C D E x0)), (pV 3 b132 0), (bV (slOk A B C D E x0))] [(Ho false rs0), (Hc b0 23 [(Ci A), (Ci B), (Ci C), (Ci D)]), (Hw b1 27 true 3 (Co 0 v0)), (Hw b132 54 true 6 (Co 5 v'135)), (Ho true rs'134), (Ho true rs'136)]))))))))))))) →
 (Q131 [(aV [(Ci A), (Ci B), (Ci C), (Ci D)]), (aV [(Ci A), (Ci B), (Ci C), (Ci D)]), (oV 0 v0), (oV 4 v'127), (iV E), (uV [(Ao 5 v'129), (Ab (slOk A B C D E x0))]), (uV [(Ao 5 v'129), (Ab (slOk A B C D E x0))]), (oV 5 v'129), (bV (slOk A B C D E x0)), (pV 3 b126 0), (bV (slOk A B C D E x0))] [(Ho false rs0), (Hc b0 23 [(Ci A), (Ci B), (Ci C), (Ci D)]), (Hw b1 27 true 3 (Co 0 v0)), (Hw b126 54 true 6 (Co 5 v'129)), (Ho true rs'128), (Ho true rs'130)])))))))))))))))))))))))))))))))))))) := by kernel_rfl
theorem law_FnExactScrubBegin_any (A : Int) (B : Int) (C : Int) (D : Int) (v0 : Value) (rs0 : List Row) (E : Int) (W : World) (bA : -9223372036854775808 ≤ A ∧ A ≤ 9223372036854775807) (bB : -9223372036854775808 ≤ B ∧ B ≤ 9223372036854775807) (bC : -9223372036854775808 ≤ C ∧ C ≤ 9223372036854775807) (bD : -9223372036854775808 ≤ D ∧ D ≤ 9223372036854775807) (x0 : AD) (hx0 : isArray v0 x0 rs0) (hw0 : ∀ r ∈ rs0, r.own = false ∧ r.sat W) (hn0 : lensAx x0) (bE : -9223372036854775808 ≤ E ∧ E ≤ 9223372036854775807) : Calls Try.prog 7 #[.agg #[.int .i64 A, .int .i64 B, .int .i64 C, .int .i64 D], v0, .int .i64 E] W fun e W' => e = .returned (.bool true) ∧ Below W.heap.size W W' := by
  refine fn_ok mixed (E := {tb := [(13, sToArrX x0), (16, sEqArrayO), (18, sMarkArrayO), (19, sHeldArrayO), (10, sSzArrayO), (24, sEqTicketO), (25, sMarkTicketO), (38, sHeldTicketO), (12, stoGeometry), (35, sSbX x0), (37, sSbX x0)], O := [(5, [9, 0, 1, 2, 3, 4, 5, 6, 7, 8, 10, 11]), (7, [8, 0, 1, 2, 3, 4, 5, 6, 7, 9, 10]), (24, [9, 0, 1, 2, 3, 4, 5, 6, 7, 8, 10, 11])]}) ⟨sToArrX_ok x0, sEqArrayO_ok, sMarkArrayO_ok, sHeldArrayO_ok, sSzArrayO_ok, sEqTicketO_ok, sMarkTicketO_ok, sHeldTicketO_ok, stoGeometry_okk, sSbX_I x0, sSbX_S x0, trivial⟩ Try.func7 (fun _ _ => loopsOK_nil _ _ _) (@Eq.mpr _ _ (law_FnExactScrubBegin_T A B C D v0 rs0 E x0) ?_) (HS.seenAll (fun _ => False) [.obj false rs0] (seenC_obj hw0 seenC_nil)) (fun v ch' w' hk hs => ⟨by rw [hk], hs.below⟩)
  clear hw0
  repeat' (show _; first
    | with_reducible exact rfl
    | with_reducible assumption
    | (intro (Q : List SV → List Ch → Prop) h; repeat (show Q _ _; first | with_reducible exact h | (replace h := h.2) | (refine (fun h => ?_) (h ?_))))
    | with_reducible exact cap_tk (by assumption)
    | with_reducible exact capOf1Ax (by assumption)
    | with_reducible exact wholeArray (by assumption)
    | with_reducible exact wholeTicket (by assumption)
    | with_reducible exact capOf1Array (by assumption)
    | with_reducible exact capOf1Ticket (by assumption)
    | refine And.intro ?_ ?_
    | apply Exists.intro
    | (refine fun (h : @Eq Bool _ _) => ?_; exfalso; revert h; simp; done)
    | (refine fun (h : @Eq Bool _ _) => ?_; exfalso; simp at h; omega)
    | (refine fun (h : @Eq Bool _ _) => ?_; exfalso; replace h := of_decide_eq_true h; simp only [mk] at h; omega)
    | intro _
    | exact True.intro
    | exact rfl
    | omega
    | (simp only [mk]; omega))
theorem walk_FnExactScrubBegin (cs0 : Array Value) (cs1 : Array Value) (aN : Int) (W : World) (h0 : Has W (.cons .int (.cons .int (.cons .int (.cons .int .nil)))) cs0.toList) (h1 : Has W (.cons (.slice (.cons (.slice .int) (.cons .bool .nil))) (.cons (.slice .int) (.cons (.slice .int) .nil))) cs1.toList) (baN : -9223372036854775808 ≤ aN ∧ aN ≤ 9223372036854775807) : Calls Try.prog 7 #[.agg cs0, .agg cs1, .int .i64 aN] W fun e W' => e = .returned (.bool true) ∧ Below W.heap.size W W' := by
  obtain ⟨l0, hl0⟩ : ∃ l, cs0.toList = l := ⟨_, rfl⟩
  rw [hl0] at h0
  obtain ⟨aGGroups, _, rfl, baGGroups, h0_f0⟩ := has_int h0
  obtain ⟨aGBanks, _, rfl, baGBanks, h0_f1⟩ := has_int h0_f0
  obtain ⟨aGRows, _, rfl, baGRows, h0_f2⟩ := has_int h0_f1
  obtain ⟨aGCols, _, rfl, baGCols, h0_f3⟩ := has_int h0_f2
  obtain rfl := has_nil h0_f3
  rw [arr_of hl0]
  obtain ⟨l1, hl1⟩ : ∃ l, cs1.toList = l := ⟨_, rfl⟩
  rw [hl1] at h1
  obtain ⟨xaA, vaA, rsaA, evaA, hxaA, hwaA, hnaA⟩ := has_array h1
  rw [arr_of hl1, ← evaA]
  exact law_FnExactScrubBegin_any aGGroups aGBanks aGRows aGCols vaA rsaA aN W baGGroups baGBanks baGRows baGCols xaA hxaA hwaA hnaA baN
end Go.Proofs.Ytddeinpnadfgmaa

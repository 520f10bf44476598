/-
  FnExactScrubCommit.
-/
import Derived.Test.YtddeinpnadfgmaaSxS2
import Derived.Test.YtddeinpnadfgmaaSxS3
namespace Go.Proofs.Ytddeinpnadfgmaa
set_option linter.unusedVariables false
set_option linter.unusedSimpArgs false
open Go.RowKit
set_option maxRecDepth 100000
set_option maxHeartbeats 8000000

abbrev ArrayD := AD
theorem capOf1Array {x : AD} (h : cap1Ax x) : capAx x := capOf1Ax h
theorem capA_of {x : AD} (h : capAx x) : capA x := by
  have h1 : totN x.c.sn x.c.n ≤ 2097152 := h.1
  exact ⟨by have := totN_n (sn := x.c.sn) x.c.n; omega, h.2.1, h.2.2, fun i hi => by have := totN_sn (sn := x.c.sn) hi; omega⟩
theorem totN_set {sn : Nat → Nat} {k m : Nat} : ∀ n : Nat, totN (fun i => if i = k then m else sn i) n ≤ totN sn n + m ∧ (n ≤ k → totN (fun i => if i = k then m else sn i) n = totN sn n) := fun n => by
  induction n with
  | zero => exact ⟨Nat.zero_le _, fun _ => rfl⟩
  | succ n ih =>
    simp only [totN]
    by_cases e : n = k
    · have := ih.2 (by omega)
      simp only [if_pos e]
      exact ⟨by omega, fun h => by omega⟩
    · simp only [if_neg e]
      exact ⟨by omega, fun h => by have := ih.2 (by omega); omega⟩
theorem cap_set {x : AD} {k m : Nat} {f : Nat → Int} {b : Bool} (h : cap1Ax x) (hm : m ≤ 1048576) : capAx (setA x k m f b) := by
  have h1 := (totN_set (sn := x.c.sn) (k := k) (m := m) x.c.n).1
  exact ⟨by show totN _ x.c.n ≤ _; have := h.1; simp only [setA]; omega, by have := h.2.1; show x.aN ≤ _; omega, by have := h.2.2; show x.hN ≤ _; omega⟩
theorem cap_sn {x : AD} (h : cap1Ax x) {i : Nat} (hi : i < x.c.n) : x.c.sn i ≤ 1048576 := by
  have := totN_sn (sn := x.c.sn) hi
  have := h.1
  omega
def sToArrX (x0 : AD) : Sm := fun args ch k =>
  match args with
  | [.a (.c (.obj i v))] =>
    match ch[i]? with
    | some (.obj _ rs) => (isArray v x0 rs ∧ capAx x0) ∧ ∀ (v' : Value) (rs' : List Row), isArray v' x0 rs' → k (.a (.c (.obj ch.length v'))) (ch ++ [.obj true rs']) []
    | _ => False
  | _ => False
theorem sToArrX_ok (x0 : AD) : SmOK Try.prog 13 (sToArrX x0) := by
  refine ⟨sToArrayO_ok_laws_toArray.1, fun X args ch k w h0 hs => sToArrayO_ok_laws_toArray.2 X args ch k w ?_ hs⟩
  unfold sToArrX at h0
  unfold sToArrayO
  split at h0
  · split at h0
    · rename_i hi
      simp only [hi]
      exact ⟨x0, h0⟩
    · exact h0.elim
  · exact h0.elim
theorem cap_sc {gG gB gR gC : Int} {x : AD} {t : TicketD} (h : cap1Ax x) (h2 : cap1Ticket t) : capAx (scA gG gB gR gC x t.Index t.BeforeSymbolsN t.BeforeSymbolsg0 t.BeforePoison t.AfterSymbolsN t.AfterSymbolsg0 t.AfterPoison) := by
  unfold scA
  split
  · exact cap_set h h2.2
  · exact capOf1Ax h
def sToTicX (t0 : TicketD) : Sm := fun args ch k =>
  match args with
  | [.a (.c (.obj i v))] =>
    match ch[i]? with
    | some (.obj _ rs) => (isTicket v t0 rs ∧ capTicket t0) ∧ ∀ (v' : Value) (rs' : List Row), isTicket v' t0 rs' → k (.a (.c (.obj ch.length v'))) (ch ++ [.obj true rs']) []
    | _ => False
  | _ => False
theorem sToTicX_ok (t0 : TicketD) : SmOK Try.prog 22 (sToTicX t0) := by
  refine ⟨sToTicketO_ok_laws_toTicket.1, fun X args ch k w h0 hs => sToTicketO_ok_laws_toTicket.2 X args ch k w ?_ hs⟩
  unfold sToTicX at h0
  unfold sToTicketO
  split at h0
  · split at h0
    · rename_i hi
      simp only [hi]
      exact ⟨t0, h0⟩
    · exact h0.elim
  · exact h0.elim
def sScX (x : AD) (t : TicketD) : Sm := fun args ch k =>
  match args with
  | [.a (.agg [c0, c1, c2, c3]), .a (.c (.obj i v)), .a (.c (.obj j u))] =>
    match ch[i]?, ch[j]?, ints [c0, c1, c2, c3] with
    | some (.obj _ rs), some (.obj _ us), some [gG, gB, gR, gC] => (isArray v x rs ∧ isTicket u t us ∧ capAx x ∧ capTicket t) ∧ ∀ (v' : Value) (rs' : List Row), isArray v' (scA gG gB gR gC x t.Index t.BeforeSymbolsN t.BeforeSymbolsg0 t.BeforePoison t.AfterSymbolsN t.AfterSymbolsg0 t.AfterPoison) rs' → k (.tup [.c (.obj ch.length v'), .c (.bool (scOk gG gB gR gC x t.Index t.BeforeSymbolsN t.BeforeSymbolsg0 t.BeforePoison t.AfterSymbolsN t.AfterSymbolsg0))]) (ch ++ [.obj true rs']) []
    | _, _, _ => False
  | _ => False
theorem sScX_I (x : AD) (t : TicketD) : SmOK Try.prog 23 (sScX x t) := by
  refine smArr Try.call23 fun args ch k w X h0 hs => ?_
  unfold sScX at h0
  split at h0
  · rename_i c0 c1 c2 c3 i v j u
    split at h0
    · rename_i o rs o2 us gG gB gR gC hid hjd hi
      obtain ⟨q0, hi⟩ := ints_cons hi
      obtain ⟨q1, hi⟩ := ints_cons hi
      obtain ⟨q2, hi⟩ := ints_cons hi
      obtain ⟨q3, hi⟩ := ints_cons hi
      obtain ⟨⟨hx, ⟨bo, ko, bc, bT, bK, kc, kT, kK, bB, kB, rfl, rfl⟩, hc, hct⟩, h1⟩ := h0
      obtain ⟨O, A, H, C, D, E, so, sc, rfl, hA⟩ := isA_seen hx (hs.seeObj hid)
      have h2 := hs.seeObj hjd
      have e8 : SA.den (.agg [c0, c1, c2, c3]) = .agg #[.int .i64 gG, .int .i64 gB, .int .i64 gR, .int .i64 gC] := by simp only [SA.den, List.map_cons, List.map_nil, q0, q1, q2, q3]
      refine ⟨scA gG gB gR gC x t.Index t.BeforeSymbolsN t.BeforeSymbolsg0 t.BeforePoison t.AfterSymbolsN t.AfterSymbolsg0 t.AfterPoison, fun s => .tup [s, .c (.bool (scOk gG gB gR gC x t.Index t.BeforeSymbolsN t.BeforeSymbolsg0 t.BeforePoison t.AfterSymbolsN t.AfterSymbolsg0))], fun id v' rs' hv => ?_, ?_⟩
      · by_cases e : id = ch.length
        · subst e; exact .inl (h1 v' rs' hv)
        · exact .inr e
      · simp only [List.map_cons, List.map_nil, den_a, e8]
        exact Calls.mono (scI_any x O A H C D E so sc gG gB gR gC t.Index bo ko t.BeforeSymbolsN bc t.AfterSymbolsN kc t.BeforeSymbolsg0 t.AfterSymbolsg0 t.BeforePoison t.AfterPoison t.Code w hA (Row.seenAs (h2 _ (mem0)).2 rfl rfl) (Row.seenAs (h2 _ (memS mem0)).2 rfl rfl) (capA_of hc) hct.2) fun e w' ⟨O', A', H', C', D', E', so', sc', he, hn⟩ => ⟨O', A', H', C', D', E', so', sc', fun _ => by rw [he]; rfl, hn⟩
    · exact h0.elim
  · exact h0.elim
theorem sScX_S (x : AD) (t : TicketD) : SmOK Try.prog 21 (sScX x t) := by
  refine smArr Try.call21 fun args ch k w X h0 hs => ?_
  unfold sScX at h0
  split at h0
  · rename_i c0 c1 c2 c3 i v j u
    split at h0
    · rename_i o rs o2 us gG gB gR gC hid hjd hi
      obtain ⟨q0, hi⟩ := ints_cons hi
      obtain ⟨q1, hi⟩ := ints_cons hi
      obtain ⟨q2, hi⟩ := ints_cons hi
      obtain ⟨q3, hi⟩ := ints_cons hi
      obtain ⟨⟨hx, ⟨bo, ko, bc, bT, bK, kc, kT, kK, bB, kB, rfl, rfl⟩, hc, hct⟩, h1⟩ := h0
      obtain ⟨O, A, H, C, D, E, so, sc, rfl, hA⟩ := isA_seen hx (hs.seeObj hid)
      have h2 := hs.seeObj hjd
      have e8 : SA.den (.agg [c0, c1, c2, c3]) = .agg #[.int .i64 gG, .int .i64 gB, .int .i64 gR, .int .i64 gC] := by simp only [SA.den, List.map_cons, List.map_nil, q0, q1, q2, q3]
      refine ⟨scA gG gB gR gC x t.Index t.BeforeSymbolsN t.BeforeSymbolsg0 t.BeforePoison t.AfterSymbolsN t.AfterSymbolsg0 t.AfterPoison, fun s => .tup [s, .c (.bool (scOk gG gB gR gC x t.Index t.BeforeSymbolsN t.BeforeSymbolsg0 t.BeforePoison t.AfterSymbolsN t.AfterSymbolsg0))], fun id v' rs' hv => ?_, ?_⟩
      · by_cases e : id = ch.length
        · subst e; exact .inl (h1 v' rs' hv)
        · exact .inr e
      · simp only [List.map_cons, List.map_nil, den_a, e8]
        exact Calls.mono (scS_any x O A H C D E so sc gG gB gR gC t.Index bo ko t.BeforeSymbolsN bc t.AfterSymbolsN kc t.BeforeSymbolsg0 t.AfterSymbolsg0 t.BeforePoison t.AfterPoison t.Code w hA (Row.seenAs (h2 _ (mem0)).2 rfl rfl) (Row.seenAs (h2 _ (memS mem0)).2 rfl rfl) (capA_of hc) hct.2) fun e w' ⟨O', A', H', C', D', E', so', sc', he, hn⟩ => ⟨O', A', H', C', D', E', so', sc', fun _ => by rw [he]; rfl, hn⟩
    · exact h0.elim
  · exact h0.elim
theorem ctoGeometry_T (gGroups gBanks gRows gCols : Int) : (exFn Try.prog {tb := []} 400 Try.f12 ([.a (.agg [.int gGroups, .int gBanks, .int gRows, .int gCols])]) ([]) (fun v _ => v.den = .agg #[.int .i64 (gGroups), .int .i64 (gBanks), .int .i64 (gRows), .int .i64 (gCols)])) = (
  (∀ b0 : Nat,
 (∀ b1 : Nat,
 (∀ b2 : Nat,
 (b0 = b0 ∧
 (b2 = b2 ∧
 (b0 = b0 ∧
 (b2 = b2 ∧
 (b0 = b0 ∧
 (b2 = b2 ∧
 (b0 = b0 ∧
 (b2 = b2 ∧
 (b2 = b2 ∧
 (b1 = b1 ∧
 (b1 = b1 ∧
 (Value.agg (List.toArray [(Value.int IntKind.i64 gGroups), (Value.int IntKind.i64 gBanks), (Value.int IntKind.i64 gRows), (Value.int IntKind.i64 gCols)])) = (Value.agg (List.toArray [(Value.int IntKind.i64 gGroups), (Value.int IntKind.i64 gBanks), (Value.int IntKind.i64 gRows), (Value.int IntKind.i64 gCols)]))))))))))))))))) := by kernel_rfl
theorem ctoGeometry_any (gGroups gBanks gRows gCols : Int) (w : World) : Calls Try.prog 12 #[.agg #[.int .i64 gGroups, .int .i64 gBanks, .int .i64 gRows, .int .i64 gCols]] w fun e w' => e = .returned (.agg #[.int .i64 (gGroups), .int .i64 (gBanks), .int .i64 (gRows), .int .i64 (gCols)]) ∧ Below w.heap.size w w' := by
  refine fnB (tb := []) trivial Try.func12 (@Eq.mpr _ _ (ctoGeometry_T gGroups gBanks gRows gCols) ?_) (HS.start w (fun _ => False)) (fun v ch' w' hk hs => ⟨by rw [hk], hs.below⟩)
  repeat' (first | exact rfl | exact True.intro | refine And.intro ?_ ?_ | intro _)
  all_goals (try (simp_all; done))
  all_goals (try (simp_all; omega))
def stoGeometry : Sm := fun args ch k =>
  match args with
  | [.a (.agg [c0, c1, c2, c3])] =>
    match ints [c0, c1, c2, c3], bools [] with
    | some [gGroups, gBanks, gRows, gCols], some [] => k (.a (.agg [.int (gGroups), .int (gBanks), .int (gRows), .int (gCols)])) ch []
    | _, _ => False
  | _ => False
theorem stoGeometry_ok {f : FuncId} (hc : ∀ args w, (callFunc f args).run Try.prog w = .ok (.enter f args) w) (h : ∀ (gGroups gBanks gRows gCols : Int) (w : World), Calls Try.prog f #[.agg #[.int .i64 gGroups, .int .i64 gBanks, .int .i64 gRows, .int .i64 gCols]] w fun e w' => e = .returned (.agg #[.int .i64 (gGroups), .int .i64 (gBanks), .int .i64 (gRows), .int .i64 (gCols)]) ∧ Below w.heap.size w w') : SmOK Try.prog f stoGeometry := by
  refine smB hc fun args ch k w X h0 hs => ?_
  unfold stoGeometry at h0
  split at h0
  · split at h0
    · rename_i gGroups gBanks gRows gCols hi hb
      obtain ⟨e0, hi1⟩ := ints_cons hi
      obtain ⟨e1, hi2⟩ := ints_cons hi1
      obtain ⟨e2, hi3⟩ := ints_cons hi2
      obtain ⟨e3, hi4⟩ := ints_cons hi3
      refine ⟨_, h0, ?_⟩
      simp only [List.map_cons, List.map_nil, den_a, den_c, SA.den, e0, e1, e2, e3]
      exact h gGroups gBanks gRows gCols w
    · exact h0.elim
  · exact h0.elim
theorem stoGeometry_okk : SmOK Try.prog 12 stoGeometry := stoGeometry_ok Try.call12 ctoGeometry_any
theorem law_FnExactScrubCommit_T (aGGroups : Int) (aGBanks : Int) (aGRows : Int) (aGCols : Int) (v0 : Value) (rs0 : List Row) (v1 : Value) (rs1 : List Row) (x0 : AD) (x1 : TicketD) : (exFn Try.prog {tb := [(13, sToArrX x0), (22, sToTicX x1), (16, sEqArrayO), (18, sMarkArrayO), (19, sHeldArrayO), (10, sSzArrayO), (24, sEqTicketO), (25, sMarkTicketO), (38, sHeldTicketO), (20, sSzTicketO), (12, stoGeometry), (23, sScX x0 x1), (21, sScX x0 x1)], O := [(8, [10, 0, 1, 2, 3, 4, 5, 6, 7, 8, 9, 11, 12]), (11, [8, 0, 1, 2, 3, 4, 5, 6, 7, 9, 10]), (31, [10, 0, 1, 2, 3, 4, 5, 6, 7, 8, 9, 11, 12])]} 400 Try.f4 ([.a (.agg [.int aGGroups, .int aGBanks, .int aGRows, .int aGCols]), .a (.c (.obj 0 v0)), .a (.c (.obj 1 v1))]) ([.obj false rs0, .obj false rs1]) (fun v _ => v.den = .bool true)) = (
  (∀ b0 : Nat,
 ((wholeC Bool.true v0 3) ∧
 (∀ b1 : Nat,
 ((wholeC Bool.true v1 6) ∧
 (∀ b2 : Nat,
 (b1 = b1 ∧
 (Exists (fun (x3 : AD) => (((isArray v0 x3 rs0) ∧
 ((lensAx x3) ∧
 (szK1 (1048576 : Int)))) ∧
 ((Value.bool Bool.true) = (Value.bool Bool.true) ∧
 (∀ z4 : Int,
 ((szO z4 (1048576 : Int)) →
 ((cap1Ax x3) →
 (((decide (z4 < (0 : Int))) = Bool.true →
 (Value.bool Bool.true) = (Value.bool Bool.true)) ∧
 ((decide (z4 < (0 : Int))) = Bool.false →
 (b2 = b2 ∧
 (Exists (fun (x5 : TicketD) => (((isTicket v1 x5 rs1) ∧
 ((lensTicket x5) ∧
 (szK z4))) ∧
 ((Value.bool Bool.true) = (Value.bool Bool.true) ∧
 (∀ z6 : Int,
 ((szO z6 z4) →
 ((cap1Ticket x5) →
 (((decide (z6 < (0 : Int))) = Bool.true →
 (Value.bool Bool.true) = (Value.bool Bool.true)) ∧
 ((decide (z6 < (0 : Int))) = Bool.false →
 ((∀ b7 : Nat,
 (b0 = b0 ∧
 (b1 = b1 ∧
 (((isArray v0 x0 rs0) ∧
 (capAx x0)) ∧
 (∀ v'8 : Value,
 (∀ rs'9 : (List Row),
 ((isArray v'8 x0 rs'9) →
 (b2 = b2 ∧
 (((isTicket v1 x1 rs1) ∧
 (capTicket x1)) ∧
 (∀ v'10 : Value,
 (∀ rs'11 : (List Row),
 ((isTicket v'10 x1 rs'11) →
 (((isArray v'8 x0 rs'9) ∧
 ((isTicket v'10 x1 rs'11) ∧
 ((capAx x0) ∧
 (capTicket x1)))) ∧
 (∀ v'12 : Value,
 (∀ rs'13 : (List Row),
 ((isArray v'12 (scA aGGroups aGBanks aGRows aGCols x0 (x1).1 (x1).2 (x1).3 (x1).4 (x1).5 (x1).6 (x1).7) rs'13) →
 ((b7 = b7 ∧
 (wholeC Bool.true v'12 3)) ∧
 (b1 = b1 ∧
 (((isArray v0 x0 rs0) ∧
 (capAx x0)) ∧
 (∀ v'14 : Value,
 (∀ rs'15 : (List Row),
 ((isArray v'14 x0 rs'15) →
 (∀ b16 : Nat,
 ((b16 = b16 ∧
 (wholeC Bool.true v'14 3)) ∧
 (b2 = b2 ∧
 (((isTicket v1 x1 rs1) ∧
 (capTicket x1)) ∧
 (∀ v'17 : Value,
 (∀ rs'18 : (List Row),
 ((isTicket v'17 x1 rs'18) →
 (∀ b19 : Nat,
 ((b19 = b19 ∧
 (wholeC Bool.true v'17 6)) ∧
 ((∀ b20 : Nat,
 (b0 = b0 ∧
 (b16 = b16 ∧
 (b19 = b19 ∧
 (((isArray v'14 x0 rs'15) ∧
 ((isTicket v'17 x1 rs'18) ∧
 ((capAx x0) ∧
 (capTicket x1)))) ∧
 (∀ v'21 : Value,
 (∀ rs'22 : (List Row),
 ((isArray v'21 (scA aGGroups aGBanks aGRows aGCols x0 (x1).1 (x1).2 (x1).3 (x1).4 (x1).5 (x1).6 (x1).7) rs'22) →
 ((b20 = b20 ∧
 (wholeC Bool.true v'21 3)) ∧
 (b20 = b20 ∧
 (b7 = b7 ∧
 (Exists (fun (x23 : AD) => (((isArray v'21 x23 rs'22) ∧
 ((isArray v'12 x23 rs'13) ∧
 (capAx x23))) ∧
 ((((scOk aGGroups aGBanks aGRows aGCols x0 (x1).1 (x1).2 (x1).3 (x1).4 (x1).5 (x1).6) != (scOk aGGroups aGBanks aGRows aGCols x0 (x1).1 (x1).2 (x1).3 (x1).4 (x1).5 (x1).6)) = Bool.true →
 (Value.bool Bool.false) = (Value.bool Bool.true)) ∧
 (((scOk aGGroups aGBanks aGRows aGCols x0 (x1).1 (x1).2 (x1).3 (x1).4 (x1).5 (x1).6) != (scOk aGGroups aGBanks aGRows aGCols x0 (x1).1 (x1).2 (x1).3 (x1).4 (x1).5 (x1).6)) = Bool.false →
 (b16 = b16 ∧
 (b1 = b1 ∧
 (((isArray v0 x0 rs0) ∧
 (capAx x0)) ∧
 (∀ v'24 : Value,
 (∀ rs'25 : (List Row),
 ((isArray v'24 x0 rs'25) →
 (True ∧
 (Exists (fun (x26 : AD) => (((isArray v'14 x26 rs'15) ∧
 ((isArray v'24 x26 rs'25) ∧
 (capAx x26))) ∧
 (True ∧
 (b19 = b19 ∧
 (b2 = b2 ∧
 (((isTicket v1 x1 rs1) ∧
 (capTicket x1)) ∧
 (∀ v'27 : Value,
 (∀ rs'28 : (List Row),
 ((isTicket v'27 x1 rs'28) →
 (True ∧
 (Exists (fun (x29 : TicketD) => (((isTicket v'17 x29 rs'18) ∧
 ((isTicket v'27 x29 rs'28) ∧
 (capTicket x29))) ∧
 (True ∧
 (b16 = b16 ∧
 (Exists (fun (x30 : AD) => (((isArray v'14 x30 rs'15) ∧
 ((capAx x30) ∧
 (mrkC (1 : Int)))) ∧
 ((endC (1 : Int) (endArray (1 : Int) x30) (50331648 : Int)) →
 (∀ rs'31 : (List Row),
 ((isArray v'14 (markArrayD (1 : Int) x30) rs'31) →
 (b19 = b19 ∧
 (Exists (fun (x32 : TicketD) => (((isTicket v'17 x32 rs'18) ∧
 ((capTicket x32) ∧
 (mrkC (endArray (1 : Int) x30)))) ∧
 ((endC (endArray (1 : Int) x30) (endTicket (endArray (1 : Int) x30) x32) (33554432 : Int)) →
 (∀ rs'33 : (List Row),
 ((isTicket v'17 (markTicketD (endArray (1 : Int) x30) x32) rs'33) →
 (((decide ((endTicket (endArray (1 : Int) x30) x32) < (0 : Int))) = Bool.false →
 (b20 = b20 ∧
 (b7 = b7 ∧
 (Exists (fun (x34 : AD) => (((isArray v'21 x34 rs'22) ∧
 ((isArray v'12 x34 rs'13) ∧
 (capAx x34))) ∧
 ((((scOk aGGroups aGBanks aGRows aGCols x0 (x1).1 (x1).2 (x1).3 (x1).4 (x1).5 (x1).6) != (scOk aGGroups aGBanks aGRows aGCols x0 (x1).1 (x1).2 (x1).3 (x1).4 (x1).5 (x1).6)) = Bool.true →
 (Value.bool Bool.false) = (Value.bool Bool.true)) ∧
 (((scOk aGGroups aGBanks aGRows aGCols x0 (x1).1 (x1).2 (x1).3 (x1).4 (x1).5 (x1).6) != (scOk aGGroups aGBanks aGRows aGCols x0 (x1).1 (x1).2 (x1).3 (x1).4 (x1).5 (x1).6)) = Bool.false →
 (b20 = b20 ∧
 (Exists (fun (x35 : AD) => (((isArray v'21 x35 rs'22) ∧
 ((capAx x35) ∧
 (mrkC (1 : Int)))) ∧
 ((endC (1 : Int) (endArray (1 : Int) x35) (50331648 : Int)) →
 (∀ rs'36 : (List Row),
 ((isArray v'21 (markArrayD (1 : Int) x35) rs'36) →
 (b20 = b20 ∧
 (Exists (fun (x37 : AD) => (((isArray v'21 (markArrayD (1 : Int) x37) rs'36) ∧
 ((capAx x37) ∧
 (mrkC (1 : Int)))) ∧
 (((decide ((endArray (1 : Int) x37) < (0 : Int))) = Bool.true →
 (Value.bool Bool.false) = (Value.bool Bool.true)) ∧
 ((decide ((endArray (1 : Int) x37) < (0 : Int))) = Bool.false →
 ((((endArray (1 : Int) x37) != (endArray (1 : Int) x35)) = Bool.true →
 (Value.bool Bool.false) = (Value.bool Bool.true)) ∧
 (((endArray (1 : Int) x37) != (endArray (1 : Int) x35)) = Bool.false →
 ((∀ b38 : Nat,
 (b0 = b0 ∧
 (b1 = b1 ∧
 (((isArray v0 x0 rs0) ∧
 (capAx x0)) ∧
 (∀ v'39 : Value,
 (∀ rs'40 : (List Row),
 ((isArray v'39 x0 rs'40) →
 (b2 = b2 ∧
 (((isTicket v1 x1 rs1) ∧
 (capTicket x1)) ∧
 (∀ v'41 : Value,
 (∀ rs'42 : (List Row),
 ((isTicket v'41 x1 rs'42) →
 (((isArray v'39 x0 rs'40) ∧
 ((isTicket v'41 x1 rs'42) ∧
 ((capAx x0) ∧
 (capTicket x1)))) ∧
 (∀ v'43 : Value,
 (∀ rs'44 : (List Row),
 ((isArray v'43 (scA aGGroups aGBanks aGRows aGCols x0 (x1).1 (x1).2 (x1).3 (x1).4 (x1).5 (x1).6 (x1).7) rs'44) →
 ((b38 = b38 ∧
 (wholeC Bool.true v'43 3)) ∧
 (b38 = b38 ∧
 (b7 = b7 ∧
 (Exists (fun (x45 : AD) => (((isArray v'43 x45 rs'44) ∧
 ((isArray v'12 x45 rs'13) ∧
 (capAx x45))) ∧
 ((((scOk aGGroups aGBanks aGRows aGCols x0 (x1).1 (x1).2 (x1).3 (x1).4 (x1).5 (x1).6) != (scOk aGGroups aGBanks aGRows aGCols x0 (x1).1 (x1).2 (x1).3 (x1).4 (x1).5 (x1).6)) = Bool.true →
 (Value.bool Bool.false) = (Value.bool Bool.true)) ∧
 (((scOk aGGroups aGBanks aGRows aGCols x0 (x1).1 (x1).2 (x1).3 (x1).4 (x1).5 (x1).6) != (scOk aGGroups aGBanks aGRows aGCols x0 (x1).1 (x1).2 (x1).3 (x1).4 (x1).5 (x1).6)) = Bool.false →
 (b20 = b20 ∧
 (Exists (fun (x46 : AD) => (((isArray v'21 (markArrayD (1 : Int) x46) rs'36) ∧
 ((capAx x46) ∧
 (mrkC (1 : Int)))) ∧
 (((decide ((endArray (1 : Int) x46) < (0 : Int))) = Bool.true →
 (Value.bool Bool.false) = (Value.bool Bool.true)) ∧
 ((decide ((endArray (1 : Int) x46) < (0 : Int))) = Bool.false →
 ((((endArray (1 : Int) x46) != (endArray (1 : Int) x35)) = Bool.true →
 (Value.bool Bool.false) = (Value.bool Bool.true)) ∧
 (((endArray (1 : Int) x46) != (endArray (1 : Int) x35)) = Bool.false →
 (Value.bool Bool.true) = (Value.bool Bool.true))))))))))))))))))))))))))))))))) ∧
 (b0 = b0 ∧
 (b1 = b1 ∧
 (b2 = b2 ∧
 ((True ∧
 ((((isArray v0 x0 rs0) ∧
 (capAx x0)) ∧
 (∀ v'47 : Value,
 (∀ rs'48 : (List Row),
 ((isArray v'47 x0 rs'48) →
 (True ∧
 ((((isTicket v1 x1 rs1) ∧
 (capTicket x1)) ∧
 (∀ v'49 : Value,
 (∀ rs'50 : (List Row),
 ((isTicket v'49 x1 rs'50) →
 (True ∧
 ((((isArray v'47 x0 rs'48) ∧
 ((isTicket v'49 x1 rs'50) ∧
 ((capAx x0) ∧
 (capTicket x1)))) ∧
 (∀ v'51 : Value,
 (∀ rs'52 : (List Row),
 ((isArray v'51 (scA aGGroups aGBanks aGRows aGCols x0 (x1).1 (x1).2 (x1).3 (x1).4 (x1).5 (x1).6 (x1).7) rs'52) →
 (True ∧
 (∀ b53 : Nat,
 (True ∧
 ((b53 = b53 ∧
 (wholeC Bool.true v'51 3)) ∧
 (True ∧
 (Bool.true = Bool.true ∧
 (∀ Q54 : ((List SV) →
 ((List Ch) →
 Prop)),
 ((∀ b55 : Nat,
 (b0 = b0 ∧
 (b1 = b1 ∧
 (((isArray v0 x0 rs0) ∧
 (capAx x0)) ∧
 (∀ v'56 : Value,
 (∀ rs'57 : (List Row),
 ((isArray v'56 x0 rs'57) →
 (b2 = b2 ∧
 (((isTicket v1 x1 rs1) ∧
 (capTicket x1)) ∧
 (∀ v'58 : Value,
 (∀ rs'59 : (List Row),
 ((isTicket v'58 x1 rs'59) →
 (((isArray v'56 x0 rs'57) ∧
 ((isTicket v'58 x1 rs'59) ∧
 ((capAx x0) ∧
 (capTicket x1)))) ∧
 (∀ v'60 : Value,
 (∀ rs'61 : (List Row),
 ((isArray v'60 (scA aGGroups aGBanks aGRows aGCols x0 (x1).1 (x1).2 (x1).3 (x1).4 (x1).5 (x1).6 (x1).7) rs'61) →
 ((b55 = b55 ∧
 (wholeC Bool.true v'60 3)) ∧
 (Q54 [(SV.a (SA.agg [(SC.int aGGroups), (SC.int aGBanks), (SC.int aGRows), (SC.int aGCols)])), (SV.a (SA.c (SC.obj 0 v0))), (SV.a (SA.c (SC.obj 1 v1))), (SV.a (SA.c (SC.ptr 2 b0 0))), (SV.a (SA.c (SC.ptr 3 b1 0))), (SV.a (SA.c (SC.ptr 4 b2 0))), (SV.a (SA.c (SC.lit Bool.false))), (SV.a (SA.c (SC.int z6))), (SV.a (SA.c (SC.ptr 5 b7 0))), (SV.a (SA.c (SC.bool (scOk aGGroups aGBanks aGRows aGCols x0 (x1).1 (x1).2 (x1).3 (x1).4 (x1).5 (x1).6)))), (SV.a (SA.c (SC.ptr 10 b16 0))), (SV.a (SA.c (SC.ptr 12 b19 0))), (SV.a (SA.c (SC.ptr 13 b20 0))), (SV.a (SA.c (SC.bool (scOk aGGroups aGBanks aGRows aGCols x0 (x1).1 (x1).2 (x1).3 (x1).4 (x1).5 (x1).6)))), (SV.a (SA.c (SC.int (endTicket (endArray (1 : Int) x30) x32)))), (SV.a (SA.c (SC.int (endArray (1 : Int) x35)))), (SV.a (SA.c (SC.int (endArray (1 : Int) x37)))), (SV.a (SA.c (SC.ptr 17 b55 0))), (SV.a (SA.c (SC.bool (scOk aGGroups aGBanks aGRows aGCols x0 (x1).1 (x1).2 (x1).3 (x1).4 (x1).5 (x1).6)))), (SV.a (SA.c (SC.obj 0 v0))), (SV.a (SA.c (SC.il (1048576 : Int)))), (SV.a (SA.c (SC.int z4))), (SV.a (SA.c (SC.int z4))), (SV.a (SA.c (SC.lit Bool.false))), (SV.a (SA.c (SC.obj 1 v1))), (SV.a (SA.c (SC.int z4))), (SV.a (SA.c (SC.int z6))), (SV.a (SA.c (SC.int z6))), (SV.a (SA.c (SC.lit Bool.false))), (SV.tup [(SA.c (SC.obj 8 v'12)), (SA.c (SC.bool (scOk aGGroups aGBanks aGRows aGCols x0 (x1).1 (x1).2 (x1).3 (x1).4 (x1).5 (x1).6)))]), (SV.a (SA.agg [(SC.int aGGroups), (SC.int aGBanks), (SC.int aGRows), (SC.int aGCols)])), (SV.a (SA.agg [(SC.int aGGroups), (SC.int aGBanks), (SC.int aGRows), (SC.int aGCols)])), (SV.a (SA.c (SC.obj 0 v0))), (SV.a (SA.c (SC.obj 6 v'8))), (SV.a (SA.c (SC.obj 1 v1))), (SV.a (SA.c (SC.obj 7 v'10))), (SV.tup [(SA.c (SC.obj 8 v'12)), (SA.c (SC.bool (scOk aGGroups aGBanks aGRows aGCols x0 (x1).1 (x1).2 (x1).3 (x1).4 (x1).5 (x1).6)))]), (SV.a (SA.c (SC.obj 8 v'12))), (SV.a (SA.c (SC.bool (scOk aGGroups aGBanks aGRows aGCols x0 (x1).1 (x1).2 (x1).3 (x1).4 (x1).5 (x1).6)))), (SV.a (SA.c (SC.obj 0 v0))), (SV.a (SA.c (SC.obj 9 v'14))), (SV.a (SA.c (SC.obj 1 v1))), (SV.a (SA.c (SC.obj 11 v'17))), (SV.tup [(SA.c (SC.obj 14 v'21)), (SA.c (SC.bool (scOk aGGroups aGBanks aGRows aGCols x0 (x1).1 (x1).2 (x1).3 (x1).4 (x1).5 (x1).6)))]), (SV.a (SA.agg [(SC.int aGGroups), (SC.int aGBanks), (SC.int aGRows), (SC.int aGCols)])), (SV.a (SA.agg [(SC.int aGGroups), (SC.int aGBanks), (SC.int aGRows), (SC.int aGCols)])), (SV.a (SA.c (SC.obj 9 v'14))), (SV.a (SA.c (SC.obj 11 v'17))), (SV.tup [(SA.c (SC.obj 14 v'21)), (SA.c (SC.bool (scOk aGGroups aGBanks aGRows aGCols x0 (x1).1 (x1).2 (x1).3 (x1).4 (x1).5 (x1).6)))]), (SV.a (SA.c (SC.obj 14 v'21))), (SV.a (SA.c (SC.bool (scOk aGGroups aGBanks aGRows aGCols x0 (x1).1 (x1).2 (x1).3 (x1).4 (x1).5 (x1).6)))), (SV.a (SA.c (SC.obj 14 v'21))), (SV.a (SA.c (SC.obj 8 v'12))), (SV.a (SA.c (SC.lit Bool.true))), (SV.a (SA.c (SC.lit Bool.false))), (SV.a (SA.c (SC.lit Bool.false))), (SV.a (SA.c (SC.bool (scOk aGGroups aGBanks aGRows aGCols x0 (x1).1 (x1).2 (x1).3 (x1).4 (x1).5 (x1).6)))), (SV.a (SA.c (SC.bool (scOk aGGroups aGBanks aGRows aGCols x0 (x1).1 (x1).2 (x1).3 (x1).4 (x1).5 (x1).6)))), (SV.a (SA.c (SC.bool ((scOk aGGroups aGBanks aGRows aGCols x0 (x1).1 (x1).2 (x1).3 (x1).4 (x1).5 (x1).6) != (scOk aGGroups aGBanks aGRows aGCols x0 (x1).1 (x1).2 (x1).3 (x1).4 (x1).5 (x1).6))))), (SV.a (SA.c (SC.lit Bool.false))), (SV.a (SA.c (SC.obj 9 v'14))), (SV.a (SA.c (SC.obj 0 v0))), (SV.a (SA.c (SC.obj 15 v'24))), (SV.a (SA.c (SC.lit Bool.true))), (SV.a (SA.c (SC.lit Bool.false))), (SV.a (SA.c (SC.obj 11 v'17))), (SV.a (SA.c (SC.obj 1 v1))), (SV.a (SA.c (SC.obj 16 v'27))), (SV.a (SA.c (SC.lit Bool.true))), (SV.a (SA.c (SC.lit Bool.false))), (SV.a (SA.c (SC.obj 9 v'14))), (SV.a (SA.c (SC.il (1 : Int)))), (SV.a (SA.c (SC.int (endArray (1 : Int) x30)))), (SV.a (SA.c (SC.obj 11 v'17))), (SV.a (SA.c (SC.int (endArray (1 : Int) x30)))), (SV.a (SA.c (SC.int (endTicket (endArray (1 : Int) x30) x32)))), (SV.a (SA.c (SC.int (endTicket (endArray (1 : Int) x30) x32)))), (SV.a (SA.c (SC.bool (decide ((endTicket (endArray (1 : Int) x30) x32) < (0 : Int)))))), (SV.a (SA.c (SC.lit Bool.false))), (SV.a (SA.c (SC.obj 14 v'21))), (SV.a (SA.c (SC.obj 8 v'12))), (SV.a (SA.c (SC.lit Bool.true))), (SV.a (SA.c (SC.lit Bool.false))), (SV.a (SA.c (SC.lit Bool.false))), (SV.a (SA.c (SC.lit Bool.false))), (SV.a (SA.c (SC.bool (scOk aGGroups aGBanks aGRows aGCols x0 (x1).1 (x1).2 (x1).3 (x1).4 (x1).5 (x1).6)))), (SV.a (SA.c (SC.bool (scOk aGGroups aGBanks aGRows aGCols x0 (x1).1 (x1).2 (x1).3 (x1).4 (x1).5 (x1).6)))), (SV.a (SA.c (SC.bool ((scOk aGGroups aGBanks aGRows aGCols x0 (x1).1 (x1).2 (x1).3 (x1).4 (x1).5 (x1).6) != (scOk aGGroups aGBanks aGRows aGCols x0 (x1).1 (x1).2 (x1).3 (x1).4 (x1).5 (x1).6))))), (SV.a (SA.c (SC.lit Bool.false))), (SV.a (SA.c (SC.obj 14 v'21))), (SV.a (SA.c (SC.il (1 : Int)))), (SV.a (SA.c (SC.int (endArray (1 : Int) x35)))), (SV.a (SA.c (SC.obj 14 v'21))), (SV.a (SA.c (SC.il (1 : Int)))), (SV.a (SA.c (SC.int (endArray (1 : Int) x37)))), (SV.a (SA.c (SC.int (endArray (1 : Int) x37)))), (SV.a (SA.c (SC.lit Bool.false))), (SV.a (SA.c (SC.int (endArray (1 : Int) x37)))), (SV.a (SA.c (SC.int (endArray (1 : Int) x35)))), (SV.a (SA.c (SC.lit Bool.false))), (SV.tup [(SA.c (SC.obj 20 v'60)), (SA.c (SC.bool (scOk aGGroups aGBanks aGRows aGCols x0 (x1).1 (x1).2 (x1).3 (x1).4 (x1).5 (x1).6)))]), (SV.a (SA.agg [(SC.int aGGroups), (SC.int aGBanks), (SC.int aGRows), (SC.int aGCols)])), (SV.a (SA.agg [(SC.int aGGroups), (SC.int aGBanks), (SC.int aGRows), (SC.int aGCols)])), (SV.a (SA.c (SC.obj 0 v0))), (SV.a (SA.c (SC.obj 18 v'56))), (SV.a (SA.c (SC.obj 1 v1))), (SV.a (SA.c (SC.obj 19 v'58))), (SV.tup [(SA.c (SC.obj 20 v'60)), (SA.c (SC.bool (scOk aGGroups aGBanks aGRows aGCols x0 (x1).1 (x1).2 (x1).3 (x1).4 (x1).5 (x1).6)))]), (SV.a (SA.c (SC.obj 20 v'60))), (SV.a (SA.c (SC.bool (scOk aGGroups aGBanks aGRows aGCols x0 (x1).1 (x1).2 (x1).3 (x1).4 (x1).5 (x1).6)))), SV.undef, SV.undef, SV.undef, SV.undef, SV.undef, SV.undef, SV.undef, SV.undef, SV.undef, SV.undef, SV.undef, SV.undef, SV.undef, SV.undef, SV.undef, SV.undef, SV.undef] [(Ch.obj Bool.false rs0), (Ch.obj Bool.false rs1), (Ch.cells b0 23 [(SC.int aGGroups), (SC.int aGBanks), (SC.int aGRows), (SC.int aGCols)]), (Ch.whole b1 27 Bool.true 3 (SC.obj 0 v0)), (Ch.whole b2 48 Bool.true 6 (SC.obj 1 v1)), (Ch.whole b7 33 Bool.true 3 (SC.obj 8 v'12)), (Ch.obj Bool.true rs'9), (Ch.obj Bool.true rs'11), (Ch.obj Bool.true rs'13), (Ch.obj Bool.true rs'31), (Ch.whole b16 33 Bool.true 3 (SC.obj 9 v'14)), (Ch.obj Bool.true rs'33), (Ch.whole b19 54 Bool.true 6 (SC.obj 11 v'17)), (Ch.whole b20 33 Bool.true 3 (SC.obj 14 v'21)), (Ch.obj Bool.true rs'36), (Ch.obj Bool.true rs'25), (Ch.obj Bool.true rs'28), (Ch.whole b55 33 Bool.true 3 (SC.obj 20 v'60)), (Ch.obj Bool.true rs'57), (Ch.obj Bool.true rs'59), (Ch.obj Bool.true rs'61)])))))))))))))))))) →
 (Q54 [(SV.a (SA.agg [(SC.int aGGroups), (SC.int aGBanks), (SC.int aGRows), (SC.int aGCols)])), (SV.a (SA.c (SC.obj 0 v0))), (SV.a (SA.c (SC.obj 1 v1))), (SV.a (SA.c (SC.ptr 2 b0 0))), (SV.a (SA.c (SC.ptr 3 b1 0))), (SV.a (SA.c (SC.ptr 4 b2 0))), (SV.a (SA.c (SC.lit Bool.false))), (SV.a (SA.c (SC.int z6))), (SV.a (SA.c (SC.ptr 5 b7 0))), (SV.a (SA.c (SC.bool (scOk aGGroups aGBanks aGRows aGCols x0 (x1).1 (x1).2 (x1).3 (x1).4 (x1).5 (x1).6)))), (SV.a (SA.c (SC.ptr 10 b16 0))), (SV.a (SA.c (SC.ptr 12 b19 0))), (SV.a (SA.c (SC.ptr 13 b20 0))), (SV.a (SA.c (SC.bool (scOk aGGroups aGBanks aGRows aGCols x0 (x1).1 (x1).2 (x1).3 (x1).4 (x1).5 (x1).6)))), (SV.a (SA.c (SC.int (endTicket (endArray (1 : Int) x30) x32)))), (SV.a (SA.c (SC.int (endArray (1 : Int) x35)))), (SV.a (SA.c (SC.int (endArray (1 : Int) x37)))), (SV.a (SA.c (SC.ptr 17 b53 0))), (SV.a (SA.c (SC.bool (scOk aGGroups aGBanks aGRows aGCols x0 (x1).1 (x1).2 (x1).3 (x1).4 (x1).5 (x1).6)))), (SV.a (SA.c (SC.obj 0 v0))), (SV.a (SA.c (SC.il (1048576 : Int)))), (SV.a (SA.c (SC.int z4))), (SV.a (SA.c (SC.int z4))), (SV.a (SA.c (SC.lit Bool.false))), (SV.a (SA.c (SC.obj 1 v1))), (SV.a (SA.c (SC.int z4))), (SV.a (SA.c (SC.int z6))), (SV.a (SA.c (SC.int z6))), (SV.a (SA.c (SC.lit Bool.false))), (SV.tup [(SA.c (SC.obj 8 v'12)), (SA.c (SC.bool (scOk aGGroups aGBanks aGRows aGCols x0 (x1).1 (x1).2 (x1).3 (x1).4 (x1).5 (x1).6)))]), (SV.a (SA.agg [(SC.int aGGroups), (SC.int aGBanks), (SC.int aGRows), (SC.int aGCols)])), (SV.a (SA.agg [(SC.int aGGroups), (SC.int aGBanks), (SC.int aGRows), (SC.int aGCols)])), (SV.a (SA.c (SC.obj 0 v0))), (SV.a (SA.c (SC.obj 6 v'8))), (SV.a (SA.c (SC.obj 1 v1))), (SV.a (SA.c (SC.obj 7 v'10))), (SV.tup [(SA.c (SC.obj 8 v'12)), (SA.c (SC.bool (scOk aGGroups aGBanks aGRows aGCols x0 (x1).1 (x1).2 (x1).3 (x1).4 (x1).5 (x1).6)))]), (SV.a (SA.c (SC.obj 8 v'12))), (SV.a (SA.c (SC.bool (scOk aGGroups aGBanks aGRows aGCols x0 (x1).1 (x1).2 (x1).3 (x1).4 (x1).5 (x1).6)))), (SV.a (SA.c (SC.obj 0 v0))), (SV.a (SA.c (SC.obj 9 v'14))), (SV.a (SA.c (SC.obj 1 v1))), (SV.a (SA.c (SC.obj 11 v'17))), (SV.tup [(SA.c (SC.obj 14 v'21)), (SA.c (SC.bool (scOk aGGroups aGBanks aGRows aGCols x0 (x1).1 (x1).2 (x1).3 (x1).4 (x1).5 (x1).6)))]), (SV.a (SA.agg [(SC.int aGGroups), (SC.int aGBanks), (SC.int aGRows), (SC.int aGCols)])), (SV.a (SA.agg [(SC.int aGGroups), (SC.int aGBanks), (SC.int aGRows), (SC.int aGCols)])), (SV.a (SA.c (SC.obj 9 v'14))), (SV.a (SA.c (SC.obj 11 v'17))), (SV.tup [(SA.c (SC.obj 14 v'21)), (SA.c (SC.bool (scOk aGGroups aGBanks aGRows aGCols x0 (x1).1 (x1).2 (x1).3 (x1).4 (x1).5 (x1).6)))]), (SV.a (SA.c (SC.obj 14 v'21))), (SV.a (SA.c (SC.bool (scOk aGGroups aGBanks aGRows aGCols x0 (x1).1 (x1).2 (x1).3 (x1).4 (x1).5 (x1).6)))), (SV.a (SA.c (SC.obj 14 v'21))), (SV.a (SA.c (SC.obj 8 v'12))), (SV.a (SA.c (SC.lit Bool.true))), (SV.a (SA.c (SC.lit Bool.false))), (SV.a (SA.c (SC.lit Bool.false))), (SV.a (SA.c (SC.bool (scOk aGGroups aGBanks aGRows aGCols x0 (x1).1 (x1).2 (x1).3 (x1).4 (x1).5 (x1).6)))), (SV.a (SA.c (SC.bool (scOk aGGroups aGBanks aGRows aGCols x0 (x1).1 (x1).2 (x1).3 (x1).4 (x1).5 (x1).6)))), (SV.a (SA.c (SC.bool ((scOk aGGroups aGBanks aGRows aGCols x0 (x1).1 (x1).2 (x1).3 (x1).4 (x1).5 (x1).6) != (scOk aGGroups aGBanks aGRows aGCols x0 (x1).1 (x1).2 (x1).3 (x1).4 (x1).5 (x1).6))))), (SV.a (SA.c (SC.lit Bool.false))), (SV.a (SA.c (SC.obj 9 v'14))), (SV.a (SA.c (SC.obj 0 v0))), (SV.a (SA.c (SC.obj 15 v'24))), (SV.a (SA.c (SC.lit Bool.true))), (SV.a (SA.c (SC.lit Bool.false))), (SV.a (SA.c (SC.obj 11 v'17))), (SV.a (SA.c (SC.obj 1 v1))), (SV.a (SA.c (SC.obj 16 v'27))), (SV.a (SA.c (SC.lit Bool.true))), (SV.a (SA.c (SC.lit Bool.false))), (SV.a (SA.c (SC.obj 9 v'14))), (SV.a (SA.c (SC.il (1 : Int)))), (SV.a (SA.c (SC.int (endArray (1 : Int) x30)))), (SV.a (SA.c (SC.obj 11 v'17))), (SV.a (SA.c (SC.int (endArray (1 : Int) x30)))), (SV.a (SA.c (SC.int (endTicket (endArray (1 : Int) x30) x32)))), (SV.a (SA.c (SC.int (endTicket (endArray (1 : Int) x30) x32)))), (SV.a (SA.c (SC.bool (decide ((endTicket (endArray (1 : Int) x30) x32) < (0 : Int)))))), (SV.a (SA.c (SC.lit Bool.false))), (SV.a (SA.c (SC.obj 14 v'21))), (SV.a (SA.c (SC.obj 8 v'12))), (SV.a (SA.c (SC.lit Bool.true))), (SV.a (SA.c (SC.lit Bool.false))), (SV.a (SA.c (SC.lit Bool.false))), (SV.a (SA.c (SC.lit Bool.false))), (SV.a (SA.c (SC.bool (scOk aGGroups aGBanks aGRows aGCols x0 (x1).1 (x1).2 (x1).3 (x1).4 (x1).5 (x1).6)))), (SV.a (SA.c (SC.bool (scOk aGGroups aGBanks aGRows aGCols x0 (x1).1 (x1).2 (x1).3 (x1).4 (x1).5 (x1).6)))), (SV.a (SA.c (SC.bool ((scOk aGGroups aGBanks aGRows aGCols x0 (x1).1 (x1).2 (x1).3 (x1).4 (x1).5 (x1).6) != (scOk aGGroups aGBanks aGRows aGCols x0 (x1).1 (x1).2 (x1).3 (x1).4 (x1).5 (x1).6))))), (SV.a (SA.c (SC.lit Bool.false))), (SV.a (SA.c (SC.obj 14 v'21))), (SV.a (SA.c (SC.il (1 : Int)))), (SV.a (SA.c (SC.int (endArray (1 : Int) x35)))), (SV.a (SA.c (SC.obj 14 v'21))), (SV.a (SA.c (SC.il (1 : Int)))), (SV.a (SA.c (SC.int (endArray (1 : Int) x37)))), (SV.a (SA.c (SC.int (endArray (1 : Int) x37)))), (SV.a (SA.c (SC.lit Bool.false))), (SV.a (SA.c (SC.int (endArray (1 : Int) x37)))), (SV.a (SA.c (SC.int (endArray (1 : Int) x35)))), (SV.a (SA.c (SC.lit Bool.false))), (SV.tup [(SA.c (SC.obj 20 v'51)), (SA.c (SC.bool (scOk aGGroups aGBanks aGRows aGCols x0 (x1).1 (x1).2 (x1).3 (x1).4 (x1).5 (x1).6)))]), (SV.a (SA.agg [(SC.int aGGroups), (SC.int aGBanks), (SC.int aGRows), (SC.int aGCols)])), (SV.a (SA.agg [(SC.int aGGroups), (SC.int aGBanks), (SC.int aGRows), (SC.int aGCols)])), (SV.a (SA.c (SC.obj 0 v0))), (SV.a (SA.c (SC.obj 18 v'47))), (SV.a (SA.c (SC.obj 1 v1))), (SV.a (SA.c (SC.obj 19 v'49))), (SV.tup [(SA.c (SC.obj 20 v'51)), (SA.c (SC.bool (scOk aGGroups aGBanks aGRows aGCols x0 (x1).1 (x1).2 (x1).3 (x1).4 (x1).5 (x1).6)))]), (SV.a (SA.c (SC.obj 20 v'51))), (SV.a (SA.c (SC.bool (scOk aGGroups aGBanks aGRows aGCols x0 (x1).1 (x1).2 (x1).3 (x1).4 (x1).5 (x1).6)))), SV.undef, SV.undef, SV.undef, SV.undef, SV.undef, SV.undef, SV.undef, SV.undef, SV.undef, SV.undef, SV.undef, SV.undef, SV.undef, SV.undef, SV.undef, SV.undef, SV.undef] [(Ch.obj Bool.false rs0), (Ch.obj Bool.false rs1), (Ch.cells b0 23 [(SC.int aGGroups), (SC.int aGBanks), (SC.int aGRows), (SC.int aGCols)]), (Ch.whole b1 27 Bool.true 3 (SC.obj 0 v0)), (Ch.whole b2 48 Bool.true 6 (SC.obj 1 v1)), (Ch.whole b7 33 Bool.true 3 (SC.obj 8 v'12)), (Ch.obj Bool.true rs'9), (Ch.obj Bool.true rs'11), (Ch.obj Bool.true rs'13), (Ch.obj Bool.true rs'31), (Ch.whole b16 33 Bool.true 3 (SC.obj 9 v'14)), (Ch.obj Bool.true rs'33), (Ch.whole b19 54 Bool.true 6 (SC.obj 11 v'17)), (Ch.whole b20 33 Bool.true 3 (SC.obj 14 v'21)), (Ch.obj Bool.true rs'36), (Ch.obj Bool.true rs'25), (Ch.obj Bool.true rs'28), (Ch.whole b53 33 Bool.true 3 (SC.obj 20 v'51)), (Ch.obj Bool.true rs'48), (Ch.obj Bool.true rs'50), (Ch.obj Bool.true rs'52)]))))))))))))) ∧
 (∀ b62 : Nat,
 (True ∧
 (((isArray v'47 x0 rs'48) ∧
 ((isTicket v'49 x1 rs'50) ∧
 ((capAx x0) ∧
 (capTicket x1)))) ∧
 (∀ v'63 : Value,
 (∀ rs'64 : (List Row),
 ((isArray v'63 (scA aGGroups aGBanks aGRows aGCols x0 (x1).1 (x1).2 (x1).3 (x1).4 (x1).5 (x1).6 (x1).7) rs'64) →
 (True ∧
 ((b62 = b62 ∧
 (wholeC Bool.true v'63 3)) ∧
 (True ∧
 (Bool.true = Bool.true ∧
 (∀ Q65 : ((List SV) →
 ((List Ch) →
 Prop)),
 ((∀ b66 : Nat,
 (b0 = b0 ∧
 (b1 = b1 ∧
 (((isArray v0 x0 rs0) ∧
 (capAx x0)) ∧
 (∀ v'67 : Value,
 (∀ rs'68 : (List Row),
 ((isArray v'67 x0 rs'68) →
 (b2 = b2 ∧
 (((isTicket v1 x1 rs1) ∧
 (capTicket x1)) ∧
 (∀ v'69 : Value,
 (∀ rs'70 : (List Row),
 ((isTicket v'69 x1 rs'70) →
 (((isArray v'67 x0 rs'68) ∧
 ((isTicket v'69 x1 rs'70) ∧
 ((capAx x0) ∧
 (capTicket x1)))) ∧
 (∀ v'71 : Value,
 (∀ rs'72 : (List Row),
 ((isArray v'71 (scA aGGroups aGBanks aGRows aGCols x0 (x1).1 (x1).2 (x1).3 (x1).4 (x1).5 (x1).6 (x1).7) rs'72) →
 ((b66 = b66 ∧
 (wholeC Bool.true v'71 3)) ∧
 (Q65 [(SV.a (SA.agg [(SC.int aGGroups), (SC.int aGBanks), (SC.int aGRows), (SC.int aGCols)])), (SV.a (SA.c (SC.obj 0 v0))), (SV.a (SA.c (SC.obj 1 v1))), (SV.a (SA.c (SC.ptr 2 b0 0))), (SV.a (SA.c (SC.ptr 3 b1 0))), (SV.a (SA.c (SC.ptr 4 b2 0))), (SV.a (SA.c (SC.lit Bool.false))), (SV.a (SA.c (SC.int z6))), (SV.a (SA.c (SC.ptr 5 b7 0))), (SV.a (SA.c (SC.bool (scOk aGGroups aGBanks aGRows aGCols x0 (x1).1 (x1).2 (x1).3 (x1).4 (x1).5 (x1).6)))), (SV.a (SA.c (SC.ptr 10 b16 0))), (SV.a (SA.c (SC.ptr 12 b19 0))), (SV.a (SA.c (SC.ptr 13 b20 0))), (SV.a (SA.c (SC.bool (scOk aGGroups aGBanks aGRows aGCols x0 (x1).1 (x1).2 (x1).3 (x1).4 (x1).5 (x1).6)))), (SV.a (SA.c (SC.int (endTicket (endArray (1 : Int) x30) x32)))), (SV.a (SA.c (SC.int (endArray (1 : Int) x35)))), (SV.a (SA.c (SC.int (endArray (1 : Int) x37)))), (SV.a (SA.c (SC.ptr 17 b66 0))), (SV.a (SA.c (SC.bool (scOk aGGroups aGBanks aGRows aGCols x0 (x1).1 (x1).2 (x1).3 (x1).4 (x1).5 (x1).6)))), (SV.a (SA.c (SC.obj 0 v0))), (SV.a (SA.c (SC.il (1048576 : Int)))), (SV.a (SA.c (SC.int z4))), (SV.a (SA.c (SC.int z4))), (SV.a (SA.c (SC.lit Bool.false))), (SV.a (SA.c (SC.obj 1 v1))), (SV.a (SA.c (SC.int z4))), (SV.a (SA.c (SC.int z6))), (SV.a (SA.c (SC.int z6))), (SV.a (SA.c (SC.lit Bool.false))), (SV.tup [(SA.c (SC.obj 8 v'12)), (SA.c (SC.bool (scOk aGGroups aGBanks aGRows aGCols x0 (x1).1 (x1).2 (x1).3 (x1).4 (x1).5 (x1).6)))]), (SV.a (SA.agg [(SC.int aGGroups), (SC.int aGBanks), (SC.int aGRows), (SC.int aGCols)])), (SV.a (SA.agg [(SC.int aGGroups), (SC.int aGBanks), (SC.int aGRows), (SC.int aGCols)])), (SV.a (SA.c (SC.obj 0 v0))), (SV.a (SA.c (SC.obj 6 v'8))), (SV.a (SA.c (SC.obj 1 v1))), (SV.a (SA.c (SC.obj 7 v'10))), (SV.tup [(SA.c (SC.obj 8 v'12)), (SA.c (SC.bool (scOk aGGroups aGBanks aGRows aGCols x0 (x1).1 (x1).2 (x1).3 (x1).4 (x1).5 (x1).6)))]), (SV.a (SA.c (SC.obj 8 v'12))), (SV.a (SA.c (SC.bool (scOk aGGroups aGBanks aGRows aGCols x0 (x1).1 (x1).2 (x1).3 (x1).4 (x1).5 (x1).6)))), (SV.a (SA.c (SC.obj 0 v0))), (SV.a (SA.c (SC.obj 9 v'14))), (SV.a (SA.c (SC.obj 1 v1))), (SV.a (SA.c (SC.obj 11 v'17))), (SV.tup [(SA.c (SC.obj 14 v'21)), (SA.c (SC.bool (scOk aGGroups aGBanks aGRows aGCols x0 (x1).1 (x1).2 (x1).3 (x1).4 (x1).5 (x1).6)))]), (SV.a (SA.agg [(SC.int aGGroups), (SC.int aGBanks), (SC.int aGRows), (SC.int aGCols)])), (SV.a (SA.agg [(SC.int aGGroups), (SC.int aGBanks), (SC.int aGRows), (SC.int aGCols)])), (SV.a (SA.c (SC.obj 9 v'14))), (SV.a (SA.c (SC.obj 11 v'17))), (SV.tup [(SA.c (SC.obj 14 v'21)), (SA.c (SC.bool (scOk aGGroups aGBanks aGRows aGCols x0 (x1).1 (x1).2 (x1).3 (x1).4 (x1).5 (x1).6)))]), (SV.a (SA.c (SC.obj 14 v'21))), (SV.a (SA.c (SC.bool (scOk aGGroups aGBanks aGRows aGCols x0 (x1).1 (x1).2 (x1).3 (x1).4 (x1).5 (x1).6)))), (SV.a (SA.c (SC.obj 14 v'21))), (SV.a (SA.c (SC.obj 8 v'12))), (SV.a (SA.c (SC.lit Bool.true))), (SV.a (SA.c (SC.lit Bool.false))), (SV.a (SA.c (SC.lit Bool.false))), (SV.a (SA.c (SC.bool (scOk aGGroups aGBanks aGRows aGCols x0 (x1).1 (x1).2 (x1).3 (x1).4 (x1).5 (x1).6)))), (SV.a (SA.c (SC.bool (scOk aGGroups aGBanks aGRows aGCols x0 (x1).1 (x1).2 (x1).3 (x1).4 (x1).5 (x1).6)))), (SV.a (SA.c (SC.bool ((scOk aGGroups aGBanks aGRows aGCols x0 (x1).1 (x1).2 (x1).3 (x1).4 (x1).5 (x1).6) != (scOk aGGroups aGBanks aGRows aGCols x0 (x1).1 (x1).2 (x1).3 (x1).4 (x1).5 (x1).6))))), (SV.a (SA.c (SC.lit Bool.false))), (SV.a (SA.c (SC.obj 9 v'14))), (SV.a (SA.c (SC.obj 0 v0))), (SV.a (SA.c (SC.obj 15 v'24))), (SV.a (SA.c (SC.lit Bool.true))), (SV.a (SA.c (SC.lit Bool.false))), (SV.a (SA.c (SC.obj 11 v'17))), (SV.a (SA.c (SC.obj 1 v1))), (SV.a (SA.c (SC.obj 16 v'27))), (SV.a (SA.c (SC.lit Bool.true))), (SV.a (SA.c (SC.lit Bool.false))), (SV.a (SA.c (SC.obj 9 v'14))), (SV.a (SA.c (SC.il (1 : Int)))), (SV.a (SA.c (SC.int (endArray (1 : Int) x30)))), (SV.a (SA.c (SC.obj 11 v'17))), (SV.a (SA.c (SC.int (endArray (1 : Int) x30)))), (SV.a (SA.c (SC.int (endTicket (endArray (1 : Int) x30) x32)))), (SV.a (SA.c (SC.int (endTicket (endArray (1 : Int) x30) x32)))), (SV.a (SA.c (SC.bool (decide ((endTicket (endArray (1 : Int) x30) x32) < (0 : Int)))))), (SV.a (SA.c (SC.lit Bool.false))), (SV.a (SA.c (SC.obj 14 v'21))), (SV.a (SA.c (SC.obj 8 v'12))), (SV.a (SA.c (SC.lit Bool.true))), (SV.a (SA.c (SC.lit Bool.false))), (SV.a (SA.c (SC.lit Bool.false))), (SV.a (SA.c (SC.lit Bool.false))), (SV.a (SA.c (SC.bool (scOk aGGroups aGBanks aGRows aGCols x0 (x1).1 (x1).2 (x1).3 (x1).4 (x1).5 (x1).6)))), (SV.a (SA.c (SC.bool (scOk aGGroups aGBanks aGRows aGCols x0 (x1).1 (x1).2 (x1).3 (x1).4 (x1).5 (x1).6)))), (SV.a (SA.c (SC.bool ((scOk aGGroups aGBanks aGRows aGCols x0 (x1).1 (x1).2 (x1).3 (x1).4 (x1).5 (x1).6) != (scOk aGGroups aGBanks aGRows aGCols x0 (x1).1 (x1).2 (x1).3 (x1).4 (x1).5 (x1).6))))), (SV.a (SA.c (SC.lit Bool.false))), (SV.a (SA.c (SC.obj 14 v'21))), (SV.a (SA.c (SC.il (1 : Int)))), (SV.a (SA.c (SC.int (endArray (1 : Int) x35)))), (SV.a (SA.c (SC.obj 14 v'21))), (SV.a (SA.c (SC.il (1 : Int)))), (SV.a (SA.c (SC.int (endArray (1 : Int) x37)))), (SV.a (SA.c (SC.int (endArray (1 : Int) x37)))), (SV.a (SA.c (SC.lit Bool.false))), (SV.a (SA.c (SC.int (endArray (1 : Int) x37)))), (SV.a (SA.c (SC.int (endArray (1 : Int) x35)))), (SV.a (SA.c (SC.lit Bool.false))), (SV.tup [(SA.c (SC.obj 20 v'71)), (SA.c (SC.bool (scOk aGGroups aGBanks aGRows aGCols x0 (x1).1 (x1).2 (x1).3 (x1).4 (x1).5 (x1).6)))]), (SV.a (SA.agg [(SC.int aGGroups), (SC.int aGBanks), (SC.int aGRows), (SC.int aGCols)])), (SV.a (SA.agg [(SC.int aGGroups), (SC.int aGBanks), (SC.int aGRows), (SC.int aGCols)])), (SV.a (SA.c (SC.obj 0 v0))), (SV.a (SA.c (SC.obj 18 v'67))), (SV.a (SA.c (SC.obj 1 v1))), (SV.a (SA.c (SC.obj 19 v'69))), (SV.tup [(SA.c (SC.obj 20 v'71)), (SA.c (SC.bool (scOk aGGroups aGBanks aGRows aGCols x0 (x1).1 (x1).2 (x1).3 (x1).4 (x1).5 (x1).6)))]), (SV.a (SA.c (SC.obj 20 v'71))), (SV.a (SA.c (SC.bool (scOk aGGroups aGBanks aGRows aGCols x0 (x1).1 (x1).2 (x1).3 (x1).4 (x1).5 (x1).6)))), SV.undef, SV.undef, SV.undef, SV.undef, SV.undef, SV.undef, SV.undef, SV.undef, SV.undef, SV.undef, SV.undef, SV.undef, SV.undef, SV.undef, SV.undef, SV.undef, SV.undef] [(Ch.obj Bool.false rs0), (Ch.obj Bool.false rs1), (Ch.cells b0 23 [(SC.int aGGroups), (SC.int aGBanks), (SC.int aGRows), (SC.int aGCols)]), (Ch.whole b1 27 Bool.true 3 (SC.obj 0 v0)), (Ch.whole b2 48 Bool.true 6 (SC.obj 1 v1)), (Ch.whole b7 33 Bool.true 3 (SC.obj 8 v'12)), (Ch.obj Bool.true rs'9), (Ch.obj Bool.true rs'11), (Ch.obj Bool.true rs'13), (Ch.obj Bool.true rs'31), (Ch.whole b16 33 Bool.true 3 (SC.obj 9 v'14)), (Ch.obj Bool.true rs'33), (Ch.whole b19 54 Bool.true 6 (SC.obj 11 v'17)), (Ch.whole b20 33 Bool.true 3 (SC.obj 14 v'21)), (Ch.obj Bool.true rs'36), (Ch.obj Bool.true rs'25), (Ch.obj Bool.true rs'28), (Ch.whole b66 33 Bool.true 3 (SC.obj 20 v'71)), (Ch.obj Bool.true rs'68), (Ch.obj Bool.true rs'70), (Ch.obj Bool.true rs'72)])))))))))))))))))) →
 (Q65 [(SV.a (SA.agg [(SC.int aGGroups), (SC.int aGBanks), (SC.int aGRows), (SC.int aGCols)])), (SV.a (SA.c (SC.obj 0 v0))), (SV.a (SA.c (SC.obj 1 v1))), (SV.a (SA.c (SC.ptr 2 b0 0))), (SV.a (SA.c (SC.ptr 3 b1 0))), (SV.a (SA.c (SC.ptr 4 b2 0))), (SV.a (SA.c (SC.lit Bool.false))), (SV.a (SA.c (SC.int z6))), (SV.a (SA.c (SC.ptr 5 b7 0))), (SV.a (SA.c (SC.bool (scOk aGGroups aGBanks aGRows aGCols x0 (x1).1 (x1).2 (x1).3 (x1).4 (x1).5 (x1).6)))), (SV.a (SA.c (SC.ptr 10 b16 0))), (SV.a (SA.c (SC.ptr 12 b19 0))), (SV.a (SA.c (SC.ptr 13 b20 0))), (SV.a (SA.c (SC.bool (scOk aGGroups aGBanks aGRows aGCols x0 (x1).1 (x1).2 (x1).3 (x1).4 (x1).5 (x1).6)))), (SV.a (SA.c (SC.int (endTicket (endArray (1 : Int) x30) x32)))), (SV.a (SA.c (SC.int (endArray (1 : Int) x35)))), (SV.a (SA.c (SC.int (endArray (1 : Int) x37)))), (SV.a (SA.c (SC.ptr 17 b62 0))), (SV.a (SA.c (SC.bool (scOk aGGroups aGBanks aGRows aGCols x0 (x1).1 (x1).2 (x1).3 (x1).4 (x1).5 (x1).6)))), (SV.a (SA.c (SC.obj 0 v0))), (SV.a (SA.c (SC.il (1048576 : Int)))), (SV.a (SA.c (SC.int z4))), (SV.a (SA.c (SC.int z4))), (SV.a (SA.c (SC.lit Bool.false))), (SV.a (SA.c (SC.obj 1 v1))), (SV.a (SA.c (SC.int z4))), (SV.a (SA.c (SC.int z6))), (SV.a (SA.c (SC.int z6))), (SV.a (SA.c (SC.lit Bool.false))), (SV.tup [(SA.c (SC.obj 8 v'12)), (SA.c (SC.bool (scOk aGGroups aGBanks aGRows aGCols x0 (x1).1 (x1).2 (x1).3 (x1).4 (x1).5 (x1).6)))]), (SV.a (SA.agg [(SC.int aGGroups), (SC.int aGBanks), (SC.int aGRows), (SC.int aGCols)])), (SV.a (SA.agg [(SC.int aGGroups), (SC.int aGBanks), (SC.int aGRows), (SC.int aGCols)])), (SV.a (SA.c (SC.obj 0 v0))), (SV.a (SA.c (SC.obj 6 v'8))), (SV.a (SA.c (SC.obj 1 v1))), (SV.a (SA.c (SC.obj 7 v'10))), (SV.tup [(SA.c (SC.obj 8 v'12)), (SA.c (SC.bool (scOk aGGroups aGBanks aGRows aGCols x0 (x1).1 (x1).2 (x1).3 (x1).4 (x1).5 (x1).6)))]), (SV.a (SA.c (SC.obj 8 v'12))), (SV.a (SA.c (SC.bool (scOk aGGroups aGBanks aGRows aGCols x0 (x1).1 (x1).2 (x1).3 (x1).4 (x1).5 (x1).6)))), (SV.a (SA.c (SC.obj 0 v0))), (SV.a (SA.c (SC.obj 9 v'14))), (SV.a (SA.c (SC.obj 1 v1))), (SV.a (SA.c (SC.obj 11 v'17))), (SV.tup [(SA.c (SC.obj 14 v'21)), (SA.c (SC.bool (scOk aGGroups aGBanks aGRows aGCols x0 (x1).1 (x1).2 (x1).3 (x1).4 (x1).5 (x1).6)))]), (SV.a (SA.agg [(SC.int aGGroups), (SC.int aGBanks), (SC.int aGRows), (SC.int aGCols)])), (SV.a (SA.agg [(SC.int aGGroups), (SC.int aGBanks), (SC.int aGRows), (SC.int aGCols)])), (SV.a (SA.c (SC.obj 9 v'14))), (SV.a (SA.c (SC.obj 11 v'17))), (SV.tup [(SA.c (SC.obj 14 v'21)), (SA.c (SC.bool (scOk aGGroups aGBanks aGRows aGCols x0 (x1).1 (x1).2 (x1).3 (x1).4 (x1).5 (x1).6)))]), (SV.a (SA.c (SC.obj 14 v'21))), (SV.a (SA.c (SC.bool (scOk aGGroups aGBanks aGRows aGCols x0 (x1).1 (x1).2 (x1).3 (x1).4 (x1).5 (x1).6)))), (SV.a (SA.c (SC.obj 14 v'21))), (SV.a (SA.c (SC.obj 8 v'12))), (SV.a (SA.c (SC.lit Bool.true))), (SV.a (SA.c (SC.lit Bool.false))), (SV.a (SA.c (SC.lit Bool.false))), (SV.a (SA.c (SC.bool (scOk aGGroups aGBanks aGRows aGCols x0 (x1).1 (x1).2 (x1).3 (x1).4 (x1).5 (x1).6)))), (SV.a (SA.c (SC.bool (scOk aGGroups aGBanks aGRows aGCols x0 (x1).1 (x1).2 (x1).3 (x1).4 (x1).5 (x1).6)))), (SV.a (SA.c (SC.bool ((scOk aGGroups aGBanks aGRows aGCols x0 (x1).1 (x1).2 (x1).3 (x1).4 (x1).5 (x1).6) != (scOk aGGroups aGBanks aGRows aGCols x0 (x1).1 (x1).2 (x1).3 (x1).4 (x1).5 (x1).6))))), (SV.a (SA.c (SC.lit Bool.false))), (SV.a (SA.c (SC.obj 9 v'14))), (SV.a (SA.c (SC.obj 0 v0))), (SV.a (SA.c (SC.obj 15 v'24))), (SV.a (SA.c (SC.lit Bool.true))), (SV.a (SA.c (SC.lit Bool.false))), (SV.a (SA.c (SC.obj 11 v'17))), (SV.a (SA.c (SC.obj 1 v1))), (SV.a (SA.c (SC.obj 16 v'27))), (SV.a (SA.c (SC.lit Bool.true))), (SV.a (SA.c (SC.lit Bool.false))), (SV.a (SA.c (SC.obj 9 v'14))), (SV.a (SA.c (SC.il (1 : Int)))), (SV.a (SA.c (SC.int (endArray (1 : Int) x30)))), (SV.a (SA.c (SC.obj 11 v'17))), (SV.a (SA.c (SC.int (endArray (1 : Int) x30)))), (SV.a (SA.c (SC.int (endTicket (endArray (1 : Int) x30) x32)))), (SV.a (SA.c (SC.int (endTicket (endArray (1 : Int) x30) x32)))), (SV.a (SA.c (SC.bool (decide ((endTicket (endArray (1 : Int) x30) x32) < (0 : Int)))))), (SV.a (SA.c (SC.lit Bool.false))), (SV.a (SA.c (SC.obj 14 v'21))), (SV.a (SA.c (SC.obj 8 v'12))), (SV.a (SA.c (SC.lit Bool.true))), (SV.a (SA.c (SC.lit Bool.false))), (SV.a (SA.c (SC.lit Bool.false))), (SV.a (SA.c (SC.lit Bool.false))), (SV.a (SA.c (SC.bool (scOk aGGroups aGBanks aGRows aGCols x0 (x1).1 (x1).2 (x1).3 (x1).4 (x1).5 (x1).6)))), (SV.a (SA.c (SC.bool (scOk aGGroups aGBanks aGRows aGCols x0 (x1).1 (x1).2 (x1).3 (x1).4 (x1).5 (x1).6)))), (SV.a (SA.c (SC.bool ((scOk aGGroups aGBanks aGRows aGCols x0 (x1).1 (x1).2 (x1).3 (x1).4 (x1).5 (x1).6) != (scOk aGGroups aGBanks aGRows aGCols x0 (x1).1 (x1).2 (x1).3 (x1).4 (x1).5 (x1).6))))), (SV.a (SA.c (SC.lit Bool.false))), (SV.a (SA.c (SC.obj 14 v'21))), (SV.a (SA.c (SC.il (1 : Int)))), (SV.a (SA.c (SC.int (endArray (1 : Int) x35)))), (SV.a (SA.c (SC.obj 14 v'21))), (SV.a (SA.c (SC.il (1 : Int)))), (SV.a (SA.c (SC.int (endArray (1 : Int) x37)))), (SV.a (SA.c (SC.int (endArray (1 : Int) x37)))), (SV.a (SA.c (SC.lit Bool.false))), (SV.a (SA.c (SC.int (endArray (1 : Int) x37)))), (SV.a (SA.c (SC.int (endArray (1 : Int) x35)))), (SV.a (SA.c (SC.lit Bool.false))), (SV.tup [(SA.c (SC.obj 20 v'63)), (SA.c (SC.bool (scOk aGGroups aGBanks aGRows aGCols x0 (x1).1 (x1).2 (x1).3 (x1).4 (x1).5 (x1).6)))]), (SV.a (SA.agg [(SC.int aGGroups), (SC.int aGBanks), (SC.int aGRows), (SC.int aGCols)])), (SV.a (SA.agg [(SC.int aGGroups), (SC.int aGBanks), (SC.int aGRows), (SC.int aGCols)])), (SV.a (SA.c (SC.obj 0 v0))), (SV.a (SA.c (SC.obj 18 v'47))), (SV.a (SA.c (SC.obj 1 v1))), (SV.a (SA.c (SC.obj 19 v'49))), (SV.tup [(SA.c (SC.obj 20 v'63)), (SA.c (SC.bool (scOk aGGroups aGBanks aGRows aGCols x0 (x1).1 (x1).2 (x1).3 (x1).4 (x1).5 (x1).6)))]), (SV.a (SA.c (SC.obj 20 v'63))), (SV.a (SA.c (SC.bool (scOk aGGroups aGBanks aGRows aGCols x0 (x1).1 (x1).2 (x1).3 (x1).4 (x1).5 (x1).6)))), SV.undef, SV.undef, SV.undef, SV.undef, SV.undef, SV.undef, SV.undef, SV.undef, SV.undef, SV.undef, SV.undef, SV.undef, SV.undef, SV.undef, SV.undef, SV.undef, SV.undef] [(Ch.obj Bool.false rs0), (Ch.obj Bool.false rs1), (Ch.cells b0 23 [(SC.int aGGroups), (SC.int aGBanks), (SC.int aGRows), (SC.int aGCols)]), (Ch.whole b1 27 Bool.true 3 (SC.obj 0 v0)), (Ch.whole b2 48 Bool.true 6 (SC.obj 1 v1)), (Ch.whole b7 33 Bool.true 3 (SC.obj 8 v'12)), (Ch.obj Bool.true rs'9), (Ch.obj Bool.true rs'11), (Ch.obj Bool.true rs'13), (Ch.obj Bool.true rs'31), (Ch.whole b16 33 Bool.true 3 (SC.obj 9 v'14)), (Ch.obj Bool.true rs'33), (Ch.whole b19 54 Bool.true 6 (SC.obj 11 v'17)), (Ch.whole b20 33 Bool.true 3 (SC.obj 14 v'21)), (Ch.obj Bool.true rs'36), (Ch.obj Bool.true rs'25), (Ch.obj Bool.true rs'28), (Ch.whole b62 33 Bool.true 3 (SC.obj 20 v'63)), (Ch.obj Bool.true rs'48), (Ch.obj Bool.true rs'50), (Ch.obj Bool.true rs'64)]))))))))))))))))))) ∧
 (∀ b73 : Nat,
 (True ∧
 (((isTicket v1 x1 rs1) ∧
 (capTicket x1)) ∧
 (∀ v'74 : Value,
 (∀ rs'75 : (List Row),
 ((isTicket v'74 x1 rs'75) →
 (True ∧
 (((isArray v'47 x0 rs'48) ∧
 ((isTicket v'74 x1 rs'75) ∧
 ((capAx x0) ∧
 (capTicket x1)))) ∧
 (∀ v'76 : Value,
 (∀ rs'77 : (List Row),
 ((isArray v'76 (scA aGGroups aGBanks aGRows aGCols x0 (x1).1 (x1).2 (x1).3 (x1).4 (x1).5 (x1).6 (x1).7) rs'77) →
 (True ∧
 ((b73 = b73 ∧
 (wholeC Bool.true v'76 3)) ∧
 (True ∧
 (Bool.true = Bool.true ∧
 (∀ Q78 : ((List SV) →
 ((List Ch) →
 Prop)),
 ((∀ b79 : Nat,
 (b0 = b0 ∧
 (b1 = b1 ∧
 (((isArray v0 x0 rs0) ∧
 (capAx x0)) ∧
 (∀ v'80 : Value,
 (∀ rs'81 : (List Row),
 ((isArray v'80 x0 rs'81) →
 (b2 = b2 ∧
 (((isTicket v1 x1 rs1) ∧
 (capTicket x1)) ∧
 (∀ v'82 : Value,
 (∀ rs'83 : (List Row),
 ((isTicket v'82 x1 rs'83) →
 (((isArray v'80 x0 rs'81) ∧
 ((isTicket v'82 x1 rs'83) ∧
 ((capAx x0) ∧
 (capTicket x1)))) ∧
 (∀ v'84 : Value,
 (∀ rs'85 : (List Row),
 ((isArray v'84 (scA aGGroups aGBanks aGRows aGCols x0 (x1).1 (x1).2 (x1).3 (x1).4 (x1).5 (x1).6 (x1).7) rs'85) →
 ((b79 = b79 ∧
 (wholeC Bool.true v'84 3)) ∧
 (Q78 [(SV.a (SA.agg [(SC.int aGGroups), (SC.int aGBanks), (SC.int aGRows), (SC.int aGCols)])), (SV.a (SA.c (SC.obj 0 v0))), (SV.a (SA.c (SC.obj 1 v1))), (SV.a (SA.c (SC.ptr 2 b0 0))), (SV.a (SA.c (SC.ptr 3 b1 0))), (SV.a (SA.c (SC.ptr 4 b2 0))), (SV.a (SA.c (SC.lit Bool.false))), (SV.a (SA.c (SC.int z6))), (SV.a (SA.c (SC.ptr 5 b7 0))), (SV.a (SA.c (SC.bool (scOk aGGroups aGBanks aGRows aGCols x0 (x1).1 (x1).2 (x1).3 (x1).4 (x1).5 (x1).6)))), (SV.a (SA.c (SC.ptr 10 b16 0))), (SV.a (SA.c (SC.ptr 12 b19 0))), (SV.a (SA.c (SC.ptr 13 b20 0))), (SV.a (SA.c (SC.bool (scOk aGGroups aGBanks aGRows aGCols x0 (x1).1 (x1).2 (x1).3 (x1).4 (x1).5 (x1).6)))), (SV.a (SA.c (SC.int (endTicket (endArray (1 : Int) x30) x32)))), (SV.a (SA.c (SC.int (endArray (1 : Int) x35)))), (SV.a (SA.c (SC.int (endArray (1 : Int) x37)))), (SV.a (SA.c (SC.ptr 17 b79 0))), (SV.a (SA.c (SC.bool (scOk aGGroups aGBanks aGRows aGCols x0 (x1).1 (x1).2 (x1).3 (x1).4 (x1).5 (x1).6)))), (SV.a (SA.c (SC.obj 0 v0))), (SV.a (SA.c (SC.il (1048576 : Int)))), (SV.a (SA.c (SC.int z4))), (SV.a (SA.c (SC.int z4))), (SV.a (SA.c (SC.lit Bool.false))), (SV.a (SA.c (SC.obj 1 v1))), (SV.a (SA.c (SC.int z4))), (SV.a (SA.c (SC.int z6))), (SV.a (SA.c (SC.int z6))), (SV.a (SA.c (SC.lit Bool.false))), (SV.tup [(SA.c (SC.obj 8 v'12)), (SA.c (SC.bool (scOk aGGroups aGBanks aGRows aGCols x0 (x1).1 (x1).2 (x1).3 (x1).4 (x1).5 (x1).6)))]), (SV.a (SA.agg [(SC.int aGGroups), (SC.int aGBanks), (SC.int aGRows), (SC.int aGCols)])), (SV.a (SA.agg [(SC.int aGGroups), (SC.int aGBanks), (SC.int aGRows), (SC.int aGCols)])), (SV.a (SA.c (SC.obj 0 v0))), (SV.a (SA.c (SC.obj 6 v'8))), (SV.a (SA.c (SC.obj 1 v1))), (SV.a (SA.c (SC.obj 7 v'10))), (SV.tup [(SA.c (SC.obj 8 v'12)), (SA.c (SC.bool (scOk aGGroups aGBanks aGRows aGCols x0 (x1).1 (x1).2 (x1).3 (x1).4 (x1).5 (x1).6)))]), (SV.a (SA.c (SC.obj 8 v'12))), (SV.a (SA.c (SC.bool (scOk aGGroups aGBanks aGRows aGCols x0 (x1).1 (x1).2 (x1).3 (x1).4 (x1).5 (x1).6)))), (SV.a (SA.c (SC.obj 0 v0))), (SV.a (SA.c (SC.obj 9 v'14))), (SV.a (SA.c (SC.obj 1 v1))), (SV.a (SA.c (SC.obj 11 v'17))), (SV.tup [(SA.c (SC.obj 14 v'21)), (SA.c (SC.bool (scOk aGGroups aGBanks aGRows aGCols x0 (x1).1 (x1).2 (x1).3 (x1).4 (x1).5 (x1).6)))]), (SV.a (SA.agg [(SC.int aGGroups), (SC.int aGBanks), (SC.int aGRows), (SC.int aGCols)])), (SV.a (SA.agg [(SC.int aGGroups), (SC.int aGBanks), (SC.int aGRows), (SC.int aGCols)])), (SV.a (SA.c (SC.obj 9 v'14))), (SV.a (SA.c (SC.obj 11 v'17))), (SV.tup [(SA.c (SC.obj 14 v'21)), (SA.c (SC.bool (scOk aGGroups aGBanks aGRows aGCols x0 (x1).1 (x1).2 (x1).3 (x1).4 (x1).5 (x1).6)))]), (SV.a (SA.c (SC.obj 14 v'21))), (SV.a (SA.c (SC.bool (scOk aGGroups aGBanks aGRows aGCols x0 (x1).1 (x1).2 (x1).3 (x1).4 (x1).5 (x1).6)))), (SV.a (SA.c (SC.obj 14 v'21))), (SV.a (SA.c (SC.obj 8 v'12))), (SV.a (SA.c (SC.lit Bool.true))), (SV.a (SA.c (SC.lit Bool.false))), (SV.a (SA.c (SC.lit Bool.false))), (SV.a (SA.c (SC.bool (scOk aGGroups aGBanks aGRows aGCols x0 (x1).1 (x1).2 (x1).3 (x1).4 (x1).5 (x1).6)))), (SV.a (SA.c (SC.bool (scOk aGGroups aGBanks aGRows aGCols x0 (x1).1 (x1).2 (x1).3 (x1).4 (x1).5 (x1).6)))), (SV.a (SA.c (SC.bool ((scOk aGGroups aGBanks aGRows aGCols x0 (x1).1 (x1).2 (x1).3 (x1).4 (x1).5 (x1).6) != (scOk aGGroups aGBanks aGRows aGCols x0 (x1).1 (x1).2 (x1).3 (x1).4 (x1).5 (x1).6))))), (SV.a (SA.c (SC.lit Bool.false))), (SV.a (SA.c (SC.obj 9 v'14))), (SV.a (SA.c (SC.obj 0 v0))), (SV.a (SA.c (SC.obj 15 v'24))), (SV.a (SA.c (SC.lit Bool.true))), (SV.a (SA.c (SC.lit Bool.false))), (SV.a (SA.c (SC.obj 11 v'17))), (SV.a (SA.c (SC.obj 1 v1))), (SV.a (SA.c (SC.obj 16 v'27))), (SV.a (SA.c (SC.lit Bool.true))), (SV.a (SA.c (SC.lit Bool.false))), (SV.a (SA.c (SC.obj 9 v'14))), (SV.a (SA.c (SC.il (1 : Int)))), (SV.a (SA.c (SC.int (endArray (1 : Int) x30)))), (SV.a (SA.c (SC.obj 11 v'17))), (SV.a (SA.c (SC.int (endArray (1 : Int) x30)))), (SV.a (SA.c (SC.int (endTicket (endArray (1 : Int) x30) x32)))), (SV.a (SA.c (SC.int (endTicket (endArray (1 : Int) x30) x32)))), (SV.a (SA.c (SC.bool (decide ((endTicket (endArray (1 : Int) x30) x32) < (0 : Int)))))), (SV.a (SA.c (SC.lit Bool.false))), (SV.a (SA.c (SC.obj 14 v'21))), (SV.a (SA.c (SC.obj 8 v'12))), (SV.a (SA.c (SC.lit Bool.true))), (SV.a (SA.c (SC.lit Bool.false))), (SV.a (SA.c (SC.lit Bool.false))), (SV.a (SA.c (SC.lit Bool.false))), (SV.a (SA.c (SC.bool (scOk aGGroups aGBanks aGRows aGCols x0 (x1).1 (x1).2 (x1).3 (x1).4 (x1).5 (x1).6)))), (SV.a (SA.c (SC.bool (scOk aGGroups aGBanks aGRows aGCols x0 (x1).1 (x1).2 (x1).3 (x1).4 (x1).5 (x1).6)))), (SV.a (SA.c (SC.bool ((scOk aGGroups aGBanks aGRows aGCols x0 (x1).1 (x1).2 (x1).3 (x1).4 (x1).5 (x1).6) != (scOk aGGroups aGBanks aGRows aGCols x0 (x1).1 (x1).2 (x1).3 (x1).4 (x1).5 (x1).6))))), (SV.a (SA.c (SC.lit Bool.false))), (SV.a (SA.c (SC.obj 14 v'21))), (SV.a (SA.c (SC.il (1 : Int)))), (SV.a (SA.c (SC.int (endArray (1 : Int) x35)))), (SV.a (SA.c (SC.obj 14 v'21))), (SV.a (SA.c (SC.il (1 : Int)))), (SV.a (SA.c (SC.int (endArray (1 : Int) x37)))), (SV.a (SA.c (SC.int (endArray (1 : Int) x37)))), (SV.a (SA.c (SC.lit Bool.false))), (SV.a (SA.c (SC.int (endArray (1 : Int) x37)))), (SV.a (SA.c (SC.int (endArray (1 : Int) x35)))), (SV.a (SA.c (SC.lit Bool.false))), (SV.tup [(SA.c (SC.obj 20 v'84)), (SA.c (SC.bool (scOk aGGroups aGBanks aGRows aGCols x0 (x1).1 (x1).2 (x1).3 (x1).4 (x1).5 (x1).6)))]), (SV.a (SA.agg [(SC.int aGGroups), (SC.int aGBanks), (SC.int aGRows), (SC.int aGCols)])), (SV.a (SA.agg [(SC.int aGGroups), (SC.int aGBanks), (SC.int aGRows), (SC.int aGCols)])), (SV.a (SA.c (SC.obj 0 v0))), (SV.a (SA.c (SC.obj 18 v'80))), (SV.a (SA.c (SC.obj 1 v1))), (SV.a (SA.c (SC.obj 19 v'82))), (SV.tup [(SA.c (SC.obj 20 v'84)), (SA.c (SC.bool (scOk aGGroups aGBanks aGRows aGCols x0 (x1).1 (x1).2 (x1).3 (x1).4 (x1).5 (x1).6)))]), (SV.a (SA.c (SC.obj 20 v'84))), (SV.a (SA.c (SC.bool (scOk aGGroups aGBanks aGRows aGCols x0 (x1).1 (x1).2 (x1).3 (x1).4 (x1).5 (x1).6)))), SV.undef, SV.undef, SV.undef, SV.undef, SV.undef, SV.undef, SV.undef, SV.undef, SV.undef, SV.undef, SV.undef, SV.undef, SV.undef, SV.undef, SV.undef, SV.undef, SV.undef] [(Ch.obj Bool.false rs0), (Ch.obj Bool.false rs1), (Ch.cells b0 23 [(SC.int aGGroups), (SC.int aGBanks), (SC.int aGRows), (SC.int aGCols)]), (Ch.whole b1 27 Bool.true 3 (SC.obj 0 v0)), (Ch.whole b2 48 Bool.true 6 (SC.obj 1 v1)), (Ch.whole b7 33 Bool.true 3 (SC.obj 8 v'12)), (Ch.obj Bool.true rs'9), (Ch.obj Bool.true rs'11), (Ch.obj Bool.true rs'13), (Ch.obj Bool.true rs'31), (Ch.whole b16 33 Bool.true 3 (SC.obj 9 v'14)), (Ch.obj Bool.true rs'33), (Ch.whole b19 54 Bool.true 6 (SC.obj 11 v'17)), (Ch.whole b20 33 Bool.true 3 (SC.obj 14 v'21)), (Ch.obj Bool.true rs'36), (Ch.obj Bool.true rs'25), (Ch.obj Bool.true rs'28), (Ch.whole b79 33 Bool.true 3 (SC.obj 20 v'84)), (Ch.obj Bool.true rs'81), (Ch.obj Bool.true rs'83), (Ch.obj Bool.true rs'85)])))))))))))))))))) →
 (Q78 [(SV.a (SA.agg [(SC.int aGGroups), (SC.int aGBanks), (SC.int aGRows), (SC.int aGCols)])), (SV.a (SA.c (SC.obj 0 v0))), (SV.a (SA.c (SC.obj 1 v1))), (SV.a (SA.c (SC.ptr 2 b0 0))), (SV.a (SA.c (SC.ptr 3 b1 0))), (SV.a (SA.c (SC.ptr 4 b2 0))), (SV.a (SA.c (SC.lit Bool.false))), (SV.a (SA.c (SC.int z6))), (SV.a (SA.c (SC.ptr 5 b7 0))), (SV.a (SA.c (SC.bool (scOk aGGroups aGBanks aGRows aGCols x0 (x1).1 (x1).2 (x1).3 (x1).4 (x1).5 (x1).6)))), (SV.a (SA.c (SC.ptr 10 b16 0))), (SV.a (SA.c (SC.ptr 12 b19 0))), (SV.a (SA.c (SC.ptr 13 b20 0))), (SV.a (SA.c (SC.bool (scOk aGGroups aGBanks aGRows aGCols x0 (x1).1 (x1).2 (x1).3 (x1).4 (x1).5 (x1).6)))), (SV.a (SA.c (SC.int (endTicket (endArray (1 : Int) x30) x32)))), (SV.a (SA.c (SC.int (endArray (1 : Int) x35)))), (SV.a (SA.c (SC.int (endArray (1 : Int) x37)))), (SV.a (SA.c (SC.ptr 17 b73 0))), (SV.a (SA.c (SC.bool (scOk aGGroups aGBanks aGRows aGCols x0 (x1).1 (x1).2 (x1).3 (x1).4 (x1).5 (x1).6)))), (SV.a (SA.c (SC.obj 0 v0))), (SV.a (SA.c (SC.il (1048576 : Int)))), (SV.a (SA.c (SC.int z4))), (SV.a (SA.c (SC.int z4))), (SV.a (SA.c (SC.lit Bool.false))), (SV.a (SA.c (SC.obj 1 v1))), (SV.a (SA.c (SC.int z4))), (SV.a (SA.c (SC.int z6))), (SV.a (SA.c (SC.int z6))), (SV.a (SA.c (SC.lit Bool.false))), (SV.tup [(SA.c (SC.obj 8 v'12)), (SA.c (SC.bool (scOk aGGroups aGBanks aGRows aGCols x0 (x1).1 (x1).2 (x1).3 (x1).4 (x1).5 (x1).6)))]), (SV.a (SA.agg [(SC.int aGGroups), (SC.int aGBanks), (SC.int aGRows), (SC.int aGCols)])), (SV.a (SA.agg [(SC.int aGGroups), (SC.int aGBanks), (SC.int aGRows), (SC.int aGCols)])), (SV.a (SA.c (SC.obj 0 v0))), (SV.a (SA.c (SC.obj 6 v'8))), (SV.a (SA.c (SC.obj 1 v1))), (SV.a (SA.c (SC.obj 7 v'10))), (SV.tup [(SA.c (SC.obj 8 v'12)), (SA.c (SC.bool (scOk aGGroups aGBanks aGRows aGCols x0 (x1).1 (x1).2 (x1).3 (x1).4 (x1).5 (x1).6)))]), (SV.a (SA.c (SC.obj 8 v'12))), (SV.a (SA.c (SC.bool (scOk aGGroups aGBanks aGRows aGCols x0 (x1).1 (x1).2 (x1).3 (x1).4 (x1).5 (x1).6)))), (SV.a (SA.c (SC.obj 0 v0))), (SV.a (SA.c (SC.obj 9 v'14))), (SV.a (SA.c (SC.obj 1 v1))), (SV.a (SA.c (SC.obj 11 v'17))), (SV.tup [(SA.c (SC.obj 14 v'21)), (SA.c (SC.bool (scOk aGGroups aGBanks aGRows aGCols x0 (x1).1 (x1).2 (x1).3 (x1).4 (x1).5 (x1).6)))]), (SV.a (SA.agg [(SC.int aGGroups), (SC.int aGBanks), (SC.int aGRows), (SC.int aGCols)])), (SV.a (SA.agg [(SC.int aGGroups), (SC.int aGBanks), (SC.int aGRows), (SC.int aGCols)])), (SV.a (SA.c (SC.obj 9 v'14))), (SV.a (SA.c (SC.obj 11 v'17))), (SV.tup [(SA.c (SC.obj 14 v'21)), (SA.c (SC.bool (scOk aGGroups aGBanks aGRows aGCols x0 (x1).1 (x1).2 (x1).3 (x1).4 (x1).5 (x1).6)))]), (SV.a (SA.c (SC.obj 14 v'21))), (SV.a (SA.c (SC.bool (scOk aGGroups aGBanks aGRows aGCols x0 (x1).1 (x1).2 (x1).3 (x1).4 (x1).5 (x1).6)))), (SV.a (SA.c (SC.obj 14 v'21))), (SV.a (SA.c (SC.obj 8 v'12))), (SV.a (SA.c (SC.lit Bool.true))), (SV.a (SA.c (SC.lit Bool.false))), (SV.a (SA.c (SC.lit Bool.false))), (SV.a (SA.c (SC.bool (scOk aGGroups aGBanks aGRows aGCols x0 (x1).1 (x1).2 (x1).3 (x1).4 (x1).5 (x1).6)))), (SV.a (SA.c (SC.bool (scOk aGGroups aGBanks aGRows aGCols x0 (x1).1 (x1).2 (x1).3 (x1).4 (x1).5 (x1).6)))), (SV.a (SA.c (SC.bool ((scOk aGGroups aGBanks aGRows aGCols x0 (x1).1 (x1).2 (x1).3 (x1).4 (x1).5 (x1).6) != (scOk aGGroups aGBanks aGRows aGCols x0 (x1).1 (x1).2 (x1).3 (x1).4 (x1).5 (x1).6))))), (SV.a (SA.c (SC.lit Bool.false))), (SV.a (SA.c (SC.obj 9 v'14))), (SV.a (SA.c (SC.obj 0 v0))), (SV.a (SA.c (SC.obj 15 v'24))), (SV.a (SA.c (SC.lit Bool.true))), (SV.a (SA.c (SC.lit Bool.false))), (SV.a (SA.c (SC.obj 11 v'17))), (SV.a (SA.c (SC.obj 1 v1))), (SV.a (SA.c (SC.obj 16 v'27))), (SV.a (SA.c (SC.lit Bool.true))), (SV.a (SA.c (SC.lit Bool.false))), (SV.a (SA.c (SC.obj 9 v'14))), (SV.a (SA.c (SC.il (1 : Int)))), (SV.a (SA.c (SC.int (endArray (1 : Int) x30)))), (SV.a (SA.c (SC.obj 11 v'17))), (SV.a (SA.c (SC.int (endArray (1 : Int) x30)))), (SV.a (SA.c (SC.int (endTicket (endArray (1 : Int) x30) x32)))), (SV.a (SA.c (SC.int (endTicket (endArray (1 : Int) x30) x32)))), (SV.a (SA.c (SC.bool (decide ((endTicket (endArray (1 : Int) x30) x32) < (0 : Int)))))), (SV.a (SA.c (SC.lit Bool.false))), (SV.a (SA.c (SC.obj 14 v'21))), (SV.a (SA.c (SC.obj 8 v'12))), (SV.a (SA.c (SC.lit Bool.true))), (SV.a (SA.c (SC.lit Bool.false))), (SV.a (SA.c (SC.lit Bool.false))), (SV.a (SA.c (SC.lit Bool.false))), (SV.a (SA.c (SC.bool (scOk aGGroups aGBanks aGRows aGCols x0 (x1).1 (x1).2 (x1).3 (x1).4 (x1).5 (x1).6)))), (SV.a (SA.c (SC.bool (scOk aGGroups aGBanks aGRows aGCols x0 (x1).1 (x1).2 (x1).3 (x1).4 (x1).5 (x1).6)))), (SV.a (SA.c (SC.bool ((scOk aGGroups aGBanks aGRows aGCols x0 (x1).1 (x1).2 (x1).3 (x1).4 (x1).5 (x1).6) != (scOk aGGroups aGBanks aGRows aGCols x0 (x1).1 (x1).2 (x1).3 (x1).4 (x1).5 (x1).6))))), (SV.a (SA.c (SC.lit Bool.false))), (SV.a (SA.c (SC.obj 14 v'21))), (SV.a (SA.c (SC.il (1 : Int)))), (SV.a (SA.c (SC.int (endArray (1 : Int) x35)))), (SV.a (SA.c (SC.obj 14 v'21))), (SV.a (SA.c (SC.il (1 : Int)))), (SV.a (SA.c (SC.int (endArray (1 : Int) x37)))), (SV.a (SA.c (SC.int (endArray (1 : Int) x37)))), (SV.a (SA.c (SC.lit Bool.false))), (SV.a (SA.c (SC.int (endArray (1 : Int) x37)))), (SV.a (SA.c (SC.int (endArray (1 : Int) x35)))), (SV.a (SA.c (SC.lit Bool.false))), (SV.tup [(SA.c (SC.obj 20 v'76)), (SA.c (SC.bool (scOk aGGroups aGBanks aGRows aGCols x0 (x1).1 (x1).2 (x1).3 (x1).4 (x1).5 (x1).6)))]), (SV.a (SA.agg [(SC.int aGGroups), (SC.int aGBanks), (SC.int aGRows), (SC.int aGCols)])), (SV.a (SA.agg [(SC.int aGGroups), (SC.int aGBanks), (SC.int aGRows), (SC.int aGCols)])), (SV.a (SA.c (SC.obj 0 v0))), (SV.a (SA.c (SC.obj 18 v'47))), (SV.a (SA.c (SC.obj 1 v1))), (SV.a (SA.c (SC.obj 19 v'74))), (SV.tup [(SA.c (SC.obj 20 v'76)), (SA.c (SC.bool (scOk aGGroups aGBanks aGRows aGCols x0 (x1).1 (x1).2 (x1).3 (x1).4 (x1).5 (x1).6)))]), (SV.a (SA.c (SC.obj 20 v'76))), (SV.a (SA.c (SC.bool (scOk aGGroups aGBanks aGRows aGCols x0 (x1).1 (x1).2 (x1).3 (x1).4 (x1).5 (x1).6)))), SV.undef, SV.undef, SV.undef, SV.undef, SV.undef, SV.undef, SV.undef, SV.undef, SV.undef, SV.undef, SV.undef, SV.undef, SV.undef, SV.undef, SV.undef, SV.undef, SV.undef] [(Ch.obj Bool.false rs0), (Ch.obj Bool.false rs1), (Ch.cells b0 23 [(SC.int aGGroups), (SC.int aGBanks), (SC.int aGRows), (SC.int aGCols)]), (Ch.whole b1 27 Bool.true 3 (SC.obj 0 v0)), (Ch.whole b2 48 Bool.true 6 (SC.obj 1 v1)), (Ch.whole b7 33 Bool.true 3 (SC.obj 8 v'12)), (Ch.obj Bool.true rs'9), (Ch.obj Bool.true rs'11), (Ch.obj Bool.true rs'13), (Ch.obj Bool.true rs'31), (Ch.whole b16 33 Bool.true 3 (SC.obj 9 v'14)), (Ch.obj Bool.true rs'33), (Ch.whole b19 54 Bool.true 6 (SC.obj 11 v'17)), (Ch.whole b20 33 Bool.true 3 (SC.obj 14 v'21)), (Ch.obj Bool.true rs'36), (Ch.obj Bool.true rs'25), (Ch.obj Bool.true rs'28), (Ch.whole b73 33 Bool.true 3 (SC.obj 20 v'76)), (Ch.obj Bool.true rs'48), (Ch.obj Bool.true rs'75), (Ch.obj Bool.true rs'77)])))))))))))))))))))))))) ∧
 (∀ b86 : Nat,
 (True ∧
 (((isArray v0 x0 rs0) ∧
 (capAx x0)) ∧
 (∀ v'87 : Value,
 (∀ rs'88 : (List Row),
 ((isArray v'87 x0 rs'88) →
 (True ∧
 (((isTicket v1 x1 rs1) ∧
 (capTicket x1)) ∧
 (∀ v'89 : Value,
 (∀ rs'90 : (List Row),
 ((isTicket v'89 x1 rs'90) →
 (True ∧
 (((isArray v'87 x0 rs'88) ∧
 ((isTicket v'89 x1 rs'90) ∧
 ((capAx x0) ∧
 (capTicket x1)))) ∧
 (∀ v'91 : Value,
 (∀ rs'92 : (List Row),
 ((isArray v'91 (scA aGGroups aGBanks aGRows aGCols x0 (x1).1 (x1).2 (x1).3 (x1).4 (x1).5 (x1).6 (x1).7) rs'92) →
 (True ∧
 ((b86 = b86 ∧
 (wholeC Bool.true v'91 3)) ∧
 (True ∧
 (Bool.true = Bool.true ∧
 (∀ Q93 : ((List SV) →
 ((List Ch) →
 Prop)),
 ((∀ b94 : Nat,
 (b0 = b0 ∧
 (b1 = b1 ∧
 (((isArray v0 x0 rs0) ∧
 (capAx x0)) ∧
 (∀ v'95 : Value,
 (∀ rs'96 : (List Row),
 ((isArray v'95 x0 rs'96) →
 (b2 = b2 ∧
 (((isTicket v1 x1 rs1) ∧
 (capTicket x1)) ∧
 (∀ v'97 : Value,
 (∀ rs'98 : (List Row),
 ((isTicket v'97 x1 rs'98) →
 (((isArray v'95 x0 rs'96) ∧
 ((isTicket v'97 x1 rs'98) ∧
 ((capAx x0) ∧
 (capTicket x1)))) ∧
 (∀ v'99 : Value,
 (∀ rs'100 : (List Row),
 ((isArray v'99 (scA aGGroups aGBanks aGRows aGCols x0 (x1).1 (x1).2 (x1).3 (x1).4 (x1).5 (x1).6 (x1).7) rs'100) →
 ((b94 = b94 ∧
 (wholeC Bool.true v'99 3)) ∧
 (Q93 [(SV.a (SA.agg [(SC.int aGGroups), (SC.int aGBanks), (SC.int aGRows), (SC.int aGCols)])), (SV.a (SA.c (SC.obj 0 v0))), (SV.a (SA.c (SC.obj 1 v1))), (SV.a (SA.c (SC.ptr 2 b0 0))), (SV.a (SA.c (SC.ptr 3 b1 0))), (SV.a (SA.c (SC.ptr 4 b2 0))), (SV.a (SA.c (SC.lit Bool.false))), (SV.a (SA.c (SC.int z6))), (SV.a (SA.c (SC.ptr 5 b7 0))), (SV.a (SA.c (SC.bool (scOk aGGroups aGBanks aGRows aGCols x0 (x1).1 (x1).2 (x1).3 (x1).4 (x1).5 (x1).6)))), (SV.a (SA.c (SC.ptr 10 b16 0))), (SV.a (SA.c (SC.ptr 12 b19 0))), (SV.a (SA.c (SC.ptr 13 b20 0))), (SV.a (SA.c (SC.bool (scOk aGGroups aGBanks aGRows aGCols x0 (x1).1 (x1).2 (x1).3 (x1).4 (x1).5 (x1).6)))), (SV.a (SA.c (SC.int (endTicket (endArray (1 : Int) x30) x32)))), (SV.a (SA.c (SC.int (endArray (1 : Int) x35)))), (SV.a (SA.c (SC.int (endArray (1 : Int) x37)))), (SV.a (SA.c (SC.ptr 17 b94 0))), (SV.a (SA.c (SC.bool (scOk aGGroups aGBanks aGRows aGCols x0 (x1).1 (x1).2 (x1).3 (x1).4 (x1).5 (x1).6)))), (SV.a (SA.c (SC.obj 0 v0))), (SV.a (SA.c (SC.il (1048576 : Int)))), (SV.a (SA.c (SC.int z4))), (SV.a (SA.c (SC.int z4))), (SV.a (SA.c (SC.lit Bool.false))), (SV.a (SA.c (SC.obj 1 v1))), (SV.a (SA.c (SC.int z4))), (SV.a (SA.c (SC.int z6))), (SV.a (SA.c (SC.int z6))), (SV.a (SA.c (SC.lit Bool.false))), (SV.tup [(SA.c (SC.obj 8 v'12)), (SA.c (SC.bool (scOk aGGroups aGBanks aGRows aGCols x0 (x1).1 (x1).2 (x1).3 (x1).4 (x1).5 (x1).6)))]), (SV.a (SA.agg [(SC.int aGGroups), (SC.int aGBanks), (SC.int aGRows), (SC.int aGCols)])), (SV.a (SA.agg [(SC.int aGGroups), (SC.int aGBanks), (SC.int aGRows), (SC.int aGCols)])), (SV.a (SA.c (SC.obj 0 v0))), (SV.a (SA.c (SC.obj 6 v'8))), (SV.a (SA.c (SC.obj 1 v1))), (SV.a (SA.c (SC.obj 7 v'10))), (SV.tup [(SA.c (SC.obj 8 v'12)), (SA.c (SC.bool (scOk aGGroups aGBanks aGRows aGCols x0 (x1).1 (x1).2 (x1).3 (x1).4 (x1).5 (x1).6)))]), (SV.a (SA.c (SC.obj 8 v'12))), (SV.a (SA.c (SC.bool (scOk aGGroups aGBanks aGRows aGCols x0 (x1).1 (x1).2 (x1).3 (x1).4 (x1).5 (x1).6)))), (SV.a (SA.c (SC.obj 0 v0))), (SV.a (SA.c (SC.obj 9 v'14))), (SV.a (SA.c (SC.obj 1 v1))), (SV.a (SA.c (SC.obj 11 v'17))), (SV.tup [(SA.c (SC.obj 14 v'21)), (SA.c (SC.bool (scOk aGGroups aGBanks aGRows aGCols x0 (x1).1 (x1).2 (x1).3 (x1).4 (x1).5 (x1).6)))]), (SV.a (SA.agg [(SC.int aGGroups), (SC.int aGBanks), (SC.int aGRows), (SC.int aGCols)])), (SV.a (SA.agg [(SC.int aGGroups), (SC.int aGBanks), (SC.int aGRows), (SC.int aGCols)])), (SV.a (SA.c (SC.obj 9 v'14))), (SV.a (SA.c (SC.obj 11 v'17))), (SV.tup [(SA.c (SC.obj 14 v'21)), (SA.c (SC.bool (scOk aGGroups aGBanks aGRows aGCols x0 (x1).1 (x1).2 (x1).3 (x1).4 (x1).5 (x1).6)))]), (SV.a (SA.c (SC.obj 14 v'21))), (SV.a (SA.c (SC.bool (scOk aGGroups aGBanks aGRows aGCols x0 (x1).1 (x1).2 (x1).3 (x1).4 (x1).5 (x1).6)))), (SV.a (SA.c (SC.obj 14 v'21))), (SV.a (SA.c (SC.obj 8 v'12))), (SV.a (SA.c (SC.lit Bool.true))), (SV.a (SA.c (SC.lit Bool.false))), (SV.a (SA.c (SC.lit Bool.false))), (SV.a (SA.c (SC.bool (scOk aGGroups aGBanks aGRows aGCols x0 (x1).1 (x1).2 (x1).3 (x1).4 (x1).5 (x1).6)))), (SV.a (SA.c (SC.bool (scOk aGGroups aGBanks aGRows aGCols x0 (x1).1 (x1).2 (x1).3 (x1).4 (x1).5 (x1).6)))), (SV.a (SA.c (SC.bool ((scOk aGGroups aGBanks aGRows aGCols x0 (x1).1 (x1).2 (x1).3 (x1).4 (x1).5 (x1).6) != (scOk aGGroups aGBanks aGRows aGCols x0 (x1).1 (x1).2 (x1).3 (x1).4 (x1).5 (x1).6))))), (SV.a (SA.c (SC.lit Bool.false))), (SV.a (SA.c (SC.obj 9 v'14))), (SV.a (SA.c (SC.obj 0 v0))), (SV.a (SA.c (SC.obj 15 v'24))), (SV.a (SA.c (SC.lit Bool.true))), (SV.a (SA.c (SC.lit Bool.false))), (SV.a (SA.c (SC.obj 11 v'17))), (SV.a (SA.c (SC.obj 1 v1))), (SV.a (SA.c (SC.obj 16 v'27))), (SV.a (SA.c (SC.lit Bool.true))), (SV.a (SA.c (SC.lit Bool.false))), (SV.a (SA.c (SC.obj 9 v'14))), (SV.a (SA.c (SC.il (1 : Int)))), (SV.a (SA.c (SC.int (endArray (1 : Int) x30)))), (SV.a (SA.c (SC.obj 11 v'17))), (SV.a (SA.c (SC.int (endArray (1 : Int) x30)))), (SV.a (SA.c (SC.int (endTicket (endArray (1 : Int) x30) x32)))), (SV.a (SA.c (SC.int (endTicket (endArray (1 : Int) x30) x32)))), (SV.a (SA.c (SC.bool (decide ((endTicket (endArray (1 : Int) x30) x32) < (0 : Int)))))), (SV.a (SA.c (SC.lit Bool.false))), (SV.a (SA.c (SC.obj 14 v'21))), (SV.a (SA.c (SC.obj 8 v'12))), (SV.a (SA.c (SC.lit Bool.true))), (SV.a (SA.c (SC.lit Bool.false))), (SV.a (SA.c (SC.lit Bool.false))), (SV.a (SA.c (SC.lit Bool.false))), (SV.a (SA.c (SC.bool (scOk aGGroups aGBanks aGRows aGCols x0 (x1).1 (x1).2 (x1).3 (x1).4 (x1).5 (x1).6)))), (SV.a (SA.c (SC.bool (scOk aGGroups aGBanks aGRows aGCols x0 (x1).1 (x1).2 (x1).3 (x1).4 (x1).5 (x1).6)))), (SV.a (SA.c (SC.bool ((scOk aGGroups aGBanks aGRows aGCols x0 (x1).1 (x1).2 (x1).3 (x1).4 (x1).5 (x1).6) != (scOk aGGroups aGBanks aGRows aGCols x0 (x1).1 (x1).2 (x1).3 (x1).4 (x1).5 (x1).6))))), (SV.a (SA.c (SC.lit Bool.false))), (SV.a (SA.c (SC.obj 14 v'21))), (SV.a (SA.c (SC.il (1 : Int)))), (SV.a (SA.c (SC.int (endArray (1 : Int) x35)))), (SV.a (SA.c (SC.obj 14 v'21))), (SV.a (SA.c (SC.il (1 : Int)))), (SV.a (SA.c (SC.int (endArray (1 : Int) x37)))), (SV.a (SA.c (SC.int (endArray (1 : Int) x37)))), (SV.a (SA.c (SC.lit Bool.false))), (SV.a (SA.c (SC.int (endArray (1 : Int) x37)))), (SV.a (SA.c (SC.int (endArray (1 : Int) x35)))), (SV.a (SA.c (SC.lit Bool.false))), (SV.tup [(SA.c (SC.obj 20 v'99)), (SA.c (SC.bool (scOk aGGroups aGBanks aGRows aGCols x0 (x1).1 (x1).2 (x1).3 (x1).4 (x1).5 (x1).6)))]), (SV.a (SA.agg [(SC.int aGGroups), (SC.int aGBanks), (SC.int aGRows), (SC.int aGCols)])), (SV.a (SA.agg [(SC.int aGGroups), (SC.int aGBanks), (SC.int aGRows), (SC.int aGCols)])), (SV.a (SA.c (SC.obj 0 v0))), (SV.a (SA.c (SC.obj 18 v'95))), (SV.a (SA.c (SC.obj 1 v1))), (SV.a (SA.c (SC.obj 19 v'97))), (SV.tup [(SA.c (SC.obj 20 v'99)), (SA.c (SC.bool (scOk aGGroups aGBanks aGRows aGCols x0 (x1).1 (x1).2 (x1).3 (x1).4 (x1).5 (x1).6)))]), (SV.a (SA.c (SC.obj 20 v'99))), (SV.a (SA.c (SC.bool (scOk aGGroups aGBanks aGRows aGCols x0 (x1).1 (x1).2 (x1).3 (x1).4 (x1).5 (x1).6)))), SV.undef, SV.undef, SV.undef, SV.undef, SV.undef, SV.undef, SV.undef, SV.undef, SV.undef, SV.undef, SV.undef, SV.undef, SV.undef, SV.undef, SV.undef, SV.undef, SV.undef] [(Ch.obj Bool.false rs0), (Ch.obj Bool.false rs1), (Ch.cells b0 23 [(SC.int aGGroups), (SC.int aGBanks), (SC.int aGRows), (SC.int aGCols)]), (Ch.whole b1 27 Bool.true 3 (SC.obj 0 v0)), (Ch.whole b2 48 Bool.true 6 (SC.obj 1 v1)), (Ch.whole b7 33 Bool.true 3 (SC.obj 8 v'12)), (Ch.obj Bool.true rs'9), (Ch.obj Bool.true rs'11), (Ch.obj Bool.true rs'13), (Ch.obj Bool.true rs'31), (Ch.whole b16 33 Bool.true 3 (SC.obj 9 v'14)), (Ch.obj Bool.true rs'33), (Ch.whole b19 54 Bool.true 6 (SC.obj 11 v'17)), (Ch.whole b20 33 Bool.true 3 (SC.obj 14 v'21)), (Ch.obj Bool.true rs'36), (Ch.obj Bool.true rs'25), (Ch.obj Bool.true rs'28), (Ch.whole b94 33 Bool.true 3 (SC.obj 20 v'99)), (Ch.obj Bool.true rs'96), (Ch.obj Bool.true rs'98), (Ch.obj Bool.true rs'100)])))))))))))))))))) →
 (Q93 [(SV.a (SA.agg [(SC.int aGGroups), (SC.int aGBanks), (SC.int aGRows), (SC.int aGCols)])), (SV.a (SA.c (SC.obj 0 v0))), (SV.a (SA.c (SC.obj 1 v1))), (SV.a (SA.c (SC.ptr 2 b0 0))), (SV.a (SA.c (SC.ptr 3 b1 0))), (SV.a (SA.c (SC.ptr 4 b2 0))), (SV.a (SA.c (SC.lit Bool.false))), (SV.a (SA.c (SC.int z6))), (SV.a (SA.c (SC.ptr 5 b7 0))), (SV.a (SA.c (SC.bool (scOk aGGroups aGBanks aGRows aGCols x0 (x1).1 (x1).2 (x1).3 (x1).4 (x1).5 (x1).6)))), (SV.a (SA.c (SC.ptr 10 b16 0))), (SV.a (SA.c (SC.ptr 12 b19 0))), (SV.a (SA.c (SC.ptr 13 b20 0))), (SV.a (SA.c (SC.bool (scOk aGGroups aGBanks aGRows aGCols x0 (x1).1 (x1).2 (x1).3 (x1).4 (x1).5 (x1).6)))), (SV.a (SA.c (SC.int (endTicket (endArray (1 : Int) x30) x32)))), (SV.a (SA.c (SC.int (endArray (1 : Int) x35)))), (SV.a (SA.c (SC.int (endArray (1 : Int) x37)))), (SV.a (SA.c (SC.ptr 17 b86 0))), (SV.a (SA.c (SC.bool (scOk aGGroups aGBanks aGRows aGCols x0 (x1).1 (x1).2 (x1).3 (x1).4 (x1).5 (x1).6)))), (SV.a (SA.c (SC.obj 0 v0))), (SV.a (SA.c (SC.il (1048576 : Int)))), (SV.a (SA.c (SC.int z4))), (SV.a (SA.c (SC.int z4))), (SV.a (SA.c (SC.lit Bool.false))), (SV.a (SA.c (SC.obj 1 v1))), (SV.a (SA.c (SC.int z4))), (SV.a (SA.c (SC.int z6))), (SV.a (SA.c (SC.int z6))), (SV.a (SA.c (SC.lit Bool.false))), (SV.tup [(SA.c (SC.obj 8 v'12)), (SA.c (SC.bool (scOk aGGroups aGBanks aGRows aGCols x0 (x1).1 (x1).2 (x1).3 (x1).4 (x1).5 (x1).6)))]), (SV.a (SA.agg [(SC.int aGGroups), (SC.int aGBanks), (SC.int aGRows), (SC.int aGCols)])), (SV.a (SA.agg [(SC.int aGGroups), (SC.int aGBanks), (SC.int aGRows), (SC.int aGCols)])), (SV.a (SA.c (SC.obj 0 v0))), (SV.a (SA.c (SC.obj 6 v'8))), (SV.a (SA.c (SC.obj 1 v1))), (SV.a (SA.c (SC.obj 7 v'10))), (SV.tup [(SA.c (SC.obj 8 v'12)), (SA.c (SC.bool (scOk aGGroups aGBanks aGRows aGCols x0 (x1).1 (x1).2 (x1).3 (x1).4 (x1).5 (x1).6)))]), (SV.a (SA.c (SC.obj 8 v'12))), (SV.a (SA.c (SC.bool (scOk aGGroups aGBanks aGRows aGCols x0 (x1).1 (x1).2 (x1).3 (x1).4 (x1).5 (x1).6)))), (SV.a (SA.c (SC.obj 0 v0))), (SV.a (SA.c (SC.obj 9 v'14))), (SV.a (SA.c (SC.obj 1 v1))), (SV.a (SA.c (SC.obj 11 v'17))), (SV.tup [(SA.c (SC.obj 14 v'21)), (SA.c (SC.bool (scOk aGGroups aGBanks aGRows aGCols x0 (x1).1 (x1).2 (x1).3 (x1).4 (x1).5 (x1).6)))]), (SV.a (SA.agg [(SC.int aGGroups), (SC.int aGBanks), (SC.int aGRows), (SC.int aGCols)])), (SV.a (SA.agg [(SC.int aGGroups), (SC.int aGBanks), (SC.int aGRows), (SC.int aGCols)])), (SV.a (SA.c (SC.obj 9 v'14))), (SV.a (SA.c (SC.obj 11 v'17))), (SV.tup [(SA.c (SC.obj 14 v'21)), (SA.c (SC.bool (scOk aGGroups aGBanks aGRows aGCols x0 (x1).1 (x1).2 (x1).3 (x1).4 (x1).5 (x1).6)))]), (SV.a (SA.c (SC.obj 14 v'21))), (SV.a (SA.c (SC.bool (scOk aGGroups aGBanks aGRows aGCols x0 (x1).1 (x1).2 (x1).3 (x1).4 (x1).5 (x1).6)))), (SV.a (SA.c (SC.obj 14 v'21))), (SV.a (SA.c (SC.obj 8 v'12))), (SV.a (SA.c (SC.lit Bool.true))), (SV.a (SA.c (SC.lit Bool.false))), (SV.a (SA.c (SC.lit Bool.false))), (SV.a (SA.c (SC.bool (scOk aGGroups aGBanks aGRows aGCols x0 (x1).1 (x1).2 (x1).3 (x1).4 (x1).5 (x1).6)))), (SV.a (SA.c (SC.bool (scOk aGGroups aGBanks aGRows aGCols x0 (x1).1 (x1).2 (x1).3 (x1).4 (x1).5 (x1).6)))), (SV.a (SA.c (SC.bool ((scOk aGGroups aGBanks aGRows aGCols x0 (x1).1 (x1).2 (x1).3 (x1).4 (x1).5 (x1).6) != (scOk aGGroups aGBanks aGRows aGCols x0 (x1).1 (x1).2 (x1).3 (x1).4 (x1).5 (x1).6))))), (SV.a (SA.c (SC.lit Bool.false))), (SV.a (SA.c (SC.obj 9 v'14))), (SV.a (SA.c (SC.obj 0 v0))), (SV.a (SA.c (SC.obj 15 v'24))), (SV.a (SA.c (SC.lit Bool.true))), (SV.a (SA.c (SC.lit Bool.false))), (SV.a (SA.c (SC.obj 11 v'17))), (SV.a (SA.c (SC.obj 1 v1))), (SV.a (SA.c (SC.obj 16 v'27))), (SV.a (SA.c (SC.lit Bool.true))), (SV.a (SA.c (SC.lit Bool.false))), (SV.a (SA.c (SC.obj 9 v'14))), (SV.a (SA.c (SC.il (1 : Int)))), (SV.a (SA.c (SC.int (endArray (1 : Int) x30)))), (SV.a (SA.c (SC.obj 11 v'17))), (SV.a (SA.c (SC.int (endArray (1 : Int) x30)))), (SV.a (SA.c (SC.int (endTicket (endArray (1 : Int) x30) x32)))), (SV.a (SA.c (SC.int (endTicket (endArray (1 : Int) x30) x32)))), (SV.a (SA.c (SC.bool (decide ((endTicket (endArray (1 : Int) x30) x32) < (0 : Int)))))), (SV.a (SA.c (SC.lit Bool.false))), (SV.a (SA.c (SC.obj 14 v'21))), (SV.a (SA.c (SC.obj 8 v'12))), (SV.a (SA.c (SC.lit Bool.true))), (SV.a (SA.c (SC.lit Bool.false))), (SV.a (SA.c (SC.lit Bool.false))), (SV.a (SA.c (SC.lit Bool.false))), (SV.a (SA.c (SC.bool (scOk aGGroups aGBanks aGRows aGCols x0 (x1).1 (x1).2 (x1).3 (x1).4 (x1).5 (x1).6)))), (SV.a (SA.c (SC.bool (scOk aGGroups aGBanks aGRows aGCols x0 (x1).1 (x1).2 (x1).3 (x1).4 (x1).5 (x1).6)))), (SV.a (SA.c (SC.bool ((scOk aGGroups aGBanks aGRows aGCols x0 (x1).1 (x1).2 (x1).3 (x1).4 (x1).5 (x1).6) != (scOk aGGroups aGBanks aGRows aGCols x0 (x1).1 (x1).2 (x1).3 (x1).4 (x1).5 (x1).6))))), (SV.a (SA.c (SC.lit Bool.false))), (SV.a (SA.c (SC.obj 14 v'21))), (SV.a (SA.c (SC.il (1 : Int)))), (SV.a (SA.c (SC.int (endArray (1 : Int) x35)))), (SV.a (SA.c (SC.obj 14 v'21))), (SV.a (SA.c (SC.il (1 : Int)))), (SV.a (SA.c (SC.int (endArray (1 : Int) x37)))), (SV.a (SA.c (SC.int (endArray (1 : Int) x37)))), (SV.a (SA.c (SC.lit Bool.false))), (SV.a (SA.c (SC.int (endArray (1 : Int) x37)))), (SV.a (SA.c (SC.int (endArray (1 : Int) x35)))), (SV.a (SA.c (SC.lit Bool.false))), (SV.tup [(SA.c (SC.obj 20 v'91)), (SA.c (SC.bool (scOk aGGroups aGBanks aGRows aGCols x0 (x1).1 (x1).2 (x1).3 (x1).4 (x1).5 (x1).6)))]), (SV.a (SA.agg [(SC.int aGGroups), (SC.int aGBanks), (SC.int aGRows), (SC.int aGCols)])), (SV.a (SA.agg [(SC.int aGGroups), (SC.int aGBanks), (SC.int aGRows), (SC.int aGCols)])), (SV.a (SA.c (SC.obj 0 v0))), (SV.a (SA.c (SC.obj 18 v'87))), (SV.a (SA.c (SC.obj 1 v1))), (SV.a (SA.c (SC.obj 19 v'89))), (SV.tup [(SA.c (SC.obj 20 v'91)), (SA.c (SC.bool (scOk aGGroups aGBanks aGRows aGCols x0 (x1).1 (x1).2 (x1).3 (x1).4 (x1).5 (x1).6)))]), (SV.a (SA.c (SC.obj 20 v'91))), (SV.a (SA.c (SC.bool (scOk aGGroups aGBanks aGRows aGCols x0 (x1).1 (x1).2 (x1).3 (x1).4 (x1).5 (x1).6)))), SV.undef, SV.undef, SV.undef, SV.undef, SV.undef, SV.undef, SV.undef, SV.undef, SV.undef, SV.undef, SV.undef, SV.undef, SV.undef, SV.undef, SV.undef, SV.undef, SV.undef] [(Ch.obj Bool.false rs0), (Ch.obj Bool.false rs1), (Ch.cells b0 23 [(SC.int aGGroups), (SC.int aGBanks), (SC.int aGRows), (SC.int aGCols)]), (Ch.whole b1 27 Bool.true 3 (SC.obj 0 v0)), (Ch.whole b2 48 Bool.true 6 (SC.obj 1 v1)), (Ch.whole b7 33 Bool.true 3 (SC.obj 8 v'12)), (Ch.obj Bool.true rs'9), (Ch.obj Bool.true rs'11), (Ch.obj Bool.true rs'13), (Ch.obj Bool.true rs'31), (Ch.whole b16 33 Bool.true 3 (SC.obj 9 v'14)), (Ch.obj Bool.true rs'33), (Ch.whole b19 54 Bool.true 6 (SC.obj 11 v'17)), (Ch.whole b20 33 Bool.true 3 (SC.obj 14 v'21)), (Ch.obj Bool.true rs'36), (Ch.obj Bool.true rs'25), (Ch.obj Bool.true rs'28), (Ch.whole b86 33 Bool.true 3 (SC.obj 20 v'91)), (Ch.obj Bool.true rs'88), (Ch.obj Bool.true rs'90), (Ch.obj Bool.true rs'92)]))))))))))))))))))))))))) ∧
 (∀ b101 : Nat,
 (True ∧
 (True ∧
 (((isArray v0 x0 rs0) ∧
 (capAx x0)) ∧
 (∀ v'102 : Value,
 (∀ rs'103 : (List Row),
 ((isArray v'102 x0 rs'103) →
 (True ∧
 (((isTicket v1 x1 rs1) ∧
 (capTicket x1)) ∧
 (∀ v'104 : Value,
 (∀ rs'105 : (List Row),
 ((isTicket v'104 x1 rs'105) →
 (True ∧
 (((isArray v'102 x0 rs'103) ∧
 ((isTicket v'104 x1 rs'105) ∧
 ((capAx x0) ∧
 (capTicket x1)))) ∧
 (∀ v'106 : Value,
 (∀ rs'107 : (List Row),
 ((isArray v'106 (scA aGGroups aGBanks aGRows aGCols x0 (x1).1 (x1).2 (x1).3 (x1).4 (x1).5 (x1).6 (x1).7) rs'107) →
 (True ∧
 ((b101 = b101 ∧
 (wholeC Bool.true v'106 3)) ∧
 (True ∧
 (Bool.true = Bool.true ∧
 (∀ Q108 : ((List SV) →
 ((List Ch) →
 Prop)),
 ((∀ b109 : Nat,
 (b0 = b0 ∧
 (b1 = b1 ∧
 (((isArray v0 x0 rs0) ∧
 (capAx x0)) ∧
 (∀ v'110 : Value,
 (∀ rs'111 : (List Row),
 ((isArray v'110 x0 rs'111) →
 (b2 = b2 ∧
 (((isTicket v1 x1 rs1) ∧
 (capTicket x1)) ∧
 (∀ v'112 : Value,
 (∀ rs'113 : (List Row),
 ((isTicket v'112 x1 rs'113) →
 (((isArray v'110 x0 rs'111) ∧
 ((isTicket v'112 x1 rs'113) ∧
 ((capAx x0) ∧
 (capTicket x1)))) ∧
 (∀ v'114 : Value,
 (∀ rs'115 : (List Row),
 ((isArray v'114 (scA aGGroups aGBanks aGRows aGCols x0 (x1).1 (x1).2 (x1).3 (x1).4 (x1).5 (x1).6 (x1).7) rs'115) →
 ((b109 = b109 ∧
 (wholeC Bool.true v'114 3)) ∧
 (Q108 [(SV.a (SA.agg [(SC.int aGGroups), (SC.int aGBanks), (SC.int aGRows), (SC.int aGCols)])), (SV.a (SA.c (SC.obj 0 v0))), (SV.a (SA.c (SC.obj 1 v1))), (SV.a (SA.c (SC.ptr 2 b0 0))), (SV.a (SA.c (SC.ptr 3 b1 0))), (SV.a (SA.c (SC.ptr 4 b2 0))), (SV.a (SA.c (SC.lit Bool.false))), (SV.a (SA.c (SC.int z6))), (SV.a (SA.c (SC.ptr 5 b7 0))), (SV.a (SA.c (SC.bool (scOk aGGroups aGBanks aGRows aGCols x0 (x1).1 (x1).2 (x1).3 (x1).4 (x1).5 (x1).6)))), (SV.a (SA.c (SC.ptr 10 b16 0))), (SV.a (SA.c (SC.ptr 12 b19 0))), (SV.a (SA.c (SC.ptr 13 b20 0))), (SV.a (SA.c (SC.bool (scOk aGGroups aGBanks aGRows aGCols x0 (x1).1 (x1).2 (x1).3 (x1).4 (x1).5 (x1).6)))), (SV.a (SA.c (SC.int (endTicket (endArray (1 : Int) x30) x32)))), (SV.a (SA.c (SC.int (endArray (1 : Int) x35)))), (SV.a (SA.c (SC.int (endArray (1 : Int) x37)))), (SV.a (SA.c (SC.ptr 17 b109 0))), (SV.a (SA.c (SC.bool (scOk aGGroups aGBanks aGRows aGCols x0 (x1).1 (x1).2 (x1).3 (x1).4 (x1).5 (x1).6)))), (SV.a (SA.c (SC.obj 0 v0))), (SV.a (SA.c (SC.il (1048576 : Int)))), (SV.a (SA.c (SC.int z4))), (SV.a (SA.c (SC.int z4))), (SV.a (SA.c (SC.lit Bool.false))), (SV.a (SA.c (SC.obj 1 v1))), (SV.a (SA.c (SC.int z4))), (SV.a (SA.c (SC.int z6))), (SV.a (SA.c (SC.int z6))), (SV.a (SA.c (SC.lit Bool.false))), (SV.tup [(SA.c (SC.obj 8 v'12)), (SA.c (SC.bool (scOk aGGroups aGBanks aGRows aGCols x0 (x1).1 (x1).2 (x1).3 (x1).4 (x1).5 (x1).6)))]), (SV.a (SA.agg [(SC.int aGGroups), (SC.int aGBanks), (SC.int aGRows), (SC.int aGCols)])), (SV.a (SA.agg [(SC.int aGGroups), (SC.int aGBanks), (SC.int aGRows), (SC.int aGCols)])), (SV.a (SA.c (SC.obj 0 v0))), (SV.a (SA.c (SC.obj 6 v'8))), (SV.a (SA.c (SC.obj 1 v1))), (SV.a (SA.c (SC.obj 7 v'10))), (SV.tup [(SA.c (SC.obj 8 v'12)), (SA.c (SC.bool (scOk aGGroups aGBanks aGRows aGCols x0 (x1).1 (x1).2 (x1).3 (x1).4 (x1).5 (x1).6)))]), (SV.a (SA.c (SC.obj 8 v'12))), (SV.a (SA.c (SC.bool (scOk aGGroups aGBanks aGRows aGCols x0 (x1).1 (x1).2 (x1).3 (x1).4 (x1).5 (x1).6)))), (SV.a (SA.c (SC.obj 0 v0))), (SV.a (SA.c (SC.obj 9 v'14))), (SV.a (SA.c (SC.obj 1 v1))), (SV.a (SA.c (SC.obj 11 v'17))), (SV.tup [(SA.c (SC.obj 14 v'21)), (SA.c (SC.bool (scOk aGGroups aGBanks aGRows aGCols x0 (x1).1 (x1).2 (x1).3 (x1).4 (x1).5 (x1).6)))]), (SV.a (SA.agg [(SC.int aGGroups), (SC.int aGBanks), (SC.int aGRows), (SC.int aGCols)])), (SV.a (SA.agg [(SC.int aGGroups), (SC.int aGBanks), (SC.int aGRows), (SC.int aGCols)])), (SV.a (SA.c (SC.obj 9 v'14))), (SV.a (SA.c (SC.obj 11 v'17))), (SV.tup [(SA.c (SC.obj 14 v'21)), (SA.c (SC.bool (scOk aGGroups aGBanks aGRows aGCols x0 (x1).1 (x1).2 (x1).3 (x1).4 (x1).5 (x1).6)))]), (SV.a (SA.c (SC.obj 14 v'21))), (SV.a (SA.c (SC.bool (scOk aGGroups aGBanks aGRows aGCols x0 (x1).1 (x1).2 (x1).3 (x1).4 (x1).5 (x1).6)))), (SV.a (SA.c (SC.obj 14 v'21))), (SV.a (SA.c (SC.obj 8 v'12))), (SV.a (SA.c (SC.lit Bool.true))), (SV.a (SA.c (SC.lit Bool.false))), (SV.a (SA.c (SC.lit Bool.false))), (SV.a (SA.c (SC.bool (scOk aGGroups aGBanks aGRows aGCols x0 (x1).1 (x1).2 (x1).3 (x1).4 (x1).5 (x1).6)))), (SV.a (SA.c (SC.bool (scOk aGGroups aGBanks aGRows aGCols x0 (x1).1 (x1).2 (x1).3 (x1).4 (x1).5 (x1).6)))), (SV.a (SA.c (SC.bool ((scOk aGGroups aGBanks aGRows aGCols x0 (x1).1 (x1).2 (x1).3 (x1).4 (x1).5 (x1).6) != (scOk aGGroups aGBanks aGRows aGCols x0 (x1).1 (x1).2 (x1).3 (x1).4 (x1).5 (x1).6))))), (SV.a (SA.c (SC.lit Bool.false))), (SV.a (SA.c (SC.obj 9 v'14))), (SV.a (SA.c (SC.obj 0 v0))), (SV.a (SA.c (SC.obj 15 v'24))), (SV.a (SA.c (SC.lit Bool.true))), (SV.a (SA.c (SC.lit Bool.false))), (SV.a (SA.c (SC.obj 11 v'17))), (SV.a (SA.c (SC.obj 1 v1))), (SV.a (SA.c (SC.obj 16 v'27))), (SV.a (SA.c (SC.lit Bool.true))), (SV.a (SA.c (SC.lit Bool.false))), (SV.a (SA.c (SC.obj 9 v'14))), (SV.a (SA.c (SC.il (1 : Int)))), (SV.a (SA.c (SC.int (endArray (1 : Int) x30)))), (SV.a (SA.c (SC.obj 11 v'17))), (SV.a (SA.c (SC.int (endArray (1 : Int) x30)))), (SV.a (SA.c (SC.int (endTicket (endArray (1 : Int) x30) x32)))), (SV.a (SA.c (SC.int (endTicket (endArray (1 : Int) x30) x32)))), (SV.a (SA.c (SC.bool (decide ((endTicket (endArray (1 : Int) x30) x32) < (0 : Int)))))), (SV.a (SA.c (SC.lit Bool.false))), (SV.a (SA.c (SC.obj 14 v'21))), (SV.a (SA.c (SC.obj 8 v'12))), (SV.a (SA.c (SC.lit Bool.true))), (SV.a (SA.c (SC.lit Bool.false))), (SV.a (SA.c (SC.lit Bool.false))), (SV.a (SA.c (SC.lit Bool.false))), (SV.a (SA.c (SC.bool (scOk aGGroups aGBanks aGRows aGCols x0 (x1).1 (x1).2 (x1).3 (x1).4 (x1).5 (x1).6)))), (SV.a (SA.c (SC.bool (scOk aGGroups aGBanks aGRows aGCols x0 (x1).1 (x1).2 (x1).3 (x1).4 (x1).5 (x1).6)))), (SV.a (SA.c (SC.bool ((scOk aGGroups aGBanks aGRows aGCols x0 (x1).1 (x1).2 (x1).3 (x1).4 (x1).5 (x1).6) != (scOk aGGroups aGBanks aGRows aGCols x0 (x1).1 (x1).2 (x1).3 (x1).4 (x1).5 (x1).6))))), (SV.a (SA.c (SC.lit Bool.false))), (SV.a (SA.c (SC.obj 14 v'21))), (SV.a (SA.c (SC.il (1 : Int)))), (SV.a (SA.c (SC.int (endArray (1 : Int) x35)))), (SV.a (SA.c (SC.obj 14 v'21))), (SV.a (SA.c (SC.il (1 : Int)))), (SV.a (SA.c (SC.int (endArray (1 : Int) x37)))), (SV.a (SA.c (SC.int (endArray (1 : Int) x37)))), (SV.a (SA.c (SC.lit Bool.false))), (SV.a (SA.c (SC.int (endArray (1 : Int) x37)))), (SV.a (SA.c (SC.int (endArray (1 : Int) x35)))), (SV.a (SA.c (SC.lit Bool.false))), (SV.tup [(SA.c (SC.obj 20 v'114)), (SA.c (SC.bool (scOk aGGroups aGBanks aGRows aGCols x0 (x1).1 (x1).2 (x1).3 (x1).4 (x1).5 (x1).6)))]), (SV.a (SA.agg [(SC.int aGGroups), (SC.int aGBanks), (SC.int aGRows), (SC.int aGCols)])), (SV.a (SA.agg [(SC.int aGGroups), (SC.int aGBanks), (SC.int aGRows), (SC.int aGCols)])), (SV.a (SA.c (SC.obj 0 v0))), (SV.a (SA.c (SC.obj 18 v'110))), (SV.a (SA.c (SC.obj 1 v1))), (SV.a (SA.c (SC.obj 19 v'112))), (SV.tup [(SA.c (SC.obj 20 v'114)), (SA.c (SC.bool (scOk aGGroups aGBanks aGRows aGCols x0 (x1).1 (x1).2 (x1).3 (x1).4 (x1).5 (x1).6)))]), (SV.a (SA.c (SC.obj 20 v'114))), (SV.a (SA.c (SC.bool (scOk aGGroups aGBanks aGRows aGCols x0 (x1).1 (x1).2 (x1).3 (x1).4 (x1).5 (x1).6)))), SV.undef, SV.undef, SV.undef, SV.undef, SV.undef, SV.undef, SV.undef, SV.undef, SV.undef, SV.undef, SV.undef, SV.undef, SV.undef, SV.undef, SV.undef, SV.undef, SV.undef] [(Ch.obj Bool.false rs0), (Ch.obj Bool.false rs1), (Ch.cells b0 23 [(SC.int aGGroups), (SC.int aGBanks), (SC.int aGRows), (SC.int aGCols)]), (Ch.whole b1 27 Bool.true 3 (SC.obj 0 v0)), (Ch.whole b2 48 Bool.true 6 (SC.obj 1 v1)), (Ch.whole b7 33 Bool.true 3 (SC.obj 8 v'12)), (Ch.obj Bool.true rs'9), (Ch.obj Bool.true rs'11), (Ch.obj Bool.true rs'13), (Ch.obj Bool.true rs'31), (Ch.whole b16 33 Bool.true 3 (SC.obj 9 v'14)), (Ch.obj Bool.true rs'33), (Ch.whole b19 54 Bool.true 6 (SC.obj 11 v'17)), (Ch.whole b20 33 Bool.true 3 (SC.obj 14 v'21)), (Ch.obj Bool.true rs'36), (Ch.obj Bool.true rs'25), (Ch.obj Bool.true rs'28), (Ch.whole b109 33 Bool.true 3 (SC.obj 20 v'114)), (Ch.obj Bool.true rs'111), (Ch.obj Bool.true rs'113), (Ch.obj Bool.true rs'115)])))))))))))))))))) →
 (Q108 [(SV.a (SA.agg [(SC.int aGGroups), (SC.int aGBanks), (SC.int aGRows), (SC.int aGCols)])), (SV.a (SA.c (SC.obj 0 v0))), (SV.a (SA.c (SC.obj 1 v1))), (SV.a (SA.c (SC.ptr 2 b0 0))), (SV.a (SA.c (SC.ptr 3 b1 0))), (SV.a (SA.c (SC.ptr 4 b2 0))), (SV.a (SA.c (SC.lit Bool.false))), (SV.a (SA.c (SC.int z6))), (SV.a (SA.c (SC.ptr 5 b7 0))), (SV.a (SA.c (SC.bool (scOk aGGroups aGBanks aGRows aGCols x0 (x1).1 (x1).2 (x1).3 (x1).4 (x1).5 (x1).6)))), (SV.a (SA.c (SC.ptr 10 b16 0))), (SV.a (SA.c (SC.ptr 12 b19 0))), (SV.a (SA.c (SC.ptr 13 b20 0))), (SV.a (SA.c (SC.bool (scOk aGGroups aGBanks aGRows aGCols x0 (x1).1 (x1).2 (x1).3 (x1).4 (x1).5 (x1).6)))), (SV.a (SA.c (SC.int (endTicket (endArray (1 : Int) x30) x32)))), (SV.a (SA.c (SC.int (endArray (1 : Int) x35)))), (SV.a (SA.c (SC.int (endArray (1 : Int) x37)))), (SV.a (SA.c (SC.ptr 17 b101 0))), (SV.a (SA.c (SC.bool (scOk aGGroups aGBanks aGRows aGCols x0 (x1).1 (x1).2 (x1).3 (x1).4 (x1).5 (x1).6)))), (SV.a (SA.c (SC.obj 0 v0))), (SV.a (SA.c (SC.il (1048576 : Int)))), (SV.a (SA.c (SC.int z4))), (SV.a (SA.c (SC.int z4))), (SV.a (SA.c (SC.lit Bool.false))), (SV.a (SA.c (SC.obj 1 v1))), (SV.a (SA.c (SC.int z4))), (SV.a (SA.c (SC.int z6))), (SV.a (SA.c (SC.int z6))), (SV.a (SA.c (SC.lit Bool.false))), (SV.tup [(SA.c (SC.obj 8 v'12)), (SA.c (SC.bool (scOk aGGroups aGBanks aGRows aGCols x0 (x1).1 (x1).2 (x1).3 (x1).4 (x1).5 (x1).6)))]), (SV.a (SA.agg [(SC.int aGGroups), (SC.int aGBanks), (SC.int aGRows), (SC.int aGCols)])), (SV.a (SA.agg [(SC.int aGGroups), (SC.int aGBanks), (SC.int aGRows), (SC.int aGCols)])), (SV.a (SA.c (SC.obj 0 v0))), (SV.a (SA.c (SC.obj 6 v'8))), (SV.a (SA.c (SC.obj 1 v1))), (SV.a (SA.c (SC.obj 7 v'10))), (SV.tup [(SA.c (SC.obj 8 v'12)), (SA.c (SC.bool (scOk aGGroups aGBanks aGRows aGCols x0 (x1).1 (x1).2 (x1).3 (x1).4 (x1).5 (x1).6)))]), (SV.a (SA.c (SC.obj 8 v'12))), (SV.a (SA.c (SC.bool (scOk aGGroups aGBanks aGRows aGCols x0 (x1).1 (x1).2 (x1).3 (x1).4 (x1).5 (x1).6)))), (SV.a (SA.c (SC.obj 0 v0))), (SV.a (SA.c (SC.obj 9 v'14))), (SV.a (SA.c (SC.obj 1 v1))), (SV.a (SA.c (SC.obj 11 v'17))), (SV.tup [(SA.c (SC.obj 14 v'21)), (SA.c (SC.bool (scOk aGGroups aGBanks aGRows aGCols x0 (x1).1 (x1).2 (x1).3 (x1).4 (x1).5 (x1).6)))]), (SV.a (SA.agg [(SC.int aGGroups), (SC.int aGBanks), (SC.int aGRows), (SC.int aGCols)])), (SV.a (SA.agg [(SC.int aGGroups), (SC.int aGBanks), (SC.int aGRows), (SC.int aGCols)])), (SV.a (SA.c (SC.obj 9 v'14))), (SV.a (SA.c (SC.obj 11 v'17))), (SV.tup [(SA.c (SC.obj 14 v'21)), (SA.c (SC.bool (scOk aGGroups aGBanks aGRows aGCols x0 (x1).1 (x1).2 (x1).3 (x1).4 (x1).5 (x1).6)))]), (SV.a (SA.c (SC.obj 14 v'21))), (SV.a (SA.c (SC.bool (scOk aGGroups aGBanks aGRows aGCols x0 (x1).1 (x1).2 (x1).3 (x1).4 (x1).5 (x1).6)))), (SV.a (SA.c (SC.obj 14 v'21))), (SV.a (SA.c (SC.obj 8 v'12))), (SV.a (SA.c (SC.lit Bool.true))), (SV.a (SA.c (SC.lit Bool.false))), (SV.a (SA.c (SC.lit Bool.false))), (SV.a (SA.c (SC.bool (scOk aGGroups aGBanks aGRows aGCols x0 (x1).1 (x1).2 (x1).3 (x1).4 (x1).5 (x1).6)))), (SV.a (SA.c (SC.bool (scOk aGGroups aGBanks aGRows aGCols x0 (x1).1 (x1).2 (x1).3 (x1).4 (x1).5 (x1).6)))), (SV.a (SA.c (SC.bool ((scOk aGGroups aGBanks aGRows aGCols x0 (x1).1 (x1).2 (x1).3 (x1).4 (x1).5 (x1).6) != (scOk aGGroups aGBanks aGRows aGCols x0 (x1).1 (x1).2 (x1).3 (x1).4 (x1).5 (x1).6))))), (SV.a (SA.c (SC.lit Bool.false))), (SV.a (SA.c (SC.obj 9 v'14))), (SV.a (SA.c (SC.obj 0 v0))), (SV.a (SA.c (SC.obj 15 v'24))), (SV.a (SA.c (SC.lit Bool.true))), (SV.a (SA.c (SC.lit Bool.false))), (SV.a (SA.c (SC.obj 11 v'17))), (SV.a (SA.c (SC.obj 1 v1))), (SV.a (SA.c (SC.obj 16 v'27))), (SV.a (SA.c (SC.lit Bool.true))), (SV.a (SA.c (SC.lit Bool.false))), (SV.a (SA.c (SC.obj 9 v'14))), (SV.a (SA.c (SC.il (1 : Int)))), (SV.a (SA.c (SC.int (endArray (1 : Int) x30)))), (SV.a (SA.c (SC.obj 11 v'17))), (SV.a (SA.c (SC.int (endArray (1 : Int) x30)))), (SV.a (SA.c (SC.int (endTicket (endArray (1 : Int) x30) x32)))), (SV.a (SA.c (SC.int (endTicket (endArray (1 : Int) x30) x32)))), (SV.a (SA.c (SC.bool (decide ((endTicket (endArray (1 : Int) x30) x32) < (0 : Int)))))), (SV.a (SA.c (SC.lit Bool.false))), (SV.a (SA.c (SC.obj 14 v'21))), (SV.a (SA.c (SC.obj 8 v'12))), (SV.a (SA.c (SC.lit Bool.true))), (SV.a (SA.c (SC.lit Bool.false))), (SV.a (SA.c (SC.lit Bool.false))), (SV.a (SA.c (SC.lit Bool.false))), (SV.a (SA.c (SC.bool (scOk aGGroups aGBanks aGRows aGCols x0 (x1).1 (x1).2 (x1).3 (x1).4 (x1).5 (x1).6)))), (SV.a (SA.c (SC.bool (scOk aGGroups aGBanks aGRows aGCols x0 (x1).1 (x1).2 (x1).3 (x1).4 (x1).5 (x1).6)))), (SV.a (SA.c (SC.bool ((scOk aGGroups aGBanks aGRows aGCols x0 (x1).1 (x1).2 (x1).3 (x1).4 (x1).5 (x1).6) != (scOk aGGroups aGBanks aGRows aGCols x0 (x1).1 (x1).2 (x1).3 (x1).4 (x1).5 (x1).6))))), (SV.a (SA.c (SC.lit Bool.false))), (SV.a (SA.c (SC.obj 14 v'21))), (SV.a (SA.c (SC.il (1 : Int)))), (SV.a (SA.c (SC.int (endArray (1 : Int) x35)))), (SV.a (SA.c (SC.obj 14 v'21))), (SV.a (SA.c (SC.il (1 : Int)))), (SV.a (SA.c (SC.int (endArray (1 : Int) x37)))), (SV.a (SA.c (SC.int (endArray (1 : Int) x37)))), (SV.a (SA.c (SC.lit Bool.false))), (SV.a (SA.c (SC.int (endArray (1 : Int) x37)))), (SV.a (SA.c (SC.int (endArray (1 : Int) x35)))), (SV.a (SA.c (SC.lit Bool.false))), (SV.tup [(SA.c (SC.obj 20 v'106)), (SA.c (SC.bool (scOk aGGroups aGBanks aGRows aGCols x0 (x1).1 (x1).2 (x1).3 (x1).4 (x1).5 (x1).6)))]), (SV.a (SA.agg [(SC.int aGGroups), (SC.int aGBanks), (SC.int aGRows), (SC.int aGCols)])), (SV.a (SA.agg [(SC.int aGGroups), (SC.int aGBanks), (SC.int aGRows), (SC.int aGCols)])), (SV.a (SA.c (SC.obj 0 v0))), (SV.a (SA.c (SC.obj 18 v'102))), (SV.a (SA.c (SC.obj 1 v1))), (SV.a (SA.c (SC.obj 19 v'104))), (SV.tup [(SA.c (SC.obj 20 v'106)), (SA.c (SC.bool (scOk aGGroups aGBanks aGRows aGCols x0 (x1).1 (x1).2 (x1).3 (x1).4 (x1).5 (x1).6)))]), (SV.a (SA.c (SC.obj 20 v'106))), (SV.a (SA.c (SC.bool (scOk aGGroups aGBanks aGRows aGCols x0 (x1).1 (x1).2 (x1).3 (x1).4 (x1).5 (x1).6)))), SV.undef, SV.undef, SV.undef, SV.undef, SV.undef, SV.undef, SV.undef, SV.undef, SV.undef, SV.undef, SV.undef, SV.undef, SV.undef, SV.undef, SV.undef, SV.undef, SV.undef] [(Ch.obj Bool.false rs0), (Ch.obj Bool.false rs1), (Ch.cells b0 23 [(SC.int aGGroups), (SC.int aGBanks), (SC.int aGRows), (SC.int aGCols)]), (Ch.whole b1 27 Bool.true 3 (SC.obj 0 v0)), (Ch.whole b2 48 Bool.true 6 (SC.obj 1 v1)), (Ch.whole b7 33 Bool.true 3 (SC.obj 8 v'12)), (Ch.obj Bool.true rs'9), (Ch.obj Bool.true rs'11), (Ch.obj Bool.true rs'13), (Ch.obj Bool.true rs'31), (Ch.whole b16 33 Bool.true 3 (SC.obj 9 v'14)), (Ch.obj Bool.true rs'33), (Ch.whole b19 54 Bool.true 6 (SC.obj 11 v'17)), (Ch.whole b20 33 Bool.true 3 (SC.obj 14 v'21)), (Ch.obj Bool.true rs'36), (Ch.obj Bool.true rs'25), (Ch.obj Bool.true rs'28), (Ch.whole b101 33 Bool.true 3 (SC.obj 20 v'106)), (Ch.obj Bool.true rs'103), (Ch.obj Bool.true rs'105), (Ch.obj Bool.true rs'107)])))))))))))))))))))))))))))))))))))))))))))))))))))) ∧
 ((decide ((endTicket (endArray (1 : Int) x30) x32) < (0 : Int))) = Bool.true →
 (Value.bool Bool.false) = (Value.bool Bool.true))))))))))))))))))))))))))))))))))))))))))))))))))))))) ∧
 (b0 = b0 ∧
 (b16 = b16 ∧
 (b19 = b19 ∧
 ((True ∧
 ((((isArray v'14 x0 rs'15) ∧
 ((isTicket v'17 x1 rs'18) ∧
 ((capAx x0) ∧
 (capTicket x1)))) ∧
 (∀ v'116 : Value,
 (∀ rs'117 : (List Row),
 ((isArray v'116 (scA aGGroups aGBanks aGRows aGCols x0 (x1).1 (x1).2 (x1).3 (x1).4 (x1).5 (x1).6 (x1).7) rs'117) →
 (True ∧
 (∀ b118 : Nat,
 (True ∧
 ((b118 = b118 ∧
 (wholeC Bool.true v'116 3)) ∧
 (True ∧
 (Bool.true = Bool.true ∧
 (∀ Q119 : ((List SV) →
 ((List Ch) →
 Prop)),
 ((∀ b120 : Nat,
 (b0 = b0 ∧
 (b16 = b16 ∧
 (b19 = b19 ∧
 (((isArray v'14 x0 rs'15) ∧
 ((isTicket v'17 x1 rs'18) ∧
 ((capAx x0) ∧
 (capTicket x1)))) ∧
 (∀ v'121 : Value,
 (∀ rs'122 : (List Row),
 ((isArray v'121 (scA aGGroups aGBanks aGRows aGCols x0 (x1).1 (x1).2 (x1).3 (x1).4 (x1).5 (x1).6 (x1).7) rs'122) →
 ((b120 = b120 ∧
 (wholeC Bool.true v'121 3)) ∧
 (Q119 [(SV.a (SA.agg [(SC.int aGGroups), (SC.int aGBanks), (SC.int aGRows), (SC.int aGCols)])), (SV.a (SA.c (SC.obj 0 v0))), (SV.a (SA.c (SC.obj 1 v1))), (SV.a (SA.c (SC.ptr 2 b0 0))), (SV.a (SA.c (SC.ptr 3 b1 0))), (SV.a (SA.c (SC.ptr 4 b2 0))), (SV.a (SA.c (SC.lit Bool.false))), (SV.a (SA.c (SC.int z6))), (SV.a (SA.c (SC.ptr 5 b7 0))), (SV.a (SA.c (SC.bool (scOk aGGroups aGBanks aGRows aGCols x0 (x1).1 (x1).2 (x1).3 (x1).4 (x1).5 (x1).6)))), (SV.a (SA.c (SC.ptr 10 b16 0))), (SV.a (SA.c (SC.ptr 12 b19 0))), (SV.a (SA.c (SC.ptr 13 b120 0))), (SV.a (SA.c (SC.bool (scOk aGGroups aGBanks aGRows aGCols x0 (x1).1 (x1).2 (x1).3 (x1).4 (x1).5 (x1).6)))), SV.undef, SV.undef, SV.undef, SV.undef, SV.undef, (SV.a (SA.c (SC.obj 0 v0))), (SV.a (SA.c (SC.il (1048576 : Int)))), (SV.a (SA.c (SC.int z4))), (SV.a (SA.c (SC.int z4))), (SV.a (SA.c (SC.lit Bool.false))), (SV.a (SA.c (SC.obj 1 v1))), (SV.a (SA.c (SC.int z4))), (SV.a (SA.c (SC.int z6))), (SV.a (SA.c (SC.int z6))), (SV.a (SA.c (SC.lit Bool.false))), (SV.tup [(SA.c (SC.obj 8 v'12)), (SA.c (SC.bool (scOk aGGroups aGBanks aGRows aGCols x0 (x1).1 (x1).2 (x1).3 (x1).4 (x1).5 (x1).6)))]), (SV.a (SA.agg [(SC.int aGGroups), (SC.int aGBanks), (SC.int aGRows), (SC.int aGCols)])), (SV.a (SA.agg [(SC.int aGGroups), (SC.int aGBanks), (SC.int aGRows), (SC.int aGCols)])), (SV.a (SA.c (SC.obj 0 v0))), (SV.a (SA.c (SC.obj 6 v'8))), (SV.a (SA.c (SC.obj 1 v1))), (SV.a (SA.c (SC.obj 7 v'10))), (SV.tup [(SA.c (SC.obj 8 v'12)), (SA.c (SC.bool (scOk aGGroups aGBanks aGRows aGCols x0 (x1).1 (x1).2 (x1).3 (x1).4 (x1).5 (x1).6)))]), (SV.a (SA.c (SC.obj 8 v'12))), (SV.a (SA.c (SC.bool (scOk aGGroups aGBanks aGRows aGCols x0 (x1).1 (x1).2 (x1).3 (x1).4 (x1).5 (x1).6)))), (SV.a (SA.c (SC.obj 0 v0))), (SV.a (SA.c (SC.obj 9 v'14))), (SV.a (SA.c (SC.obj 1 v1))), (SV.a (SA.c (SC.obj 11 v'17))), (SV.tup [(SA.c (SC.obj 14 v'121)), (SA.c (SC.bool (scOk aGGroups aGBanks aGRows aGCols x0 (x1).1 (x1).2 (x1).3 (x1).4 (x1).5 (x1).6)))]), (SV.a (SA.agg [(SC.int aGGroups), (SC.int aGBanks), (SC.int aGRows), (SC.int aGCols)])), (SV.a (SA.agg [(SC.int aGGroups), (SC.int aGBanks), (SC.int aGRows), (SC.int aGCols)])), (SV.a (SA.c (SC.obj 9 v'14))), (SV.a (SA.c (SC.obj 11 v'17))), (SV.tup [(SA.c (SC.obj 14 v'121)), (SA.c (SC.bool (scOk aGGroups aGBanks aGRows aGCols x0 (x1).1 (x1).2 (x1).3 (x1).4 (x1).5 (x1).6)))]), (SV.a (SA.c (SC.obj 14 v'121))), (SV.a (SA.c (SC.bool (scOk aGGroups aGBanks aGRows aGCols x0 (x1).1 (x1).2 (x1).3 (x1).4 (x1).5 (x1).6)))), SV.undef, SV.undef, SV.undef, SV.undef, SV.undef, SV.undef, SV.undef, SV.undef, SV.undef, SV.undef, SV.undef, SV.undef, SV.undef, SV.undef, SV.undef, SV.undef, SV.undef, SV.undef, SV.undef, SV.undef, SV.undef, SV.undef, SV.undef, SV.undef, SV.undef, SV.undef, SV.undef, SV.undef, SV.undef, SV.undef, SV.undef, SV.undef, SV.undef, SV.undef, SV.undef, SV.undef, SV.undef, SV.undef, SV.undef, SV.undef, SV.undef, SV.undef, SV.undef, SV.undef, SV.undef, SV.undef, SV.undef, SV.undef, SV.undef, SV.undef, SV.undef, SV.undef, SV.undef, SV.undef, SV.undef, SV.undef, SV.undef, SV.undef, SV.undef, SV.undef, SV.undef, SV.undef, SV.undef, SV.undef, SV.undef, SV.undef, SV.undef, SV.undef, SV.undef, SV.undef, SV.undef, SV.undef, SV.undef, SV.undef, SV.undef, SV.undef] [(Ch.obj Bool.false rs0), (Ch.obj Bool.false rs1), (Ch.cells b0 23 [(SC.int aGGroups), (SC.int aGBanks), (SC.int aGRows), (SC.int aGCols)]), (Ch.whole b1 27 Bool.true 3 (SC.obj 0 v0)), (Ch.whole b2 48 Bool.true 6 (SC.obj 1 v1)), (Ch.whole b7 33 Bool.true 3 (SC.obj 8 v'12)), (Ch.obj Bool.true rs'9), (Ch.obj Bool.true rs'11), (Ch.obj Bool.true rs'13), (Ch.obj Bool.true rs'15), (Ch.whole b16 33 Bool.true 3 (SC.obj 9 v'14)), (Ch.obj Bool.true rs'18), (Ch.whole b19 54 Bool.true 6 (SC.obj 11 v'17)), (Ch.whole b120 33 Bool.true 3 (SC.obj 14 v'121)), (Ch.obj Bool.true rs'122)])))))))))) →
 (Q119 [(SV.a (SA.agg [(SC.int aGGroups), (SC.int aGBanks), (SC.int aGRows), (SC.int aGCols)])), (SV.a (SA.c (SC.obj 0 v0))), (SV.a (SA.c (SC.obj 1 v1))), (SV.a (SA.c (SC.ptr 2 b0 0))), (SV.a (SA.c (SC.ptr 3 b1 0))), (SV.a (SA.c (SC.ptr 4 b2 0))), (SV.a (SA.c (SC.lit Bool.false))), (SV.a (SA.c (SC.int z6))), (SV.a (SA.c (SC.ptr 5 b7 0))), (SV.a (SA.c (SC.bool (scOk aGGroups aGBanks aGRows aGCols x0 (x1).1 (x1).2 (x1).3 (x1).4 (x1).5 (x1).6)))), (SV.a (SA.c (SC.ptr 10 b16 0))), (SV.a (SA.c (SC.ptr 12 b19 0))), (SV.a (SA.c (SC.ptr 13 b118 0))), (SV.a (SA.c (SC.bool (scOk aGGroups aGBanks aGRows aGCols x0 (x1).1 (x1).2 (x1).3 (x1).4 (x1).5 (x1).6)))), SV.undef, SV.undef, SV.undef, SV.undef, SV.undef, (SV.a (SA.c (SC.obj 0 v0))), (SV.a (SA.c (SC.il (1048576 : Int)))), (SV.a (SA.c (SC.int z4))), (SV.a (SA.c (SC.int z4))), (SV.a (SA.c (SC.lit Bool.false))), (SV.a (SA.c (SC.obj 1 v1))), (SV.a (SA.c (SC.int z4))), (SV.a (SA.c (SC.int z6))), (SV.a (SA.c (SC.int z6))), (SV.a (SA.c (SC.lit Bool.false))), (SV.tup [(SA.c (SC.obj 8 v'12)), (SA.c (SC.bool (scOk aGGroups aGBanks aGRows aGCols x0 (x1).1 (x1).2 (x1).3 (x1).4 (x1).5 (x1).6)))]), (SV.a (SA.agg [(SC.int aGGroups), (SC.int aGBanks), (SC.int aGRows), (SC.int aGCols)])), (SV.a (SA.agg [(SC.int aGGroups), (SC.int aGBanks), (SC.int aGRows), (SC.int aGCols)])), (SV.a (SA.c (SC.obj 0 v0))), (SV.a (SA.c (SC.obj 6 v'8))), (SV.a (SA.c (SC.obj 1 v1))), (SV.a (SA.c (SC.obj 7 v'10))), (SV.tup [(SA.c (SC.obj 8 v'12)), (SA.c (SC.bool (scOk aGGroups aGBanks aGRows aGCols x0 (x1).1 (x1).2 (x1).3 (x1).4 (x1).5 (x1).6)))]), (SV.a (SA.c (SC.obj 8 v'12))), (SV.a (SA.c (SC.bool (scOk aGGroups aGBanks aGRows aGCols x0 (x1).1 (x1).2 (x1).3 (x1).4 (x1).5 (x1).6)))), (SV.a (SA.c (SC.obj 0 v0))), (SV.a (SA.c (SC.obj 9 v'14))), (SV.a (SA.c (SC.obj 1 v1))), (SV.a (SA.c (SC.obj 11 v'17))), (SV.tup [(SA.c (SC.obj 14 v'116)), (SA.c (SC.bool (scOk aGGroups aGBanks aGRows aGCols x0 (x1).1 (x1).2 (x1).3 (x1).4 (x1).5 (x1).6)))]), (SV.a (SA.agg [(SC.int aGGroups), (SC.int aGBanks), (SC.int aGRows), (SC.int aGCols)])), (SV.a (SA.agg [(SC.int aGGroups), (SC.int aGBanks), (SC.int aGRows), (SC.int aGCols)])), (SV.a (SA.c (SC.obj 9 v'14))), (SV.a (SA.c (SC.obj 11 v'17))), (SV.tup [(SA.c (SC.obj 14 v'116)), (SA.c (SC.bool (scOk aGGroups aGBanks aGRows aGCols x0 (x1).1 (x1).2 (x1).3 (x1).4 (x1).5 (x1).6)))]), (SV.a (SA.c (SC.obj 14 v'116))), (SV.a (SA.c (SC.bool (scOk aGGroups aGBanks aGRows aGCols x0 (x1).1 (x1).2 (x1).3 (x1).4 (x1).5 (x1).6)))), SV.undef, SV.undef, SV.undef, SV.undef, SV.undef, SV.undef, SV.undef, SV.undef, SV.undef, SV.undef, SV.undef, SV.undef, SV.undef, SV.undef, SV.undef, SV.undef, SV.undef, SV.undef, SV.undef, SV.undef, SV.undef, SV.undef, SV.undef, SV.undef, SV.undef, SV.undef, SV.undef, SV.undef, SV.undef, SV.undef, SV.undef, SV.undef, SV.undef, SV.undef, SV.undef, SV.undef, SV.undef, SV.undef, SV.undef, SV.undef, SV.undef, SV.undef, SV.undef, SV.undef, SV.undef, SV.undef, SV.undef, SV.undef, SV.undef, SV.undef, SV.undef, SV.undef, SV.undef, SV.undef, SV.undef, SV.undef, SV.undef, SV.undef, SV.undef, SV.undef, SV.undef, SV.undef, SV.undef, SV.undef, SV.undef, SV.undef, SV.undef, SV.undef, SV.undef, SV.undef, SV.undef, SV.undef, SV.undef, SV.undef, SV.undef, SV.undef] [(Ch.obj Bool.false rs0), (Ch.obj Bool.false rs1), (Ch.cells b0 23 [(SC.int aGGroups), (SC.int aGBanks), (SC.int aGRows), (SC.int aGCols)]), (Ch.whole b1 27 Bool.true 3 (SC.obj 0 v0)), (Ch.whole b2 48 Bool.true 6 (SC.obj 1 v1)), (Ch.whole b7 33 Bool.true 3 (SC.obj 8 v'12)), (Ch.obj Bool.true rs'9), (Ch.obj Bool.true rs'11), (Ch.obj Bool.true rs'13), (Ch.obj Bool.true rs'15), (Ch.whole b16 33 Bool.true 3 (SC.obj 9 v'14)), (Ch.obj Bool.true rs'18), (Ch.whole b19 54 Bool.true 6 (SC.obj 11 v'17)), (Ch.whole b118 33 Bool.true 3 (SC.obj 14 v'116)), (Ch.obj Bool.true rs'117)]))))))))))))) ∧
 (∀ b123 : Nat,
 (True ∧
 (((isArray v'14 x0 rs'15) ∧
 ((isTicket v'17 x1 rs'18) ∧
 ((capAx x0) ∧
 (capTicket x1)))) ∧
 (∀ v'124 : Value,
 (∀ rs'125 : (List Row),
 ((isArray v'124 (scA aGGroups aGBanks aGRows aGCols x0 (x1).1 (x1).2 (x1).3 (x1).4 (x1).5 (x1).6 (x1).7) rs'125) →
 (True ∧
 ((b123 = b123 ∧
 (wholeC Bool.true v'124 3)) ∧
 (True ∧
 (Bool.true = Bool.true ∧
 (∀ Q126 : ((List SV) →
 ((List Ch) →
 Prop)),
 ((∀ b127 : Nat,
 (b0 = b0 ∧
 (b16 = b16 ∧
 (b19 = b19 ∧
 (((isArray v'14 x0 rs'15) ∧
 ((isTicket v'17 x1 rs'18) ∧
 ((capAx x0) ∧
 (capTicket x1)))) ∧
 (∀ v'128 : Value,
 (∀ rs'129 : (List Row),
 ((isArray v'128 (scA aGGroups aGBanks aGRows aGCols x0 (x1).1 (x1).2 (x1).3 (x1).4 (x1).5 (x1).6 (x1).7) rs'129) →
 ((b127 = b127 ∧
 (wholeC Bool.true v'128 3)) ∧
 (Q126 [(SV.a (SA.agg [(SC.int aGGroups), (SC.int aGBanks), (SC.int aGRows), (SC.int aGCols)])), (SV.a (SA.c (SC.obj 0 v0))), (SV.a (SA.c (SC.obj 1 v1))), (SV.a (SA.c (SC.ptr 2 b0 0))), (SV.a (SA.c (SC.ptr 3 b1 0))), (SV.a (SA.c (SC.ptr 4 b2 0))), (SV.a (SA.c (SC.lit Bool.false))), (SV.a (SA.c (SC.int z6))), (SV.a (SA.c (SC.ptr 5 b7 0))), (SV.a (SA.c (SC.bool (scOk aGGroups aGBanks aGRows aGCols x0 (x1).1 (x1).2 (x1).3 (x1).4 (x1).5 (x1).6)))), (SV.a (SA.c (SC.ptr 10 b16 0))), (SV.a (SA.c (SC.ptr 12 b19 0))), (SV.a (SA.c (SC.ptr 13 b127 0))), (SV.a (SA.c (SC.bool (scOk aGGroups aGBanks aGRows aGCols x0 (x1).1 (x1).2 (x1).3 (x1).4 (x1).5 (x1).6)))), SV.undef, SV.undef, SV.undef, SV.undef, SV.undef, (SV.a (SA.c (SC.obj 0 v0))), (SV.a (SA.c (SC.il (1048576 : Int)))), (SV.a (SA.c (SC.int z4))), (SV.a (SA.c (SC.int z4))), (SV.a (SA.c (SC.lit Bool.false))), (SV.a (SA.c (SC.obj 1 v1))), (SV.a (SA.c (SC.int z4))), (SV.a (SA.c (SC.int z6))), (SV.a (SA.c (SC.int z6))), (SV.a (SA.c (SC.lit Bool.false))), (SV.tup [(SA.c (SC.obj 8 v'12)), (SA.c (SC.bool (scOk aGGroups aGBanks aGRows aGCols x0 (x1).1 (x1).2 (x1).3 (x1).4 (x1).5 (x1).6)))]), (SV.a (SA.agg [(SC.int aGGroups), (SC.int aGBanks), (SC.int aGRows), (SC.int aGCols)])), (SV.a (SA.agg [(SC.int aGGroups), (SC.int aGBanks), (SC.int aGRows), (SC.int aGCols)])), (SV.a (SA.c (SC.obj 0 v0))), (SV.a (SA.c (SC.obj 6 v'8))), (SV.a (SA.c (SC.obj 1 v1))), (SV.a (SA.c (SC.obj 7 v'10))), (SV.tup [(SA.c (SC.obj 8 v'12)), (SA.c (SC.bool (scOk aGGroups aGBanks aGRows aGCols x0 (x1).1 (x1).2 (x1).3 (x1).4 (x1).5 (x1).6)))]), (SV.a (SA.c (SC.obj 8 v'12))), (SV.a (SA.c (SC.bool (scOk aGGroups aGBanks aGRows aGCols x0 (x1).1 (x1).2 (x1).3 (x1).4 (x1).5 (x1).6)))), (SV.a (SA.c (SC.obj 0 v0))), (SV.a (SA.c (SC.obj 9 v'14))), (SV.a (SA.c (SC.obj 1 v1))), (SV.a (SA.c (SC.obj 11 v'17))), (SV.tup [(SA.c (SC.obj 14 v'128)), (SA.c (SC.bool (scOk aGGroups aGBanks aGRows aGCols x0 (x1).1 (x1).2 (x1).3 (x1).4 (x1).5 (x1).6)))]), (SV.a (SA.agg [(SC.int aGGroups), (SC.int aGBanks), (SC.int aGRows), (SC.int aGCols)])), (SV.a (SA.agg [(SC.int aGGroups), (SC.int aGBanks), (SC.int aGRows), (SC.int aGCols)])), (SV.a (SA.c (SC.obj 9 v'14))), (SV.a (SA.c (SC.obj 11 v'17))), (SV.tup [(SA.c (SC.obj 14 v'128)), (SA.c (SC.bool (scOk aGGroups aGBanks aGRows aGCols x0 (x1).1 (x1).2 (x1).3 (x1).4 (x1).5 (x1).6)))]), (SV.a (SA.c (SC.obj 14 v'128))), (SV.a (SA.c (SC.bool (scOk aGGroups aGBanks aGRows aGCols x0 (x1).1 (x1).2 (x1).3 (x1).4 (x1).5 (x1).6)))), SV.undef, SV.undef, SV.undef, SV.undef, SV.undef, SV.undef, SV.undef, SV.undef, SV.undef, SV.undef, SV.undef, SV.undef, SV.undef, SV.undef, SV.undef, SV.undef, SV.undef, SV.undef, SV.undef, SV.undef, SV.undef, SV.undef, SV.undef, SV.undef, SV.undef, SV.undef, SV.undef, SV.undef, SV.undef, SV.undef, SV.undef, SV.undef, SV.undef, SV.undef, SV.undef, SV.undef, SV.undef, SV.undef, SV.undef, SV.undef, SV.undef, SV.undef, SV.undef, SV.undef, SV.undef, SV.undef, SV.undef, SV.undef, SV.undef, SV.undef, SV.undef, SV.undef, SV.undef, SV.undef, SV.undef, SV.undef, SV.undef, SV.undef, SV.undef, SV.undef, SV.undef, SV.undef, SV.undef, SV.undef, SV.undef, SV.undef, SV.undef, SV.undef, SV.undef, SV.undef, SV.undef, SV.undef, SV.undef, SV.undef, SV.undef, SV.undef] [(Ch.obj Bool.false rs0), (Ch.obj Bool.false rs1), (Ch.cells b0 23 [(SC.int aGGroups), (SC.int aGBanks), (SC.int aGRows), (SC.int aGCols)]), (Ch.whole b1 27 Bool.true 3 (SC.obj 0 v0)), (Ch.whole b2 48 Bool.true 6 (SC.obj 1 v1)), (Ch.whole b7 33 Bool.true 3 (SC.obj 8 v'12)), (Ch.obj Bool.true rs'9), (Ch.obj Bool.true rs'11), (Ch.obj Bool.true rs'13), (Ch.obj Bool.true rs'15), (Ch.whole b16 33 Bool.true 3 (SC.obj 9 v'14)), (Ch.obj Bool.true rs'18), (Ch.whole b19 54 Bool.true 6 (SC.obj 11 v'17)), (Ch.whole b127 33 Bool.true 3 (SC.obj 14 v'128)), (Ch.obj Bool.true rs'129)])))))))))) →
 (Q126 [(SV.a (SA.agg [(SC.int aGGroups), (SC.int aGBanks), (SC.int aGRows), (SC.int aGCols)])), (SV.a (SA.c (SC.obj 0 v0))), (SV.a (SA.c (SC.obj 1 v1))), (SV.a (SA.c (SC.ptr 2 b0 0))), (SV.a (SA.c (SC.ptr 3 b1 0))), (SV.a (SA.c (SC.ptr 4 b2 0))), (SV.a (SA.c (SC.lit Bool.false))), (SV.a (SA.c (SC.int z6))), (SV.a (SA.c (SC.ptr 5 b7 0))), (SV.a (SA.c (SC.bool (scOk aGGroups aGBanks aGRows aGCols x0 (x1).1 (x1).2 (x1).3 (x1).4 (x1).5 (x1).6)))), (SV.a (SA.c (SC.ptr 10 b16 0))), (SV.a (SA.c (SC.ptr 12 b19 0))), (SV.a (SA.c (SC.ptr 13 b123 0))), (SV.a (SA.c (SC.bool (scOk aGGroups aGBanks aGRows aGCols x0 (x1).1 (x1).2 (x1).3 (x1).4 (x1).5 (x1).6)))), SV.undef, SV.undef, SV.undef, SV.undef, SV.undef, (SV.a (SA.c (SC.obj 0 v0))), (SV.a (SA.c (SC.il (1048576 : Int)))), (SV.a (SA.c (SC.int z4))), (SV.a (SA.c (SC.int z4))), (SV.a (SA.c (SC.lit Bool.false))), (SV.a (SA.c (SC.obj 1 v1))), (SV.a (SA.c (SC.int z4))), (SV.a (SA.c (SC.int z6))), (SV.a (SA.c (SC.int z6))), (SV.a (SA.c (SC.lit Bool.false))), (SV.tup [(SA.c (SC.obj 8 v'12)), (SA.c (SC.bool (scOk aGGroups aGBanks aGRows aGCols x0 (x1).1 (x1).2 (x1).3 (x1).4 (x1).5 (x1).6)))]), (SV.a (SA.agg [(SC.int aGGroups), (SC.int aGBanks), (SC.int aGRows), (SC.int aGCols)])), (SV.a (SA.agg [(SC.int aGGroups), (SC.int aGBanks), (SC.int aGRows), (SC.int aGCols)])), (SV.a (SA.c (SC.obj 0 v0))), (SV.a (SA.c (SC.obj 6 v'8))), (SV.a (SA.c (SC.obj 1 v1))), (SV.a (SA.c (SC.obj 7 v'10))), (SV.tup [(SA.c (SC.obj 8 v'12)), (SA.c (SC.bool (scOk aGGroups aGBanks aGRows aGCols x0 (x1).1 (x1).2 (x1).3 (x1).4 (x1).5 (x1).6)))]), (SV.a (SA.c (SC.obj 8 v'12))), (SV.a (SA.c (SC.bool (scOk aGGroups aGBanks aGRows aGCols x0 (x1).1 (x1).2 (x1).3 (x1).4 (x1).5 (x1).6)))), (SV.a (SA.c (SC.obj 0 v0))), (SV.a (SA.c (SC.obj 9 v'14))), (SV.a (SA.c (SC.obj 1 v1))), (SV.a (SA.c (SC.obj 11 v'17))), (SV.tup [(SA.c (SC.obj 14 v'124)), (SA.c (SC.bool (scOk aGGroups aGBanks aGRows aGCols x0 (x1).1 (x1).2 (x1).3 (x1).4 (x1).5 (x1).6)))]), (SV.a (SA.agg [(SC.int aGGroups), (SC.int aGBanks), (SC.int aGRows), (SC.int aGCols)])), (SV.a (SA.agg [(SC.int aGGroups), (SC.int aGBanks), (SC.int aGRows), (SC.int aGCols)])), (SV.a (SA.c (SC.obj 9 v'14))), (SV.a (SA.c (SC.obj 11 v'17))), (SV.tup [(SA.c (SC.obj 14 v'124)), (SA.c (SC.bool (scOk aGGroups aGBanks aGRows aGCols x0 (x1).1 (x1).2 (x1).3 (x1).4 (x1).5 (x1).6)))]), (SV.a (SA.c (SC.obj 14 v'124))), (SV.a (SA.c (SC.bool (scOk aGGroups aGBanks aGRows aGCols x0 (x1).1 (x1).2 (x1).3 (x1).4 (x1).5 (x1).6)))), SV.undef, SV.undef, SV.undef, SV.undef, SV.undef, SV.undef, SV.undef, SV.undef, SV.undef, SV.undef, SV.undef, SV.undef, SV.undef, SV.undef, SV.undef, SV.undef, SV.undef, SV.undef, SV.undef, SV.undef, SV.undef, SV.undef, SV.undef, SV.undef, SV.undef, SV.undef, SV.undef, SV.undef, SV.undef, SV.undef, SV.undef, SV.undef, SV.undef, SV.undef, SV.undef, SV.undef, SV.undef, SV.undef, SV.undef, SV.undef, SV.undef, SV.undef, SV.undef, SV.undef, SV.undef, SV.undef, SV.undef, SV.undef, SV.undef, SV.undef, SV.undef, SV.undef, SV.undef, SV.undef, SV.undef, SV.undef, SV.undef, SV.undef, SV.undef, SV.undef, SV.undef, SV.undef, SV.undef, SV.undef, SV.undef, SV.undef, SV.undef, SV.undef, SV.undef, SV.undef, SV.undef, SV.undef, SV.undef, SV.undef, SV.undef, SV.undef] [(Ch.obj Bool.false rs0), (Ch.obj Bool.false rs1), (Ch.cells b0 23 [(SC.int aGGroups), (SC.int aGBanks), (SC.int aGRows), (SC.int aGCols)]), (Ch.whole b1 27 Bool.true 3 (SC.obj 0 v0)), (Ch.whole b2 48 Bool.true 6 (SC.obj 1 v1)), (Ch.whole b7 33 Bool.true 3 (SC.obj 8 v'12)), (Ch.obj Bool.true rs'9), (Ch.obj Bool.true rs'11), (Ch.obj Bool.true rs'13), (Ch.obj Bool.true rs'15), (Ch.whole b16 33 Bool.true 3 (SC.obj 9 v'14)), (Ch.obj Bool.true rs'18), (Ch.whole b19 54 Bool.true 6 (SC.obj 11 v'17)), (Ch.whole b123 33 Bool.true 3 (SC.obj 14 v'124)), (Ch.obj Bool.true rs'125)]))))))))))))))) ∧
 (∀ b130 : Nat,
 (True ∧
 (True ∧
 (((isArray v'14 x0 rs'15) ∧
 ((isTicket v'17 x1 rs'18) ∧
 ((capAx x0) ∧
 (capTicket x1)))) ∧
 (∀ v'131 : Value,
 (∀ rs'132 : (List Row),
 ((isArray v'131 (scA aGGroups aGBanks aGRows aGCols x0 (x1).1 (x1).2 (x1).3 (x1).4 (x1).5 (x1).6 (x1).7) rs'132) →
 (True ∧
 ((b130 = b130 ∧
 (wholeC Bool.true v'131 3)) ∧
 (True ∧
 (Bool.true = Bool.true ∧
 (∀ Q133 : ((List SV) →
 ((List Ch) →
 Prop)),
 ((∀ b134 : Nat,
 (b0 = b0 ∧
 (b16 = b16 ∧
 (b19 = b19 ∧
 (((isArray v'14 x0 rs'15) ∧
 ((isTicket v'17 x1 rs'18) ∧
 ((capAx x0) ∧
 (capTicket x1)))) ∧
 (∀ v'135 : Value,
 (∀ rs'136 : (List Row),
 ((isArray v'135 (scA aGGroups aGBanks aGRows aGCols x0 (x1).1 (x1).2 (x1).3 (x1).4 (x1).5 (x1).6 (x1).7) rs'136) →
 ((b134 = b134 ∧
 (wholeC Bool.true v'135 3)) ∧
 (Q133 [(SV.a (SA.agg [(SC.int aGGroups), (SC.int aGBanks), (SC.int aGRows), (SC.int aGCols)])), (SV.a (SA.c (SC.obj 0 v0))), (SV.a (SA.c (SC.obj 1 v1))), (SV.a (SA.c (SC.ptr 2 b0 0))), (SV.a (SA.c (SC.ptr 3 b1 0))), (SV.a (SA.c (SC.ptr 4 b2 0))), (SV.a (SA.c (SC.lit Bool.false))), (SV.a (SA.c (SC.int z6))), (SV.a (SA.c (SC.ptr 5 b7 0))), (SV.a (SA.c (SC.bool (scOk aGGroups aGBanks aGRows aGCols x0 (x1).1 (x1).2 (x1).3 (x1).4 (x1).5 (x1).6)))), (SV.a (SA.c (SC.ptr 10 b16 0))), (SV.a (SA.c (SC.ptr 12 b19 0))), (SV.a (SA.c (SC.ptr 13 b134 0))), (SV.a (SA.c (SC.bool (scOk aGGroups aGBanks aGRows aGCols x0 (x1).1 (x1).2 (x1).3 (x1).4 (x1).5 (x1).6)))), SV.undef, SV.undef, SV.undef, SV.undef, SV.undef, (SV.a (SA.c (SC.obj 0 v0))), (SV.a (SA.c (SC.il (1048576 : Int)))), (SV.a (SA.c (SC.int z4))), (SV.a (SA.c (SC.int z4))), (SV.a (SA.c (SC.lit Bool.false))), (SV.a (SA.c (SC.obj 1 v1))), (SV.a (SA.c (SC.int z4))), (SV.a (SA.c (SC.int z6))), (SV.a (SA.c (SC.int z6))), (SV.a (SA.c (SC.lit Bool.false))), (SV.tup [(SA.c (SC.obj 8 v'12)), (SA.c (SC.bool (scOk aGGroups aGBanks aGRows aGCols x0 (x1).1 (x1).2 (x1).3 (x1).4 (x1).5 (x1).6)))]), (SV.a (SA.agg [(SC.int aGGroups), (SC.int aGBanks), (SC.int aGRows), (SC.int aGCols)])), (SV.a (SA.agg [(SC.int aGGroups), (SC.int aGBanks), (SC.int aGRows), (SC.int aGCols)])), (SV.a (SA.c (SC.obj 0 v0))), (SV.a (SA.c (SC.obj 6 v'8))), (SV.a (SA.c (SC.obj 1 v1))), (SV.a (SA.c (SC.obj 7 v'10))), (SV.tup [(SA.c (SC.obj 8 v'12)), (SA.c (SC.bool (scOk aGGroups aGBanks aGRows aGCols x0 (x1).1 (x1).2 (x1).3 (x1).4 (x1).5 (x1).6)))]), (SV.a (SA.c (SC.obj 8 v'12))), (SV.a (SA.c (SC.bool (scOk aGGroups aGBanks aGRows aGCols x0 (x1).1 (x1).2 (x1).3 (x1).4 (x1).5 (x1).6)))), (SV.a (SA.c (SC.obj 0 v0))), (SV.a (SA.c (SC.obj 9 v'14))), (SV.a (SA.c (SC.obj 1 v1))), (SV.a (SA.c (SC.obj 11 v'17))), (SV.tup [(SA.c (SC.obj 14 v'135)), (SA.c (SC.bool (scOk aGGroups aGBanks aGRows aGCols x0 (x1).1 (x1).2 (x1).3 (x1).4 (x1).5 (x1).6)))]), (SV.a (SA.agg [(SC.int aGGroups), (SC.int aGBanks), (SC.int aGRows), (SC.int aGCols)])), (SV.a (SA.agg [(SC.int aGGroups), (SC.int aGBanks), (SC.int aGRows), (SC.int aGCols)])), (SV.a (SA.c (SC.obj 9 v'14))), (SV.a (SA.c (SC.obj 11 v'17))), (SV.tup [(SA.c (SC.obj 14 v'135)), (SA.c (SC.bool (scOk aGGroups aGBanks aGRows aGCols x0 (x1).1 (x1).2 (x1).3 (x1).4 (x1).5 (x1).6)))]), (SV.a (SA.c (SC.obj 14 v'135))), (SV.a (SA.c (SC.bool (scOk aGGroups aGBanks aGRows aGCols x0 (x1).1 (x1).2 (x1).3 (x1).4 (x1).5 (x1).6)))), SV.undef, SV.undef, SV.undef, SV.undef, SV.undef, SV.undef, SV.undef, SV.undef, SV.undef, SV.undef, SV.undef, SV.undef, SV.undef, SV.undef, SV.undef, SV.undef, SV.undef, SV.undef, SV.undef, SV.undef, SV.undef, SV.undef, SV.undef, SV.undef, SV.undef, SV.undef, SV.undef, SV.undef, SV.undef, SV.undef, SV.undef, SV.undef, SV.undef, SV.undef, SV.undef, SV.undef, SV.undef, SV.undef, SV.undef, SV.undef, SV.undef, SV.undef, SV.undef, SV.undef, SV.undef, SV.undef, SV.undef, SV.undef, SV.undef, SV.undef, SV.undef, SV.undef, SV.undef, SV.undef, SV.undef, SV.undef, SV.undef, SV.undef, SV.undef, SV.undef, SV.undef, SV.undef, SV.undef, SV.undef, SV.undef, SV.undef, SV.undef, SV.undef, SV.undef, SV.undef, SV.undef, SV.undef, SV.undef, SV.undef, SV.undef, SV.undef] [(Ch.obj Bool.false rs0), (Ch.obj Bool.false rs1), (Ch.cells b0 23 [(SC.int aGGroups), (SC.int aGBanks), (SC.int aGRows), (SC.int aGCols)]), (Ch.whole b1 27 Bool.true 3 (SC.obj 0 v0)), (Ch.whole b2 48 Bool.true 6 (SC.obj 1 v1)), (Ch.whole b7 33 Bool.true 3 (SC.obj 8 v'12)), (Ch.obj Bool.true rs'9), (Ch.obj Bool.true rs'11), (Ch.obj Bool.true rs'13), (Ch.obj Bool.true rs'15), (Ch.whole b16 33 Bool.true 3 (SC.obj 9 v'14)), (Ch.obj Bool.true rs'18), (Ch.whole b19 54 Bool.true 6 (SC.obj 11 v'17)), (Ch.whole b134 33 Bool.true 3 (SC.obj 14 v'135)), (Ch.obj Bool.true rs'136)])))))))))) →
 (Q133 [(SV.a (SA.agg [(SC.int aGGroups), (SC.int aGBanks), (SC.int aGRows), (SC.int aGCols)])), (SV.a (SA.c (SC.obj 0 v0))), (SV.a (SA.c (SC.obj 1 v1))), (SV.a (SA.c (SC.ptr 2 b0 0))), (SV.a (SA.c (SC.ptr 3 b1 0))), (SV.a (SA.c (SC.ptr 4 b2 0))), (SV.a (SA.c (SC.lit Bool.false))), (SV.a (SA.c (SC.int z6))), (SV.a (SA.c (SC.ptr 5 b7 0))), (SV.a (SA.c (SC.bool (scOk aGGroups aGBanks aGRows aGCols x0 (x1).1 (x1).2 (x1).3 (x1).4 (x1).5 (x1).6)))), (SV.a (SA.c (SC.ptr 10 b16 0))), (SV.a (SA.c (SC.ptr 12 b19 0))), (SV.a (SA.c (SC.ptr 13 b130 0))), (SV.a (SA.c (SC.bool (scOk aGGroups aGBanks aGRows aGCols x0 (x1).1 (x1).2 (x1).3 (x1).4 (x1).5 (x1).6)))), SV.undef, SV.undef, SV.undef, SV.undef, SV.undef, (SV.a (SA.c (SC.obj 0 v0))), (SV.a (SA.c (SC.il (1048576 : Int)))), (SV.a (SA.c (SC.int z4))), (SV.a (SA.c (SC.int z4))), (SV.a (SA.c (SC.lit Bool.false))), (SV.a (SA.c (SC.obj 1 v1))), (SV.a (SA.c (SC.int z4))), (SV.a (SA.c (SC.int z6))), (SV.a (SA.c (SC.int z6))), (SV.a (SA.c (SC.lit Bool.false))), (SV.tup [(SA.c (SC.obj 8 v'12)), (SA.c (SC.bool (scOk aGGroups aGBanks aGRows aGCols x0 (x1).1 (x1).2 (x1).3 (x1).4 (x1).5 (x1).6)))]), (SV.a (SA.agg [(SC.int aGGroups), (SC.int aGBanks), (SC.int aGRows), (SC.int aGCols)])), (SV.a (SA.agg [(SC.int aGGroups), (SC.int aGBanks), (SC.int aGRows), (SC.int aGCols)])), (SV.a (SA.c (SC.obj 0 v0))), (SV.a (SA.c (SC.obj 6 v'8))), (SV.a (SA.c (SC.obj 1 v1))), (SV.a (SA.c (SC.obj 7 v'10))), (SV.tup [(SA.c (SC.obj 8 v'12)), (SA.c (SC.bool (scOk aGGroups aGBanks aGRows aGCols x0 (x1).1 (x1).2 (x1).3 (x1).4 (x1).5 (x1).6)))]), (SV.a (SA.c (SC.obj 8 v'12))), (SV.a (SA.c (SC.bool (scOk aGGroups aGBanks aGRows aGCols x0 (x1).1 (x1).2 (x1).3 (x1).4 (x1).5 (x1).6)))), (SV.a (SA.c (SC.obj 0 v0))), (SV.a (SA.c (SC.obj 9 v'14))), (SV.a (SA.c (SC.obj 1 v1))), (SV.a (SA.c (SC.obj 11 v'17))), (SV.tup [(SA.c (SC.obj 14 v'131)), (SA.c (SC.bool (scOk aGGroups aGBanks aGRows aGCols x0 (x1).1 (x1).2 (x1).3 (x1).4 (x1).5 (x1).6)))]), (SV.a (SA.agg [(SC.int aGGroups), (SC.int aGBanks), (SC.int aGRows), (SC.int aGCols)])), (SV.a (SA.agg [(SC.int aGGroups), (SC.int aGBanks), (SC.int aGRows), (SC.int aGCols)])), (SV.a (SA.c (SC.obj 9 v'14))), (SV.a (SA.c (SC.obj 11 v'17))), (SV.tup [(SA.c (SC.obj 14 v'131)), (SA.c (SC.bool (scOk aGGroups aGBanks aGRows aGCols x0 (x1).1 (x1).2 (x1).3 (x1).4 (x1).5 (x1).6)))]), (SV.a (SA.c (SC.obj 14 v'131))), (SV.a (SA.c (SC.bool (scOk aGGroups aGBanks aGRows aGCols x0 (x1).1 (x1).2 (x1).3 (x1).4 (x1).5 (x1).6)))), SV.undef, SV.undef, SV.undef, SV.undef, SV.undef, SV.undef, SV.undef, SV.undef, SV.undef, SV.undef, SV.undef, SV.undef, SV.undef, SV.undef, SV.undef, SV.undef, SV.undef, SV.undef, SV.undef, SV.undef, SV.undef, SV.undef, SV.undef, SV.undef, SV.undef, SV.undef, SV.undef, SV.undef, SV.undef, SV.undef, SV.undef, SV.undef, SV.undef, SV.undef, SV.undef, SV.undef, SV.undef, SV.undef, SV.undef, SV.undef, SV.undef, SV.undef, SV.undef, SV.undef, SV.undef, SV.undef, SV.undef, SV.undef, SV.undef, SV.undef, SV.undef, SV.undef, SV.undef, SV.undef, SV.undef, SV.undef, SV.undef, SV.undef, SV.undef, SV.undef, SV.undef, SV.undef, SV.undef, SV.undef, SV.undef, SV.undef, SV.undef, SV.undef, SV.undef, SV.undef, SV.undef, SV.undef, SV.undef, SV.undef, SV.undef, SV.undef] [(Ch.obj Bool.false rs0), (Ch.obj Bool.false rs1), (Ch.cells b0 23 [(SC.int aGGroups), (SC.int aGBanks), (SC.int aGRows), (SC.int aGCols)]), (Ch.whole b1 27 Bool.true 3 (SC.obj 0 v0)), (Ch.whole b2 48 Bool.true 6 (SC.obj 1 v1)), (Ch.whole b7 33 Bool.true 3 (SC.obj 8 v'12)), (Ch.obj Bool.true rs'9), (Ch.obj Bool.true rs'11), (Ch.obj Bool.true rs'13), (Ch.obj Bool.true rs'15), (Ch.whole b16 33 Bool.true 3 (SC.obj 9 v'14)), (Ch.obj Bool.true rs'18), (Ch.whole b19 54 Bool.true 6 (SC.obj 11 v'17)), (Ch.whole b130 33 Bool.true 3 (SC.obj 14 v'131)), (Ch.obj Bool.true rs'132)])))))))))))))))))))))))))))))))))))))))))))))))))) ∧
 (b0 = b0 ∧
 (b1 = b1 ∧
 (b2 = b2 ∧
 ((True ∧
 ((((isArray v0 x0 rs0) ∧
 (capAx x0)) ∧
 (∀ v'137 : Value,
 (∀ rs'138 : (List Row),
 ((isArray v'137 x0 rs'138) →
 (True ∧
 ((((isTicket v1 x1 rs1) ∧
 (capTicket x1)) ∧
 (∀ v'139 : Value,
 (∀ rs'140 : (List Row),
 ((isTicket v'139 x1 rs'140) →
 (True ∧
 ((((isArray v'137 x0 rs'138) ∧
 ((isTicket v'139 x1 rs'140) ∧
 ((capAx x0) ∧
 (capTicket x1)))) ∧
 (∀ v'141 : Value,
 (∀ rs'142 : (List Row),
 ((isArray v'141 (scA aGGroups aGBanks aGRows aGCols x0 (x1).1 (x1).2 (x1).3 (x1).4 (x1).5 (x1).6 (x1).7) rs'142) →
 (True ∧
 (∀ b143 : Nat,
 (True ∧
 ((b143 = b143 ∧
 (wholeC Bool.true v'141 3)) ∧
 (True ∧
 (Bool.true = Bool.true ∧
 (∀ Q144 : ((List SV) →
 ((List Ch) →
 Prop)),
 ((∀ b145 : Nat,
 (b0 = b0 ∧
 (b1 = b1 ∧
 (((isArray v0 x0 rs0) ∧
 (capAx x0)) ∧
 (∀ v'146 : Value,
 (∀ rs'147 : (List Row),
 ((isArray v'146 x0 rs'147) →
 (b2 = b2 ∧
 (((isTicket v1 x1 rs1) ∧
 (capTicket x1)) ∧
 (∀ v'148 : Value,
 (∀ rs'149 : (List Row),
 ((isTicket v'148 x1 rs'149) →
 (((isArray v'146 x0 rs'147) ∧
 ((isTicket v'148 x1 rs'149) ∧
 ((capAx x0) ∧
 (capTicket x1)))) ∧
 (∀ v'150 : Value,
 (∀ rs'151 : (List Row),
 ((isArray v'150 (scA aGGroups aGBanks aGRows aGCols x0 (x1).1 (x1).2 (x1).3 (x1).4 (x1).5 (x1).6 (x1).7) rs'151) →
 ((b145 = b145 ∧
 (wholeC Bool.true v'150 3)) ∧
 (Q144 [(SV.a (SA.agg [(SC.int aGGroups), (SC.int aGBanks), (SC.int aGRows), (SC.int aGCols)])), (SV.a (SA.c (SC.obj 0 v0))), (SV.a (SA.c (SC.obj 1 v1))), (SV.a (SA.c (SC.ptr 2 b0 0))), (SV.a (SA.c (SC.ptr 3 b1 0))), (SV.a (SA.c (SC.ptr 4 b2 0))), (SV.a (SA.c (SC.lit Bool.false))), (SV.a (SA.c (SC.int z6))), (SV.a (SA.c (SC.ptr 5 b145 0))), (SV.a (SA.c (SC.bool (scOk aGGroups aGBanks aGRows aGCols x0 (x1).1 (x1).2 (x1).3 (x1).4 (x1).5 (x1).6)))), SV.undef, SV.undef, SV.undef, SV.undef, SV.undef, SV.undef, SV.undef, SV.undef, SV.undef, (SV.a (SA.c (SC.obj 0 v0))), (SV.a (SA.c (SC.il (1048576 : Int)))), (SV.a (SA.c (SC.int z4))), (SV.a (SA.c (SC.int z4))), (SV.a (SA.c (SC.lit Bool.false))), (SV.a (SA.c (SC.obj 1 v1))), (SV.a (SA.c (SC.int z4))), (SV.a (SA.c (SC.int z6))), (SV.a (SA.c (SC.int z6))), (SV.a (SA.c (SC.lit Bool.false))), (SV.tup [(SA.c (SC.obj 8 v'150)), (SA.c (SC.bool (scOk aGGroups aGBanks aGRows aGCols x0 (x1).1 (x1).2 (x1).3 (x1).4 (x1).5 (x1).6)))]), (SV.a (SA.agg [(SC.int aGGroups), (SC.int aGBanks), (SC.int aGRows), (SC.int aGCols)])), (SV.a (SA.agg [(SC.int aGGroups), (SC.int aGBanks), (SC.int aGRows), (SC.int aGCols)])), (SV.a (SA.c (SC.obj 0 v0))), (SV.a (SA.c (SC.obj 6 v'146))), (SV.a (SA.c (SC.obj 1 v1))), (SV.a (SA.c (SC.obj 7 v'148))), (SV.tup [(SA.c (SC.obj 8 v'150)), (SA.c (SC.bool (scOk aGGroups aGBanks aGRows aGCols x0 (x1).1 (x1).2 (x1).3 (x1).4 (x1).5 (x1).6)))]), (SV.a (SA.c (SC.obj 8 v'150))), (SV.a (SA.c (SC.bool (scOk aGGroups aGBanks aGRows aGCols x0 (x1).1 (x1).2 (x1).3 (x1).4 (x1).5 (x1).6)))), SV.undef, SV.undef, SV.undef, SV.undef, SV.undef, SV.undef, SV.undef, SV.undef, SV.undef, SV.undef, SV.undef, SV.undef, SV.undef, SV.undef, SV.undef, SV.undef, SV.undef, SV.undef, SV.undef, SV.undef, SV.undef, SV.undef, SV.undef, SV.undef, SV.undef, SV.undef, SV.undef, SV.undef, SV.undef, SV.undef, SV.undef, SV.undef, SV.undef, SV.undef, SV.undef, SV.undef, SV.undef, SV.undef, SV.undef, SV.undef, SV.undef, SV.undef, SV.undef, SV.undef, SV.undef, SV.undef, SV.undef, SV.undef, SV.undef, SV.undef, SV.undef, SV.undef, SV.undef, SV.undef, SV.undef, SV.undef, SV.undef, SV.undef, SV.undef, SV.undef, SV.undef, SV.undef, SV.undef, SV.undef, SV.undef, SV.undef, SV.undef, SV.undef, SV.undef, SV.undef, SV.undef, SV.undef, SV.undef, SV.undef, SV.undef, SV.undef, SV.undef, SV.undef, SV.undef, SV.undef, SV.undef, SV.undef, SV.undef, SV.undef, SV.undef, SV.undef, SV.undef, SV.undef] [(Ch.obj Bool.false rs0), (Ch.obj Bool.false rs1), (Ch.cells b0 23 [(SC.int aGGroups), (SC.int aGBanks), (SC.int aGRows), (SC.int aGCols)]), (Ch.whole b1 27 Bool.true 3 (SC.obj 0 v0)), (Ch.whole b2 48 Bool.true 6 (SC.obj 1 v1)), (Ch.whole b145 33 Bool.true 3 (SC.obj 8 v'150)), (Ch.obj Bool.true rs'147), (Ch.obj Bool.true rs'149), (Ch.obj Bool.true rs'151)])))))))))))))))))) →
 (Q144 [(SV.a (SA.agg [(SC.int aGGroups), (SC.int aGBanks), (SC.int aGRows), (SC.int aGCols)])), (SV.a (SA.c (SC.obj 0 v0))), (SV.a (SA.c (SC.obj 1 v1))), (SV.a (SA.c (SC.ptr 2 b0 0))), (SV.a (SA.c (SC.ptr 3 b1 0))), (SV.a (SA.c (SC.ptr 4 b2 0))), (SV.a (SA.c (SC.lit Bool.false))), (SV.a (SA.c (SC.int z6))), (SV.a (SA.c (SC.ptr 5 b143 0))), (SV.a (SA.c (SC.bool (scOk aGGroups aGBanks aGRows aGCols x0 (x1).1 (x1).2 (x1).3 (x1).4 (x1).5 (x1).6)))), SV.undef, SV.undef, SV.undef, SV.undef, SV.undef, SV.undef, SV.undef, SV.undef, SV.undef, (SV.a (SA.c (SC.obj 0 v0))), (SV.a (SA.c (SC.il (1048576 : Int)))), (SV.a (SA.c (SC.int z4))), (SV.a (SA.c (SC.int z4))), (SV.a (SA.c (SC.lit Bool.false))), (SV.a (SA.c (SC.obj 1 v1))), (SV.a (SA.c (SC.int z4))), (SV.a (SA.c (SC.int z6))), (SV.a (SA.c (SC.int z6))), (SV.a (SA.c (SC.lit Bool.false))), (SV.tup [(SA.c (SC.obj 8 v'141)), (SA.c (SC.bool (scOk aGGroups aGBanks aGRows aGCols x0 (x1).1 (x1).2 (x1).3 (x1).4 (x1).5 (x1).6)))]), (SV.a (SA.agg [(SC.int aGGroups), (SC.int aGBanks), (SC.int aGRows), (SC.int aGCols)])), (SV.a (SA.agg [(SC.int aGGroups), (SC.int aGBanks), (SC.int aGRows), (SC.int aGCols)])), (SV.a (SA.c (SC.obj 0 v0))), (SV.a (SA.c (SC.obj 6 v'137))), (SV.a (SA.c (SC.obj 1 v1))), (SV.a (SA.c (SC.obj 7 v'139))), (SV.tup [(SA.c (SC.obj 8 v'141)), (SA.c (SC.bool (scOk aGGroups aGBanks aGRows aGCols x0 (x1).1 (x1).2 (x1).3 (x1).4 (x1).5 (x1).6)))]), (SV.a (SA.c (SC.obj 8 v'141))), (SV.a (SA.c (SC.bool (scOk aGGroups aGBanks aGRows aGCols x0 (x1).1 (x1).2 (x1).3 (x1).4 (x1).5 (x1).6)))), SV.undef, SV.undef, SV.undef, SV.undef, SV.undef, SV.undef, SV.undef, SV.undef, SV.undef, SV.undef, SV.undef, SV.undef, SV.undef, SV.undef, SV.undef, SV.undef, SV.undef, SV.undef, SV.undef, SV.undef, SV.undef, SV.undef, SV.undef, SV.undef, SV.undef, SV.undef, SV.undef, SV.undef, SV.undef, SV.undef, SV.undef, SV.undef, SV.undef, SV.undef, SV.undef, SV.undef, SV.undef, SV.undef, SV.undef, SV.undef, SV.undef, SV.undef, SV.undef, SV.undef, SV.undef, SV.undef, SV.undef, SV.undef, SV.undef, SV.undef, SV.undef, SV.undef, SV.undef, SV.undef, SV.undef, SV.undef, SV.undef, SV.undef, SV.undef, SV.undef, SV.undef, SV.undef, SV.undef, SV.undef, SV.undef, SV.undef, SV.undef, SV.undef, SV.undef, SV.undef, SV.undef, SV.undef, SV.undef, SV.undef, SV.undef, SV.undef, SV.undef, SV.undef, SV.undef, SV.undef, SV.undef, SV.undef, SV.undef, SV.undef, SV.undef, SV.undef, SV.undef, SV.undef] [(Ch.obj Bool.false rs0), (Ch.obj Bool.false rs1), (Ch.cells b0 23 [(SC.int aGGroups), (SC.int aGBanks), (SC.int aGRows), (SC.int aGCols)]), (Ch.whole b1 27 Bool.true 3 (SC.obj 0 v0)), (Ch.whole b2 48 Bool.true 6 (SC.obj 1 v1)), (Ch.whole b143 33 Bool.true 3 (SC.obj 8 v'141)), (Ch.obj Bool.true rs'138), (Ch.obj Bool.true rs'140), (Ch.obj Bool.true rs'142)]))))))))))))) ∧
 (∀ b152 : Nat,
 (True ∧
 (((isArray v'137 x0 rs'138) ∧
 ((isTicket v'139 x1 rs'140) ∧
 ((capAx x0) ∧
 (capTicket x1)))) ∧
 (∀ v'153 : Value,
 (∀ rs'154 : (List Row),
 ((isArray v'153 (scA aGGroups aGBanks aGRows aGCols x0 (x1).1 (x1).2 (x1).3 (x1).4 (x1).5 (x1).6 (x1).7) rs'154) →
 (True ∧
 ((b152 = b152 ∧
 (wholeC Bool.true v'153 3)) ∧
 (True ∧
 (Bool.true = Bool.true ∧
 (∀ Q155 : ((List SV) →
 ((List Ch) →
 Prop)),
 ((∀ b156 : Nat,
 (b0 = b0 ∧
 (b1 = b1 ∧
 (((isArray v0 x0 rs0) ∧
 (capAx x0)) ∧
 (∀ v'157 : Value,
 (∀ rs'158 : (List Row),
 ((isArray v'157 x0 rs'158) →
 (b2 = b2 ∧
 (((isTicket v1 x1 rs1) ∧
 (capTicket x1)) ∧
 (∀ v'159 : Value,
 (∀ rs'160 : (List Row),
 ((isTicket v'159 x1 rs'160) →
 (((isArray v'157 x0 rs'158) ∧
 ((isTicket v'159 x1 rs'160) ∧
 ((capAx x0) ∧
 (capTicket x1)))) ∧
 (∀ v'161 : Value,
 (∀ rs'162 : (List Row),
 ((isArray v'161 (scA aGGroups aGBanks aGRows aGCols x0 (x1).1 (x1).2 (x1).3 (x1).4 (x1).5 (x1).6 (x1).7) rs'162) →
 ((b156 = b156 ∧
 (wholeC Bool.true v'161 3)) ∧
 (Q155 [(SV.a (SA.agg [(SC.int aGGroups), (SC.int aGBanks), (SC.int aGRows), (SC.int aGCols)])), (SV.a (SA.c (SC.obj 0 v0))), (SV.a (SA.c (SC.obj 1 v1))), (SV.a (SA.c (SC.ptr 2 b0 0))), (SV.a (SA.c (SC.ptr 3 b1 0))), (SV.a (SA.c (SC.ptr 4 b2 0))), (SV.a (SA.c (SC.lit Bool.false))), (SV.a (SA.c (SC.int z6))), (SV.a (SA.c (SC.ptr 5 b156 0))), (SV.a (SA.c (SC.bool (scOk aGGroups aGBanks aGRows aGCols x0 (x1).1 (x1).2 (x1).3 (x1).4 (x1).5 (x1).6)))), SV.undef, SV.undef, SV.undef, SV.undef, SV.undef, SV.undef, SV.undef, SV.undef, SV.undef, (SV.a (SA.c (SC.obj 0 v0))), (SV.a (SA.c (SC.il (1048576 : Int)))), (SV.a (SA.c (SC.int z4))), (SV.a (SA.c (SC.int z4))), (SV.a (SA.c (SC.lit Bool.false))), (SV.a (SA.c (SC.obj 1 v1))), (SV.a (SA.c (SC.int z4))), (SV.a (SA.c (SC.int z6))), (SV.a (SA.c (SC.int z6))), (SV.a (SA.c (SC.lit Bool.false))), (SV.tup [(SA.c (SC.obj 8 v'161)), (SA.c (SC.bool (scOk aGGroups aGBanks aGRows aGCols x0 (x1).1 (x1).2 (x1).3 (x1).4 (x1).5 (x1).6)))]), (SV.a (SA.agg [(SC.int aGGroups), (SC.int aGBanks), (SC.int aGRows), (SC.int aGCols)])), (SV.a (SA.agg [(SC.int aGGroups), (SC.int aGBanks), (SC.int aGRows), (SC.int aGCols)])), (SV.a (SA.c (SC.obj 0 v0))), (SV.a (SA.c (SC.obj 6 v'157))), (SV.a (SA.c (SC.obj 1 v1))), (SV.a (SA.c (SC.obj 7 v'159))), (SV.tup [(SA.c (SC.obj 8 v'161)), (SA.c (SC.bool (scOk aGGroups aGBanks aGRows aGCols x0 (x1).1 (x1).2 (x1).3 (x1).4 (x1).5 (x1).6)))]), (SV.a (SA.c (SC.obj 8 v'161))), (SV.a (SA.c (SC.bool (scOk aGGroups aGBanks aGRows aGCols x0 (x1).1 (x1).2 (x1).3 (x1).4 (x1).5 (x1).6)))), SV.undef, SV.undef, SV.undef, SV.undef, SV.undef, SV.undef, SV.undef, SV.undef, SV.undef, SV.undef, SV.undef, SV.undef, SV.undef, SV.undef, SV.undef, SV.undef, SV.undef, SV.undef, SV.undef, SV.undef, SV.undef, SV.undef, SV.undef, SV.undef, SV.undef, SV.undef, SV.undef, SV.undef, SV.undef, SV.undef, SV.undef, SV.undef, SV.undef, SV.undef, SV.undef, SV.undef, SV.undef, SV.undef, SV.undef, SV.undef, SV.undef, SV.undef, SV.undef, SV.undef, SV.undef, SV.undef, SV.undef, SV.undef, SV.undef, SV.undef, SV.undef, SV.undef, SV.undef, SV.undef, SV.undef, SV.undef, SV.undef, SV.undef, SV.undef, SV.undef, SV.undef, SV.undef, SV.undef, SV.undef, SV.undef, SV.undef, SV.undef, SV.undef, SV.undef, SV.undef, SV.undef, SV.undef, SV.undef, SV.undef, SV.undef, SV.undef, SV.undef, SV.undef, SV.undef, SV.undef, SV.undef, SV.undef, SV.undef, SV.undef, SV.undef, SV.undef, SV.undef, SV.undef] [(Ch.obj Bool.false rs0), (Ch.obj Bool.false rs1), (Ch.cells b0 23 [(SC.int aGGroups), (SC.int aGBanks), (SC.int aGRows), (SC.int aGCols)]), (Ch.whole b1 27 Bool.true 3 (SC.obj 0 v0)), (Ch.whole b2 48 Bool.true 6 (SC.obj 1 v1)), (Ch.whole b156 33 Bool.true 3 (SC.obj 8 v'161)), (Ch.obj Bool.true rs'158), (Ch.obj Bool.true rs'160), (Ch.obj Bool.true rs'162)])))))))))))))))))) →
 (Q155 [(SV.a (SA.agg [(SC.int aGGroups), (SC.int aGBanks), (SC.int aGRows), (SC.int aGCols)])), (SV.a (SA.c (SC.obj 0 v0))), (SV.a (SA.c (SC.obj 1 v1))), (SV.a (SA.c (SC.ptr 2 b0 0))), (SV.a (SA.c (SC.ptr 3 b1 0))), (SV.a (SA.c (SC.ptr 4 b2 0))), (SV.a (SA.c (SC.lit Bool.false))), (SV.a (SA.c (SC.int z6))), (SV.a (SA.c (SC.ptr 5 b152 0))), (SV.a (SA.c (SC.bool (scOk aGGroups aGBanks aGRows aGCols x0 (x1).1 (x1).2 (x1).3 (x1).4 (x1).5 (x1).6)))), SV.undef, SV.undef, SV.undef, SV.undef, SV.undef, SV.undef, SV.undef, SV.undef, SV.undef, (SV.a (SA.c (SC.obj 0 v0))), (SV.a (SA.c (SC.il (1048576 : Int)))), (SV.a (SA.c (SC.int z4))), (SV.a (SA.c (SC.int z4))), (SV.a (SA.c (SC.lit Bool.false))), (SV.a (SA.c (SC.obj 1 v1))), (SV.a (SA.c (SC.int z4))), (SV.a (SA.c (SC.int z6))), (SV.a (SA.c (SC.int z6))), (SV.a (SA.c (SC.lit Bool.false))), (SV.tup [(SA.c (SC.obj 8 v'153)), (SA.c (SC.bool (scOk aGGroups aGBanks aGRows aGCols x0 (x1).1 (x1).2 (x1).3 (x1).4 (x1).5 (x1).6)))]), (SV.a (SA.agg [(SC.int aGGroups), (SC.int aGBanks), (SC.int aGRows), (SC.int aGCols)])), (SV.a (SA.agg [(SC.int aGGroups), (SC.int aGBanks), (SC.int aGRows), (SC.int aGCols)])), (SV.a (SA.c (SC.obj 0 v0))), (SV.a (SA.c (SC.obj 6 v'137))), (SV.a (SA.c (SC.obj 1 v1))), (SV.a (SA.c (SC.obj 7 v'139))), (SV.tup [(SA.c (SC.obj 8 v'153)), (SA.c (SC.bool (scOk aGGroups aGBanks aGRows aGCols x0 (x1).1 (x1).2 (x1).3 (x1).4 (x1).5 (x1).6)))]), (SV.a (SA.c (SC.obj 8 v'153))), (SV.a (SA.c (SC.bool (scOk aGGroups aGBanks aGRows aGCols x0 (x1).1 (x1).2 (x1).3 (x1).4 (x1).5 (x1).6)))), SV.undef, SV.undef, SV.undef, SV.undef, SV.undef, SV.undef, SV.undef, SV.undef, SV.undef, SV.undef, SV.undef, SV.undef, SV.undef, SV.undef, SV.undef, SV.undef, SV.undef, SV.undef, SV.undef, SV.undef, SV.undef, SV.undef, SV.undef, SV.undef, SV.undef, SV.undef, SV.undef, SV.undef, SV.undef, SV.undef, SV.undef, SV.undef, SV.undef, SV.undef, SV.undef, SV.undef, SV.undef, SV.undef, SV.undef, SV.undef, SV.undef, SV.undef, SV.undef, SV.undef, SV.undef, SV.undef, SV.undef, SV.undef, SV.undef, SV.undef, SV.undef, SV.undef, SV.undef, SV.undef, SV.undef, SV.undef, SV.undef, SV.undef, SV.undef, SV.undef, SV.undef, SV.undef, SV.undef, SV.undef, SV.undef, SV.undef, SV.undef, SV.undef, SV.undef, SV.undef, SV.undef, SV.undef, SV.undef, SV.undef, SV.undef, SV.undef, SV.undef, SV.undef, SV.undef, SV.undef, SV.undef, SV.undef, SV.undef, SV.undef, SV.undef, SV.undef, SV.undef, SV.undef] [(Ch.obj Bool.false rs0), (Ch.obj Bool.false rs1), (Ch.cells b0 23 [(SC.int aGGroups), (SC.int aGBanks), (SC.int aGRows), (SC.int aGCols)]), (Ch.whole b1 27 Bool.true 3 (SC.obj 0 v0)), (Ch.whole b2 48 Bool.true 6 (SC.obj 1 v1)), (Ch.whole b152 33 Bool.true 3 (SC.obj 8 v'153)), (Ch.obj Bool.true rs'138), (Ch.obj Bool.true rs'140), (Ch.obj Bool.true rs'154)]))))))))))))))))))) ∧
 (∀ b163 : Nat,
 (True ∧
 (((isTicket v1 x1 rs1) ∧
 (capTicket x1)) ∧
 (∀ v'164 : Value,
 (∀ rs'165 : (List Row),
 ((isTicket v'164 x1 rs'165) →
 (True ∧
 (((isArray v'137 x0 rs'138) ∧
 ((isTicket v'164 x1 rs'165) ∧
 ((capAx x0) ∧
 (capTicket x1)))) ∧
 (∀ v'166 : Value,
 (∀ rs'167 : (List Row),
 ((isArray v'166 (scA aGGroups aGBanks aGRows aGCols x0 (x1).1 (x1).2 (x1).3 (x1).4 (x1).5 (x1).6 (x1).7) rs'167) →
 (True ∧
 ((b163 = b163 ∧
 (wholeC Bool.true v'166 3)) ∧
 (True ∧
 (Bool.true = Bool.true ∧
 (∀ Q168 : ((List SV) →
 ((List Ch) →
 Prop)),
 ((∀ b169 : Nat,
 (b0 = b0 ∧
 (b1 = b1 ∧
 (((isArray v0 x0 rs0) ∧
 (capAx x0)) ∧
 (∀ v'170 : Value,
 (∀ rs'171 : (List Row),
 ((isArray v'170 x0 rs'171) →
 (b2 = b2 ∧
 (((isTicket v1 x1 rs1) ∧
 (capTicket x1)) ∧
 (∀ v'172 : Value,
 (∀ rs'173 : (List Row),
 ((isTicket v'172 x1 rs'173) →
 (((isArray v'170 x0 rs'171) ∧
 ((isTicket v'172 x1 rs'173) ∧
 ((capAx x0) ∧
 (capTicket x1)))) ∧
 (∀ v'174 : Value,
 (∀ rs'175 : (List Row),
 ((isArray v'174 (scA aGGroups aGBanks aGRows aGCols x0 (x1).1 (x1).2 (x1).3 (x1).4 (x1).5 (x1).6 (x1).7) rs'175) →
 ((b169 = b169 ∧
 (wholeC Bool.true v'174 3)) ∧
 (Q168 [(SV.a (SA.agg [(SC.int aGGroups), (SC.int aGBanks), (SC.int aGRows), (SC.int aGCols)])), (SV.a (SA.c (SC.obj 0 v0))), (SV.a (SA.c (SC.obj 1 v1))), (SV.a (SA.c (SC.ptr 2 b0 0))), (SV.a (SA.c (SC.ptr 3 b1 0))), (SV.a (SA.c (SC.ptr 4 b2 0))), (SV.a (SA.c (SC.lit Bool.false))), (SV.a (SA.c (SC.int z6))), (SV.a (SA.c (SC.ptr 5 b169 0))), (SV.a (SA.c (SC.bool (scOk aGGroups aGBanks aGRows aGCols x0 (x1).1 (x1).2 (x1).3 (x1).4 (x1).5 (x1).6)))), SV.undef, SV.undef, SV.undef, SV.undef, SV.undef, SV.undef, SV.undef, SV.undef, SV.undef, (SV.a (SA.c (SC.obj 0 v0))), (SV.a (SA.c (SC.il (1048576 : Int)))), (SV.a (SA.c (SC.int z4))), (SV.a (SA.c (SC.int z4))), (SV.a (SA.c (SC.lit Bool.false))), (SV.a (SA.c (SC.obj 1 v1))), (SV.a (SA.c (SC.int z4))), (SV.a (SA.c (SC.int z6))), (SV.a (SA.c (SC.int z6))), (SV.a (SA.c (SC.lit Bool.false))), (SV.tup [(SA.c (SC.obj 8 v'174)), (SA.c (SC.bool (scOk aGGroups aGBanks aGRows aGCols x0 (x1).1 (x1).2 (x1).3 (x1).4 (x1).5 (x1).6)))]), (SV.a (SA.agg [(SC.int aGGroups), (SC.int aGBanks), (SC.int aGRows), (SC.int aGCols)])), (SV.a (SA.agg [(SC.int aGGroups), (SC.int aGBanks), (SC.int aGRows), (SC.int aGCols)])), (SV.a (SA.c (SC.obj 0 v0))), (SV.a (SA.c (SC.obj 6 v'170))), (SV.a (SA.c (SC.obj 1 v1))), (SV.a (SA.c (SC.obj 7 v'172))), (SV.tup [(SA.c (SC.obj 8 v'174)), (SA.c (SC.bool (scOk aGGroups aGBanks aGRows aGCols x0 (x1).1 (x1).2 (x1).3 (x1).4 (x1).5 (x1).6)))]), (SV.a (SA.c (SC.obj 8 v'174))), (SV.a (SA.c (SC.bool (scOk aGGroups aGBanks aGRows aGCols x0 (x1).1 (x1).2 (x1).3 (x1).4 (x1).5 (x1).6)))), SV.undef, SV.undef, SV.undef, SV.undef, SV.undef, SV.undef, SV.undef, SV.undef, SV.undef, SV.undef, SV.undef, SV.undef, SV.undef, SV.undef, SV.undef, SV.undef, SV.undef, SV.undef, SV.undef, SV.undef, SV.undef, SV.undef, SV.undef, SV.undef, SV.undef, SV.undef, SV.undef, SV.undef, SV.undef, SV.undef, SV.undef, SV.undef, SV.undef, SV.undef, SV.undef, SV.undef, SV.undef, SV.undef, SV.undef, SV.undef, SV.undef, SV.undef, SV.undef, SV.undef, SV.undef, SV.undef, SV.undef, SV.undef, SV.undef, SV.undef, SV.undef, SV.undef, SV.undef, SV.undef, SV.undef, SV.undef, SV.undef, SV.undef, SV.undef, SV.undef, SV.undef, SV.undef, SV.undef, SV.undef, SV.undef, SV.undef, SV.undef, SV.undef, SV.undef, SV.undef, SV.undef, SV.undef, SV.undef, SV.undef, SV.undef, SV.undef, SV.undef, SV.undef, SV.undef, SV.undef, SV.undef, SV.undef, SV.undef, SV.undef, SV.undef, SV.undef, SV.undef, SV.undef] [(Ch.obj Bool.false rs0), (Ch.obj Bool.false rs1), (Ch.cells b0 23 [(SC.int aGGroups), (SC.int aGBanks), (SC.int aGRows), (SC.int aGCols)]), (Ch.whole b1 27 Bool.true 3 (SC.obj 0 v0)), (Ch.whole b2 48 Bool.true 6 (SC.obj 1 v1)), (Ch.whole b169 33 Bool.true 3 (SC.obj 8 v'174)), (Ch.obj Bool.true rs'171), (Ch.obj Bool.true rs'173), (Ch.obj Bool.true rs'175)])))))))))))))))))) →
 (Q168 [(SV.a (SA.agg [(SC.int aGGroups), (SC.int aGBanks), (SC.int aGRows), (SC.int aGCols)])), (SV.a (SA.c (SC.obj 0 v0))), (SV.a (SA.c (SC.obj 1 v1))), (SV.a (SA.c (SC.ptr 2 b0 0))), (SV.a (SA.c (SC.ptr 3 b1 0))), (SV.a (SA.c (SC.ptr 4 b2 0))), (SV.a (SA.c (SC.lit Bool.false))), (SV.a (SA.c (SC.int z6))), (SV.a (SA.c (SC.ptr 5 b163 0))), (SV.a (SA.c (SC.bool (scOk aGGroups aGBanks aGRows aGCols x0 (x1).1 (x1).2 (x1).3 (x1).4 (x1).5 (x1).6)))), SV.undef, SV.undef, SV.undef, SV.undef, SV.undef, SV.undef, SV.undef, SV.undef, SV.undef, (SV.a (SA.c (SC.obj 0 v0))), (SV.a (SA.c (SC.il (1048576 : Int)))), (SV.a (SA.c (SC.int z4))), (SV.a (SA.c (SC.int z4))), (SV.a (SA.c (SC.lit Bool.false))), (SV.a (SA.c (SC.obj 1 v1))), (SV.a (SA.c (SC.int z4))), (SV.a (SA.c (SC.int z6))), (SV.a (SA.c (SC.int z6))), (SV.a (SA.c (SC.lit Bool.false))), (SV.tup [(SA.c (SC.obj 8 v'166)), (SA.c (SC.bool (scOk aGGroups aGBanks aGRows aGCols x0 (x1).1 (x1).2 (x1).3 (x1).4 (x1).5 (x1).6)))]), (SV.a (SA.agg [(SC.int aGGroups), (SC.int aGBanks), (SC.int aGRows), (SC.int aGCols)])), (SV.a (SA.agg [(SC.int aGGroups), (SC.int aGBanks), (SC.int aGRows), (SC.int aGCols)])), (SV.a (SA.c (SC.obj 0 v0))), (SV.a (SA.c (SC.obj 6 v'137))), (SV.a (SA.c (SC.obj 1 v1))), (SV.a (SA.c (SC.obj 7 v'164))), (SV.tup [(SA.c (SC.obj 8 v'166)), (SA.c (SC.bool (scOk aGGroups aGBanks aGRows aGCols x0 (x1).1 (x1).2 (x1).3 (x1).4 (x1).5 (x1).6)))]), (SV.a (SA.c (SC.obj 8 v'166))), (SV.a (SA.c (SC.bool (scOk aGGroups aGBanks aGRows aGCols x0 (x1).1 (x1).2 (x1).3 (x1).4 (x1).5 (x1).6)))), SV.undef, SV.undef, SV.undef, SV.undef, SV.undef, SV.undef, SV.undef, SV.undef, SV.undef, SV.undef, SV.undef, SV.undef, SV.undef, SV.undef, SV.undef, SV.undef, SV.undef, SV.undef, SV.undef, SV.undef, SV.undef, SV.undef, SV.undef, SV.undef, SV.undef, SV.undef, SV.undef, SV.undef, SV.undef, SV.undef, SV.undef, SV.undef, SV.undef, SV.undef, SV.undef, SV.undef, SV.undef, SV.undef, SV.undef, SV.undef, SV.undef, SV.undef, SV.undef, SV.undef, SV.undef, SV.undef, SV.undef, SV.undef, SV.undef, SV.undef, SV.undef, SV.undef, SV.undef, SV.undef, SV.undef, SV.undef, SV.undef, SV.undef, SV.undef, SV.undef, SV.undef, SV.undef, SV.undef, SV.undef, SV.undef, SV.undef, SV.undef, SV.undef, SV.undef, SV.undef, SV.undef, SV.undef, SV.undef, SV.undef, SV.undef, SV.undef, SV.undef, SV.undef, SV.undef, SV.undef, SV.undef, SV.undef, SV.undef, SV.undef, SV.undef, SV.undef, SV.undef, SV.undef] [(Ch.obj Bool.false rs0), (Ch.obj Bool.false rs1), (Ch.cells b0 23 [(SC.int aGGroups), (SC.int aGBanks), (SC.int aGRows), (SC.int aGCols)]), (Ch.whole b1 27 Bool.true 3 (SC.obj 0 v0)), (Ch.whole b2 48 Bool.true 6 (SC.obj 1 v1)), (Ch.whole b163 33 Bool.true 3 (SC.obj 8 v'166)), (Ch.obj Bool.true rs'138), (Ch.obj Bool.true rs'165), (Ch.obj Bool.true rs'167)])))))))))))))))))))))))) ∧
 (∀ b176 : Nat,
 (True ∧
 (((isArray v0 x0 rs0) ∧
 (capAx x0)) ∧
 (∀ v'177 : Value,
 (∀ rs'178 : (List Row),
 ((isArray v'177 x0 rs'178) →
 (True ∧
 (((isTicket v1 x1 rs1) ∧
 (capTicket x1)) ∧
 (∀ v'179 : Value,
 (∀ rs'180 : (List Row),
 ((isTicket v'179 x1 rs'180) →
 (True ∧
 (((isArray v'177 x0 rs'178) ∧
 ((isTicket v'179 x1 rs'180) ∧
 ((capAx x0) ∧
 (capTicket x1)))) ∧
 (∀ v'181 : Value,
 (∀ rs'182 : (List Row),
 ((isArray v'181 (scA aGGroups aGBanks aGRows aGCols x0 (x1).1 (x1).2 (x1).3 (x1).4 (x1).5 (x1).6 (x1).7) rs'182) →
 (True ∧
 ((b176 = b176 ∧
 (wholeC Bool.true v'181 3)) ∧
 (True ∧
 (Bool.true = Bool.true ∧
 (∀ Q183 : ((List SV) →
 ((List Ch) →
 Prop)),
 ((∀ b184 : Nat,
 (b0 = b0 ∧
 (b1 = b1 ∧
 (((isArray v0 x0 rs0) ∧
 (capAx x0)) ∧
 (∀ v'185 : Value,
 (∀ rs'186 : (List Row),
 ((isArray v'185 x0 rs'186) →
 (b2 = b2 ∧
 (((isTicket v1 x1 rs1) ∧
 (capTicket x1)) ∧
 (∀ v'187 : Value,
 (∀ rs'188 : (List Row),
 ((isTicket v'187 x1 rs'188) →
 (((isArray v'185 x0 rs'186) ∧
 ((isTicket v'187 x1 rs'188) ∧
 ((capAx x0) ∧
 (capTicket x1)))) ∧
 (∀ v'189 : Value,
 (∀ rs'190 : (List Row),
 ((isArray v'189 (scA aGGroups aGBanks aGRows aGCols x0 (x1).1 (x1).2 (x1).3 (x1).4 (x1).5 (x1).6 (x1).7) rs'190) →
 ((b184 = b184 ∧
 (wholeC Bool.true v'189 3)) ∧
 (Q183 [(SV.a (SA.agg [(SC.int aGGroups), (SC.int aGBanks), (SC.int aGRows), (SC.int aGCols)])), (SV.a (SA.c (SC.obj 0 v0))), (SV.a (SA.c (SC.obj 1 v1))), (SV.a (SA.c (SC.ptr 2 b0 0))), (SV.a (SA.c (SC.ptr 3 b1 0))), (SV.a (SA.c (SC.ptr 4 b2 0))), (SV.a (SA.c (SC.lit Bool.false))), (SV.a (SA.c (SC.int z6))), (SV.a (SA.c (SC.ptr 5 b184 0))), (SV.a (SA.c (SC.bool (scOk aGGroups aGBanks aGRows aGCols x0 (x1).1 (x1).2 (x1).3 (x1).4 (x1).5 (x1).6)))), SV.undef, SV.undef, SV.undef, SV.undef, SV.undef, SV.undef, SV.undef, SV.undef, SV.undef, (SV.a (SA.c (SC.obj 0 v0))), (SV.a (SA.c (SC.il (1048576 : Int)))), (SV.a (SA.c (SC.int z4))), (SV.a (SA.c (SC.int z4))), (SV.a (SA.c (SC.lit Bool.false))), (SV.a (SA.c (SC.obj 1 v1))), (SV.a (SA.c (SC.int z4))), (SV.a (SA.c (SC.int z6))), (SV.a (SA.c (SC.int z6))), (SV.a (SA.c (SC.lit Bool.false))), (SV.tup [(SA.c (SC.obj 8 v'189)), (SA.c (SC.bool (scOk aGGroups aGBanks aGRows aGCols x0 (x1).1 (x1).2 (x1).3 (x1).4 (x1).5 (x1).6)))]), (SV.a (SA.agg [(SC.int aGGroups), (SC.int aGBanks), (SC.int aGRows), (SC.int aGCols)])), (SV.a (SA.agg [(SC.int aGGroups), (SC.int aGBanks), (SC.int aGRows), (SC.int aGCols)])), (SV.a (SA.c (SC.obj 0 v0))), (SV.a (SA.c (SC.obj 6 v'185))), (SV.a (SA.c (SC.obj 1 v1))), (SV.a (SA.c (SC.obj 7 v'187))), (SV.tup [(SA.c (SC.obj 8 v'189)), (SA.c (SC.bool (scOk aGGroups aGBanks aGRows aGCols x0 (x1).1 (x1).2 (x1).3 (x1).4 (x1).5 (x1).6)))]), (SV.a (SA.c (SC.obj 8 v'189))), (SV.a (SA.c (SC.bool (scOk aGGroups aGBanks aGRows aGCols x0 (x1).1 (x1).2 (x1).3 (x1).4 (x1).5 (x1).6)))), SV.undef, SV.undef, SV.undef, SV.undef, SV.undef, SV.undef, SV.undef, SV.undef, SV.undef, SV.undef, SV.undef, SV.undef, SV.undef, SV.undef, SV.undef, SV.undef, SV.undef, SV.undef, SV.undef, SV.undef, SV.undef, SV.undef, SV.undef, SV.undef, SV.undef, SV.undef, SV.undef, SV.undef, SV.undef, SV.undef, SV.undef, SV.undef, SV.undef, SV.undef, SV.undef, SV.undef, SV.undef, SV.undef, SV.undef, SV.undef, SV.undef, SV.undef, SV.undef, SV.undef, SV.undef, SV.undef, SV.undef, SV.undef, SV.undef, SV.undef, SV.undef, SV.undef, SV.undef, SV.undef, SV.undef, SV.undef, SV.undef, SV.undef, SV.undef, SV.undef, SV.undef, SV.undef, SV.undef, SV.undef, SV.undef, SV.undef, SV.undef, SV.undef, SV.undef, SV.undef, SV.undef, SV.undef, SV.undef, SV.undef, SV.undef, SV.undef, SV.undef, SV.undef, SV.undef, SV.undef, SV.undef, SV.undef, SV.undef, SV.undef, SV.undef, SV.undef, SV.undef, SV.undef] [(Ch.obj Bool.false rs0), (Ch.obj Bool.false rs1), (Ch.cells b0 23 [(SC.int aGGroups), (SC.int aGBanks), (SC.int aGRows), (SC.int aGCols)]), (Ch.whole b1 27 Bool.true 3 (SC.obj 0 v0)), (Ch.whole b2 48 Bool.true 6 (SC.obj 1 v1)), (Ch.whole b184 33 Bool.true 3 (SC.obj 8 v'189)), (Ch.obj Bool.true rs'186), (Ch.obj Bool.true rs'188), (Ch.obj Bool.true rs'190)])))))))))))))))))) →
 (Q183 [(SV.a (SA.agg [(SC.int aGGroups), (SC.int aGBanks), (SC.int aGRows), (SC.int aGCols)])), (SV.a (SA.c (SC.obj 0 v0))), (SV.a (SA.c (SC.obj 1 v1))), (SV.a (SA.c (SC.ptr 2 b0 0))), (SV.a (SA.c (SC.ptr 3 b1 0))), (SV.a (SA.c (SC.ptr 4 b2 0))), (SV.a (SA.c (SC.lit Bool.false))), (SV.a (SA.c (SC.int z6))), (SV.a (SA.c (SC.ptr 5 b176 0))), (SV.a (SA.c (SC.bool (scOk aGGroups aGBanks aGRows aGCols x0 (x1).1 (x1).2 (x1).3 (x1).4 (x1).5 (x1).6)))), SV.undef, SV.undef, SV.undef, SV.undef, SV.undef, SV.undef, SV.undef, SV.undef, SV.undef, (SV.a (SA.c (SC.obj 0 v0))), (SV.a (SA.c (SC.il (1048576 : Int)))), (SV.a (SA.c (SC.int z4))), (SV.a (SA.c (SC.int z4))), (SV.a (SA.c (SC.lit Bool.false))), (SV.a (SA.c (SC.obj 1 v1))), (SV.a (SA.c (SC.int z4))), (SV.a (SA.c (SC.int z6))), (SV.a (SA.c (SC.int z6))), (SV.a (SA.c (SC.lit Bool.false))), (SV.tup [(SA.c (SC.obj 8 v'181)), (SA.c (SC.bool (scOk aGGroups aGBanks aGRows aGCols x0 (x1).1 (x1).2 (x1).3 (x1).4 (x1).5 (x1).6)))]), (SV.a (SA.agg [(SC.int aGGroups), (SC.int aGBanks), (SC.int aGRows), (SC.int aGCols)])), (SV.a (SA.agg [(SC.int aGGroups), (SC.int aGBanks), (SC.int aGRows), (SC.int aGCols)])), (SV.a (SA.c (SC.obj 0 v0))), (SV.a (SA.c (SC.obj 6 v'177))), (SV.a (SA.c (SC.obj 1 v1))), (SV.a (SA.c (SC.obj 7 v'179))), (SV.tup [(SA.c (SC.obj 8 v'181)), (SA.c (SC.bool (scOk aGGroups aGBanks aGRows aGCols x0 (x1).1 (x1).2 (x1).3 (x1).4 (x1).5 (x1).6)))]), (SV.a (SA.c (SC.obj 8 v'181))), (SV.a (SA.c (SC.bool (scOk aGGroups aGBanks aGRows aGCols x0 (x1).1 (x1).2 (x1).3 (x1).4 (x1).5 (x1).6)))), SV.undef, SV.undef, SV.undef, SV.undef, SV.undef, SV.undef, SV.undef, SV.undef, SV.undef, SV.undef, SV.undef, SV.undef, SV.undef, SV.undef, SV.undef, SV.undef, SV.undef, SV.undef, SV.undef, SV.undef, SV.undef, SV.undef, SV.undef, SV.undef, SV.undef, SV.undef, SV.undef, SV.undef, SV.undef, SV.undef, SV.undef, SV.undef, SV.undef, SV.undef, SV.undef, SV.undef, SV.undef, SV.undef, SV.undef, SV.undef, SV.undef, SV.undef, SV.undef, SV.undef, SV.undef, SV.undef, SV.undef, SV.undef, SV.undef, SV.undef, SV.undef, SV.undef, SV.undef, SV.undef, SV.undef, SV.undef, SV.undef, SV.undef, SV.undef, SV.undef, SV.undef, SV.undef, SV.undef, SV.undef, SV.undef, SV.undef, SV.undef, SV.undef, SV.undef, SV.undef, SV.undef, SV.undef, SV.undef, SV.undef, SV.undef, SV.undef, SV.undef, SV.undef, SV.undef, SV.undef, SV.undef, SV.undef, SV.undef, SV.undef, SV.undef, SV.undef, SV.undef, SV.undef] [(Ch.obj Bool.false rs0), (Ch.obj Bool.false rs1), (Ch.cells b0 23 [(SC.int aGGroups), (SC.int aGBanks), (SC.int aGRows), (SC.int aGCols)]), (Ch.whole b1 27 Bool.true 3 (SC.obj 0 v0)), (Ch.whole b2 48 Bool.true 6 (SC.obj 1 v1)), (Ch.whole b176 33 Bool.true 3 (SC.obj 8 v'181)), (Ch.obj Bool.true rs'178), (Ch.obj Bool.true rs'180), (Ch.obj Bool.true rs'182)]))))))))))))))))))))))))) ∧
 (∀ b191 : Nat,
 (True ∧
 (True ∧
 (((isArray v0 x0 rs0) ∧
 (capAx x0)) ∧
 (∀ v'192 : Value,
 (∀ rs'193 : (List Row),
 ((isArray v'192 x0 rs'193) →
 (True ∧
 (((isTicket v1 x1 rs1) ∧
 (capTicket x1)) ∧
 (∀ v'194 : Value,
 (∀ rs'195 : (List Row),
 ((isTicket v'194 x1 rs'195) →
 (True ∧
 (((isArray v'192 x0 rs'193) ∧
 ((isTicket v'194 x1 rs'195) ∧
 ((capAx x0) ∧
 (capTicket x1)))) ∧
 (∀ v'196 : Value,
 (∀ rs'197 : (List Row),
 ((isArray v'196 (scA aGGroups aGBanks aGRows aGCols x0 (x1).1 (x1).2 (x1).3 (x1).4 (x1).5 (x1).6 (x1).7) rs'197) →
 (True ∧
 ((b191 = b191 ∧
 (wholeC Bool.true v'196 3)) ∧
 (True ∧
 (Bool.true = Bool.true ∧
 (∀ Q198 : ((List SV) →
 ((List Ch) →
 Prop)),
 ((∀ b199 : Nat,
 (b0 = b0 ∧
 (b1 = b1 ∧
 (((isArray v0 x0 rs0) ∧
 (capAx x0)) ∧
 (∀ v'200 : Value,
 (∀ rs'201 : (List Row),
 ((isArray v'200 x0 rs'201) →
 (b2 = b2 ∧
 (((isTicket v1 x1 rs1) ∧
 (capTicket x1)) ∧
 (∀ v'202 : Value,
 (∀ rs'203 : (List Row),
 ((isTicket v'202 x1 rs'203) →
 (((isArray v'200 x0 rs'201) ∧
 ((isTicket v'202 x1 rs'203) ∧
 ((capAx x0) ∧
 (capTicket x1)))) ∧
 (∀ v'204 : Value,
 (∀ rs'205 : (List Row),
 ((isArray v'204 (scA aGGroups aGBanks aGRows aGCols x0 (x1).1 (x1).2 (x1).3 (x1).4 (x1).5 (x1).6 (x1).7) rs'205) →
 ((b199 = b199 ∧
 (wholeC Bool.true v'204 3)) ∧
 (Q198 [(SV.a (SA.agg [(SC.int aGGroups), (SC.int aGBanks), (SC.int aGRows), (SC.int aGCols)])), (SV.a (SA.c (SC.obj 0 v0))), (SV.a (SA.c (SC.obj 1 v1))), (SV.a (SA.c (SC.ptr 2 b0 0))), (SV.a (SA.c (SC.ptr 3 b1 0))), (SV.a (SA.c (SC.ptr 4 b2 0))), (SV.a (SA.c (SC.lit Bool.false))), (SV.a (SA.c (SC.int z6))), (SV.a (SA.c (SC.ptr 5 b199 0))), (SV.a (SA.c (SC.bool (scOk aGGroups aGBanks aGRows aGCols x0 (x1).1 (x1).2 (x1).3 (x1).4 (x1).5 (x1).6)))), SV.undef, SV.undef, SV.undef, SV.undef, SV.undef, SV.undef, SV.undef, SV.undef, SV.undef, (SV.a (SA.c (SC.obj 0 v0))), (SV.a (SA.c (SC.il (1048576 : Int)))), (SV.a (SA.c (SC.int z4))), (SV.a (SA.c (SC.int z4))), (SV.a (SA.c (SC.lit Bool.false))), (SV.a (SA.c (SC.obj 1 v1))), (SV.a (SA.c (SC.int z4))), (SV.a (SA.c (SC.int z6))), (SV.a (SA.c (SC.int z6))), (SV.a (SA.c (SC.lit Bool.false))), (SV.tup [(SA.c (SC.obj 8 v'204)), (SA.c (SC.bool (scOk aGGroups aGBanks aGRows aGCols x0 (x1).1 (x1).2 (x1).3 (x1).4 (x1).5 (x1).6)))]), (SV.a (SA.agg [(SC.int aGGroups), (SC.int aGBanks), (SC.int aGRows), (SC.int aGCols)])), (SV.a (SA.agg [(SC.int aGGroups), (SC.int aGBanks), (SC.int aGRows), (SC.int aGCols)])), (SV.a (SA.c (SC.obj 0 v0))), (SV.a (SA.c (SC.obj 6 v'200))), (SV.a (SA.c (SC.obj 1 v1))), (SV.a (SA.c (SC.obj 7 v'202))), (SV.tup [(SA.c (SC.obj 8 v'204)), (SA.c (SC.bool (scOk aGGroups aGBanks aGRows aGCols x0 (x1).1 (x1).2 (x1).3 (x1).4 (x1).5 (x1).6)))]), (SV.a (SA.c (SC.obj 8 v'204))), (SV.a (SA.c (SC.bool (scOk aGGroups aGBanks aGRows aGCols x0 (x1).1 (x1).2 (x1).3 (x1).4 (x1).5 (x1).6)))), SV.undef, SV.undef, SV.undef, SV.undef, SV.undef, SV.undef, SV.undef, SV.undef, SV.undef, SV.undef, SV.undef, SV.undef, SV.undef, SV.undef, SV.undef, SV.undef, SV.undef, SV.undef, SV.undef, SV.undef, SV.undef, SV.undef, SV.undef, SV.undef, SV.undef, SV.undef, SV.undef, SV.undef, SV.undef, SV.undef, SV.undef, SV.undef, SV.undef, SV.undef, SV.undef, SV.undef, SV.undef, SV.undef, SV.undef, SV.undef, SV.undef, SV.undef, SV.undef, SV.undef, SV.undef, SV.undef, SV.undef, SV.undef, SV.undef, SV.undef, SV.undef, SV.undef, SV.undef, SV.undef, SV.undef, SV.undef, SV.undef, SV.undef, SV.undef, SV.undef, SV.undef, SV.undef, SV.undef, SV.undef, SV.undef, SV.undef, SV.undef, SV.undef, SV.undef, SV.undef, SV.undef, SV.undef, SV.undef, SV.undef, SV.undef, SV.undef, SV.undef, SV.undef, SV.undef, SV.undef, SV.undef, SV.undef, SV.undef, SV.undef, SV.undef, SV.undef, SV.undef, SV.undef] [(Ch.obj Bool.false rs0), (Ch.obj Bool.false rs1), (Ch.cells b0 23 [(SC.int aGGroups), (SC.int aGBanks), (SC.int aGRows), (SC.int aGCols)]), (Ch.whole b1 27 Bool.true 3 (SC.obj 0 v0)), (Ch.whole b2 48 Bool.true 6 (SC.obj 1 v1)), (Ch.whole b199 33 Bool.true 3 (SC.obj 8 v'204)), (Ch.obj Bool.true rs'201), (Ch.obj Bool.true rs'203), (Ch.obj Bool.true rs'205)])))))))))))))))))) →
 (Q198 [(SV.a (SA.agg [(SC.int aGGroups), (SC.int aGBanks), (SC.int aGRows), (SC.int aGCols)])), (SV.a (SA.c (SC.obj 0 v0))), (SV.a (SA.c (SC.obj 1 v1))), (SV.a (SA.c (SC.ptr 2 b0 0))), (SV.a (SA.c (SC.ptr 3 b1 0))), (SV.a (SA.c (SC.ptr 4 b2 0))), (SV.a (SA.c (SC.lit Bool.false))), (SV.a (SA.c (SC.int z6))), (SV.a (SA.c (SC.ptr 5 b191 0))), (SV.a (SA.c (SC.bool (scOk aGGroups aGBanks aGRows aGCols x0 (x1).1 (x1).2 (x1).3 (x1).4 (x1).5 (x1).6)))), SV.undef, SV.undef, SV.undef, SV.undef, SV.undef, SV.undef, SV.undef, SV.undef, SV.undef, (SV.a (SA.c (SC.obj 0 v0))), (SV.a (SA.c (SC.il (1048576 : Int)))), (SV.a (SA.c (SC.int z4))), (SV.a (SA.c (SC.int z4))), (SV.a (SA.c (SC.lit Bool.false))), (SV.a (SA.c (SC.obj 1 v1))), (SV.a (SA.c (SC.int z4))), (SV.a (SA.c (SC.int z6))), (SV.a (SA.c (SC.int z6))), (SV.a (SA.c (SC.lit Bool.false))), (SV.tup [(SA.c (SC.obj 8 v'196)), (SA.c (SC.bool (scOk aGGroups aGBanks aGRows aGCols x0 (x1).1 (x1).2 (x1).3 (x1).4 (x1).5 (x1).6)))]), (SV.a (SA.agg [(SC.int aGGroups), (SC.int aGBanks), (SC.int aGRows), (SC.int aGCols)])), (SV.a (SA.agg [(SC.int aGGroups), (SC.int aGBanks), (SC.int aGRows), (SC.int aGCols)])), (SV.a (SA.c (SC.obj 0 v0))), (SV.a (SA.c (SC.obj 6 v'192))), (SV.a (SA.c (SC.obj 1 v1))), (SV.a (SA.c (SC.obj 7 v'194))), (SV.tup [(SA.c (SC.obj 8 v'196)), (SA.c (SC.bool (scOk aGGroups aGBanks aGRows aGCols x0 (x1).1 (x1).2 (x1).3 (x1).4 (x1).5 (x1).6)))]), (SV.a (SA.c (SC.obj 8 v'196))), (SV.a (SA.c (SC.bool (scOk aGGroups aGBanks aGRows aGCols x0 (x1).1 (x1).2 (x1).3 (x1).4 (x1).5 (x1).6)))), SV.undef, SV.undef, SV.undef, SV.undef, SV.undef, SV.undef, SV.undef, SV.undef, SV.undef, SV.undef, SV.undef, SV.undef, SV.undef, SV.undef, SV.undef, SV.undef, SV.undef, SV.undef, SV.undef, SV.undef, SV.undef, SV.undef, SV.undef, SV.undef, SV.undef, SV.undef, SV.undef, SV.undef, SV.undef, SV.undef, SV.undef, SV.undef, SV.undef, SV.undef, SV.undef, SV.undef, SV.undef, SV.undef, SV.undef, SV.undef, SV.undef, SV.undef, SV.undef, SV.undef, SV.undef, SV.undef, SV.undef, SV.undef, SV.undef, SV.undef, SV.undef, SV.undef, SV.undef, SV.undef, SV.undef, SV.undef, SV.undef, SV.undef, SV.undef, SV.undef, SV.undef, SV.undef, SV.undef, SV.undef, SV.undef, SV.undef, SV.undef, SV.undef, SV.undef, SV.undef, SV.undef, SV.undef, SV.undef, SV.undef, SV.undef, SV.undef, SV.undef, SV.undef, SV.undef, SV.undef, SV.undef, SV.undef, SV.undef, SV.undef, SV.undef, SV.undef, SV.undef, SV.undef] [(Ch.obj Bool.false rs0), (Ch.obj Bool.false rs1), (Ch.cells b0 23 [(SC.int aGGroups), (SC.int aGBanks), (SC.int aGRows), (SC.int aGCols)]), (Ch.whole b1 27 Bool.true 3 (SC.obj 0 v0)), (Ch.whole b2 48 Bool.true 6 (SC.obj 1 v1)), (Ch.whole b191 33 Bool.true 3 (SC.obj 8 v'196)), (Ch.obj Bool.true rs'193), (Ch.obj Bool.true rs'195), (Ch.obj Bool.true rs'197)]))))))))))))))))))))))))))))))))))))))))))))))))))))))) := by kernel_rfl
theorem law_FnExactScrubCommit_any (aGGroups : Int) (aGBanks : Int) (aGRows : Int) (aGCols : Int) (v0 : Value) (rs0 : List Row) (v1 : Value) (rs1 : List Row) (W : World) (baGGroups : -9223372036854775808 ≤ aGGroups ∧ aGGroups ≤ 9223372036854775807) (baGBanks : -9223372036854775808 ≤ aGBanks ∧ aGBanks ≤ 9223372036854775807) (baGRows : -9223372036854775808 ≤ aGRows ∧ aGRows ≤ 9223372036854775807) (baGCols : -9223372036854775808 ≤ aGCols ∧ aGCols ≤ 9223372036854775807) (x0 : AD) (hx0 : isArray v0 x0 rs0) (hw0 : ∀ r ∈ rs0, r.own = false ∧ r.sat W) (hn0 : lensAx x0) (x1 : TicketD) (hx1 : isTicket v1 x1 rs1) (hw1 : ∀ r ∈ rs1, r.own = false ∧ r.sat W) (hn1 : x1.BeforeSymbolsN ≤ 9223372036854775807 ∧ x1.AfterSymbolsN ≤ 9223372036854775807) (hb1 : (-9223372036854775808 ≤ x1.Index ∧ x1.Index ≤ 9223372036854775807) ∧ (-9223372036854775808 ≤ x1.Code ∧ x1.Code ≤ 9223372036854775807)) : Calls Try.prog 4 #[.agg #[.int .i64 aGGroups, .int .i64 aGBanks, .int .i64 aGRows, .int .i64 aGCols], v0, v1] W fun e W' => e = .returned (.bool true) ∧ Below W.heap.size W W' := by
  refine fn_ok mixed (E := {tb := [(13, sToArrX x0), (22, sToTicX x1), (16, sEqArrayO), (18, sMarkArrayO), (19, sHeldArrayO), (10, sSzArrayO), (24, sEqTicketO), (25, sMarkTicketO), (38, sHeldTicketO), (20, sSzTicketO), (12, stoGeometry), (23, sScX x0 x1), (21, sScX x0 x1)], O := [(8, [10, 0, 1, 2, 3, 4, 5, 6, 7, 8, 9, 11, 12]), (11, [8, 0, 1, 2, 3, 4, 5, 6, 7, 9, 10]), (31, [10, 0, 1, 2, 3, 4, 5, 6, 7, 8, 9, 11, 12])]}) ⟨sToArrX_ok x0, sToTicX_ok x1, sEqArrayO_ok, sMarkArrayO_ok, sHeldArrayO_ok, sSzArrayO_ok, sEqTicketO_ok, sMarkTicketO_ok, sHeldTicketO_ok, sSzTicketO_ok, stoGeometry_okk, sScX_I x0 x1, sScX_S x0 x1, trivial⟩ Try.func4 (fun _ _ => loopsOK_nil _ _ _) (@Eq.mpr _ _ (law_FnExactScrubCommit_T aGGroups aGBanks aGRows aGCols v0 rs0 v1 rs1 x0 x1) ?_) (HS.seenAll (fun _ => False) [.obj false rs0, .obj false rs1] (seenC_obj hw0 (seenC_obj hw1 seenC_nil))) (fun v ch' w' hk hs => ⟨by rw [hk], hs.below⟩)
  clear hw0 hw1
  repeat' (show _; first
    | with_reducible exact rfl
    | with_reducible assumption
    | (intro (Q : List SV → List Ch → Prop) h; repeat (show Q _ _; first | with_reducible exact h | (replace h := h.2) | (refine (fun h => ?_) (h ?_))))
    | with_reducible exact cap_sc (by assumption) (by assumption)
    | with_reducible exact capOf1Ax (by assumption)
    | with_reducible exact capOf1Ticket (by assumption)
    | with_reducible exact wholeArray (by assumption)
    | with_reducible exact wholeTicket (by assumption)
    | with_reducible exact capOf1Array (by assumption)
    | with_reducible exact capOf1Ticket (by assumption)
    | refine And.intro ?_ ?_
    | apply Exists.intro
    | (refine fun (h : @Eq Bool _ _) => ?_; exfalso; revert h; simp; done)
    | (refine fun (h : @Eq Bool _ _) => ?_; exfalso; simp at h; omega)
    | (refine fun (h : @Eq Bool _ _) => ?_; exfalso; replace h := of_decide_eq_true h; simp only [mk] at h; omega)
    | intro _
    | exact True.intro
    | exact rfl
    | omega
    | (simp only [mk]; omega))
theorem walk_FnExactScrubCommit (cs0 : Array Value) (cs1 : Array Value) (cs2 : Array Value) (W : World) (h0 : Has W (.cons .int (.cons .int (.cons .int (.cons .int .nil)))) cs0.toList) (h1 : Has W (.cons (.slice (.cons (.slice .int) (.cons .bool .nil))) (.cons (.slice .int) (.cons (.slice .int) .nil))) cs1.toList) (h2 : Has W (.cons .int (.cons (.cons (.slice .int) (.cons .bool .nil)) (.cons (.cons (.slice .int) (.cons .bool .nil)) (.cons .int .nil)))) cs2.toList) : Calls Try.prog 4 #[.agg cs0, .agg cs1, .agg cs2] W fun e W' => e = .returned (.bool true) ∧ Below W.heap.size W W' := by
  obtain ⟨l0, hl0⟩ : ∃ l, cs0.toList = l := ⟨_, rfl⟩
  rw [hl0] at h0
  obtain ⟨aGGroups, _, rfl, baGGroups, h0_f0⟩ := has_int h0
  obtain ⟨aGBanks, _, rfl, baGBanks, h0_f1⟩ := has_int h0_f0
  obtain ⟨aGRows, _, rfl, baGRows, h0_f2⟩ := has_int h0_f1
  obtain ⟨aGCols, _, rfl, baGCols, h0_f3⟩ := has_int h0_f2
  obtain rfl := has_nil h0_f3
  rw [arr_of hl0]
  obtain ⟨l1, hl1⟩ : ∃ l, cs1.toList = l := ⟨_, rfl⟩
  rw [hl1] at h1
  obtain ⟨xaA, vaA, rsaA, evaA, hxaA, hwaA, hnaA⟩ := has_array h1
  rw [arr_of hl1, ← evaA]
  obtain ⟨l2, hl2⟩ : ∃ l, cs2.toList = l := ⟨_, rfl⟩
  rw [hl2] at h2
  obtain ⟨aTIndex, _, rfl, baTIndex, h2_f0⟩ := has_int h2
  obtain ⟨_, _, rfl, h2Before, h2_f1⟩ := has_struct h2_f0
  obtain ⟨aTBeforeSymbolsO, aTBeforeSymbolsN, aTBeforeSymbolsC, _, rfl, hsaTBeforeSymbols, h2Before_f0⟩ := has_slice h2Before
  obtain ⟨hnaTBeforeSymbols, aTBeforeSymbolsG, bGaTBeforeSymbols, hraTBeforeSymbols⟩ := row_of_has (s := 1) (.inl ⟨rfl, rfl⟩) (by omega) rfl hsaTBeforeSymbols
  obtain ⟨aTBeforePoison, _, rfl, h2Before_f1⟩ := has_bool h2Before_f0
  obtain rfl := has_nil h2Before_f1
  obtain ⟨_, _, rfl, h2After, h2_f2⟩ := has_struct h2_f1
  obtain ⟨aTAfterSymbolsO, aTAfterSymbolsN, aTAfterSymbolsC, _, rfl, hsaTAfterSymbols, h2After_f0⟩ := has_slice h2After
  obtain ⟨hnaTAfterSymbols, aTAfterSymbolsG, bGaTAfterSymbols, hraTAfterSymbols⟩ := row_of_has (s := 1) (.inl ⟨rfl, rfl⟩) (by omega) rfl hsaTAfterSymbols
  obtain ⟨aTAfterPoison, _, rfl, h2After_f1⟩ := has_bool h2After_f0
  obtain rfl := has_nil h2After_f1
  obtain ⟨aTCode, _, rfl, baTCode, h2_f3⟩ := has_int h2_f2
  obtain rfl := has_nil h2_f3
  rw [arr_of hl2]
  exact law_FnExactScrubCommit_any aGGroups aGBanks aGRows aGCols vaA rsaA (.agg #[.int .i64 aTIndex, .slice aTBeforeSymbolsO aTBeforeSymbolsN aTBeforeSymbolsC, .bool aTBeforePoison, .slice aTAfterSymbolsO aTAfterSymbolsN aTAfterSymbolsC, .bool aTAfterPoison, .int .i64 aTCode]) [⟨false, aTBeforeSymbolsO, 0, 1, aTBeforeSymbolsN, 0, [fun i => .int (aTBeforeSymbolsG 0 i)]⟩, ⟨false, aTAfterSymbolsO, 0, 1, aTAfterSymbolsN, 0, [fun i => .int (aTAfterSymbolsG 0 i)]⟩] W baGGroups baGBanks baGRows baGCols xaA hxaA hwaA hnaA ⟨aTIndex, aTBeforeSymbolsN, (aTBeforeSymbolsG 0), aTBeforePoison, aTAfterSymbolsN, (aTAfterSymbolsG 0), aTAfterPoison, aTCode⟩ ⟨_, _, _, _, _, _, _, _, _, _, rfl, rfl⟩ (rows_seen [⟨false, aTBeforeSymbolsO, 0, 1, aTBeforeSymbolsN, 0, [fun i => .int (aTBeforeSymbolsG 0 i)]⟩, ⟨false, aTAfterSymbolsO, 0, 1, aTAfterSymbolsN, 0, [fun i => .int (aTAfterSymbolsG 0 i)]⟩] (by simp; exact ⟨hraTBeforeSymbols, hraTAfterSymbols⟩)) ⟨hnaTBeforeSymbols, hnaTAfterSymbols⟩ ⟨baTIndex, baTCode⟩
end Go.Proofs.Ytddeinpnadfgmaa

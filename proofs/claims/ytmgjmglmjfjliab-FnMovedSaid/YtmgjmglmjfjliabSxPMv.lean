/-
  A row copied under traffic: what the array holds. Summaries for the copy of a row.
-/
import Derived.Test.YtmgjmglmjfjliabSxPW
import Derived.Test.YtmgjmglmjfjliabSxM3
import Derived.Test.YtmgjmglmjfjliabSxM5
import Derived.Test.YtmgjmglmjfjliabSxM7
namespace Go.Proofs.Ytmgjmglmjfjliab
set_option linter.unusedVariables false
set_option linter.unusedSimpArgs false
open Go.RowKit
set_option maxRecDepth 100000
set_option maxHeartbeats 8000000

abbrev ltZ (a b : Int) : Prop := a < b
abbrev inZ (a b : Int) : Prop := 0 ≤ a ∧ a < b
def upd (r : Nat → Int) (q : Int) (y : Int) : Nat → Int := fun i => if i = q.toNat then y else r i
/-- The first M columns of row 0 hold words, and the first N of row 1 the same. -/
def MvI (G B R K M N : Int) (x : AD) (r : Nat → Int) : Prop := (geoS G B R K ∧ arrOk G B R K x = true) ∧ (0 ≤ N ∧ N ≤ M ∧ M ≤ K) ∧ (∀ j : Nat, (j : Int) < M → wrd (r j) ∧ Wd x (ixN G B R K 0 0 j) (r j)) ∧ ∀ j : Nat, (j : Int) < N → Wd x (ixN G B R K 0 1 j) (r j)
theorem adW {G B R K a c : Int} (hg : geoS G B R K) (ha : 0 ≤ a ∧ a ≤ 1) (hc : 0 ≤ c ∧ c < K) : adOk G B R K 0 a c = true ∧ ixN G B R K 0 a c = (a * K + c).toNat := by
  have hb := geoS_bank hg
  have h : adOk G B R K 0 a c = true := by
    simp only [adOk, hb.1, hb.2.1, Bool.true_and, Bool.and_eq_true]
    obtain ⟨_, h2, h3, h4⟩ := hg
    exact ⟨⟨btw_mk (by omega) (by omega), btw_mk (by omega) (by omega)⟩, btw_mk (by omega) (by omega)⟩
  refine ⟨h, ?_⟩
  simp only [ixN, adIx, h, if_true, Int.zero_mul, Int.zero_add]
theorem ad0 {G B R K c : Int} (hg : geoS G B R K) (hc : 0 ≤ c ∧ c < K) : adOk G B R K 0 0 c = true ∧ ixN G B R K 0 0 c = c.toNat := by
  have h := adW (a := 0) hg (by omega) hc
  simpa only [Int.zero_mul, Int.zero_add] using h
theorem ad1 {G B R K c : Int} (hg : geoS G B R K) (hc : 0 ≤ c ∧ c < K) : adOk G B R K 0 1 c = true ∧ ixN G B R K 0 1 c = (K + c).toNat := by
  have h := adW (a := 1) hg (by omega) hc
  simpa only [Int.one_mul] using h
theorem upd_at {r : Nat → Int} {q y : Int} {j : Nat} (h : (j : Int) = q) : upd r q y j = y := by
  simp only [upd]
  rw [if_pos (by omega)]
theorem upd_no {r : Nat → Int} {q y : Int} {j : Nat} (hq : 0 ≤ q) (h : (j : Int) ≠ q) : upd r q y j = r j := by
  simp only [upd]
  rw [if_neg (by omega)]
theorem MvI.put0 {G B R K M y : Int} {x : AD} {r : Nat → Int} (h : MvI G B R K M 0 x r) (hM : M < K) (hy : wrd y) : MvI G B R K (M + 1) 0 (putA G B R K 0 0 M x y) (upd r M y) := by
  obtain ⟨⟨hg, hok⟩, ⟨n1, n2, n3⟩, h1, _⟩ := h
  obtain ⟨ha, hi⟩ := ad0 hg (c := M) ⟨n2, hM⟩
  obtain ⟨_, p1, p2, p3⟩ := put_ok hok ha hy
  refine ⟨⟨hg, p1⟩, ⟨by omega, by omega, by omega⟩, fun j hj => ?_, fun j hj => absurd hj (by omega)⟩
  by_cases e : (j : Int) = M
  · rw [upd_at e, e]
    exact ⟨hy, p2⟩
  · rw [upd_no (by omega) e]
    obtain ⟨w1, w2⟩ := h1 j (by omega)
    refine ⟨w1, p3 _ _ ?_ w2⟩
    rw [hi, (ad0 hg (c := (j : Int)) ⟨by omega, by omega⟩).2]
    omega
theorem mvOk_ok {G B R K N : Int} (hg : geoS G B R K) (hN : 0 ≤ N ∧ N ≤ K) : mvOk G B R K 0 0 1 N = true := by
  have hK : 0 < K := by have := hg.2.2.2.1; omega
  have h0 := (ad0 hg (c := 0) ⟨by omega, hK⟩).1
  have h1 := (ad1 hg (c := 0) ⟨by omega, hK⟩).1
  simp only [mvOk, mvB, h0, h1, Bool.true_and, Bool.and_eq_true]
  exact ⟨rfl, btw_mk hN.1 hN.2⟩
theorem MvI.put {G B R K N q y : Int} {x : AD} {r : Nat → Int} (h : MvI G B R K K N x r) (hq : 0 ≤ q ∧ q < K) (hy : wrd y) : mpOk G B R K 0 0 1 N x q y = true ∧ MvI G B R K K N (mpA G B R K 0 0 1 N x q y) (upd r q y) := by
  obtain ⟨⟨hg, hok⟩, ⟨n1, n2, n3⟩, h1, h2⟩ := h
  have hm : mpOk G B R K 0 0 1 N x q y = true := by
    simp only [mpOk, hok, mvOk_ok hg ⟨n1, n2⟩, Bool.true_and, Bool.and_eq_true]
    exact ⟨btw_mk hq.1 (by omega), btw_mk hy.1 hy.2⟩
  refine ⟨hm, ?_⟩
  obtain ⟨ha, hi⟩ := ad0 hg hq
  obtain ⟨hb, hk⟩ := ad1 hg hq
  obtain ⟨_, p1, p2, p3⟩ := put_ok hok ha hy
  have q1 : ∀ j : Nat, (j : Int) < K → wrd (upd r q y j) ∧ Wd (putA G B R K 0 0 q x y) (ixN G B R K 0 0 j) (upd r q y j) := fun j hj => by
    by_cases e : (j : Int) = q
    · rw [upd_at e, e]
      exact ⟨hy, p2⟩
    · rw [upd_no (by omega) e]
      obtain ⟨w1, w2⟩ := h1 j hj
      refine ⟨w1, p3 _ _ ?_ w2⟩
      rw [hi, (ad0 hg (c := (j : Int)) ⟨by omega, by omega⟩).2]
      omega
  have q2 : ∀ j : Nat, (j : Int) < N → (j : Int) ≠ q → Wd (putA G B R K 0 0 q x y) (ixN G B R K 0 1 j) (upd r q y j) := fun j hj e => by
    rw [upd_no (by omega) e]
    refine p3 _ _ ?_ (h2 j hj)
    rw [hi, (ad1 hg (c := (j : Int)) ⟨by omega, by omega⟩).2]
    omega
  by_cases hqN : q < N
  · have e : mpA G B R K 0 0 1 N x q y = putA G B R K 0 1 q (putA G B R K 0 0 q x y) y := by simp only [mpA, hm, if_true, ilt, hqN, decide_true]
    rw [e]
    obtain ⟨_, s1, s2, s3⟩ := put_ok p1 hb hy
    refine ⟨⟨hg, s1⟩, ⟨n1, n2, n3⟩, fun j hj => ?_, fun j hj => ?_⟩
    · obtain ⟨w1, w2⟩ := q1 j hj
      refine ⟨w1, s3 _ _ ?_ w2⟩
      rw [hk, (ad0 hg (c := (j : Int)) ⟨by omega, by omega⟩).2]
      omega
    · by_cases e : (j : Int) = q
      · rw [upd_at e, e]
        exact s2
      · refine s3 _ _ ?_ (q2 j hj e)
        rw [hk, (ad1 hg (c := (j : Int)) ⟨by omega, by omega⟩).2]
        omega
  · have e : mpA G B R K 0 0 1 N x q y = putA G B R K 0 0 q x y := by simp [mpA, hm, ilt, hqN]
    rw [e]
    exact ⟨⟨hg, p1⟩, ⟨n1, n2, n3⟩, q1, fun j hj => q2 j hj (by omega)⟩
theorem MvI.step {G B R K N : Int} {x : AD} {r : Nat → Int} (h : MvI G B R K K N x r) (hN : N < K) : stepOk G B R K 0 0 1 N x = true ∧ MvI G B R K K (N + 1) (stepA G B R K 0 0 1 N x) r := by
  obtain ⟨⟨hg, hok⟩, ⟨n1, n2, n3⟩, h1, h2⟩ := h
  have hs : stepOk G B R K 0 0 1 N x = true := by
    simp only [stepOk, hok, mvOk_ok hg ⟨n1, n2⟩, Bool.true_and, ine, bne_iff_ne]
    omega
  refine ⟨hs, ?_⟩
  obtain ⟨ha, hi⟩ := ad0 hg (c := N) ⟨n1, hN⟩
  obtain ⟨hb, hk⟩ := ad1 hg (c := N) ⟨n1, hN⟩
  have hNN : ((N.toNat : Nat) : Int) = N := by omega
  obtain ⟨w1, w2, w3, w4⟩ := h1 N.toNat (by omega)
  rw [hNN] at w2 w3 w4
  have e : stepA G B R K 0 0 1 N x = setA x (ixN G B R K 0 1 N) 11 (x.c.sy (ixN G B R K 0 0 N)) false := by simp only [stepA, hs, if_true, w2, w3]
  rw [e]
  refine ⟨⟨hg, arr_set hok (symB_mk (fun i hi => by rw [w4 i hi]; exact word_el w1 hi) rfl)⟩, ⟨by omega, by omega, n3⟩, fun j hj => ?_, fun j hj => ?_⟩
  · obtain ⟨v1, v2⟩ := h1 j hj
    refine ⟨v1, v2.set ?_⟩
    rw [hk, (ad0 hg (c := (j : Int)) ⟨by omega, by omega⟩).2]
    omega
  · by_cases ej : (j : Int) = N
    · have ej2 : N.toNat = j := by omega
      rw [ej2] at w4
      rw [ej]
      exact Wd.here w4
    · refine (h2 j (by omega)).set ?_
      rw [hk, (ad1 hg (c := (j : Int)) ⟨by omega, by omega⟩).2]
      omega
theorem MvI.stop {G B R K : Int} {x : AD} : stepOk G B R K 0 0 1 K x = false := by
  simp [stepOk, ine]
theorem MvI.read {G B R K q : Int} {x : AD} {r : Nat → Int} (h : MvI G B R K K K x r) (hq : 0 ≤ q ∧ q < K) : mgX G B R K 0 0 1 K x q = r q.toNat ∧ mgC G B R K 0 0 1 K x q = 0 ∧ gwX G B R K 0 1 q x = r q.toNat := by
  obtain ⟨⟨hg, hok⟩, ⟨n1, n2, n3⟩, h1, h2⟩ := h
  obtain ⟨hb, hk⟩ := ad1 hg hq
  have hqq : ((q.toNat : Nat) : Int) = q := by omega
  have h3 := h2 q.toNat (by omega)
  rw [hqq] at h3
  obtain ⟨g1, g2⟩ := gw_ok hok hb (h1 q.toNat (by omega)).1 h3
  simp only [mgX, mgC, mvOk_ok hg ⟨n1, n2⟩, if_true, ieq, beq_self_eq_true, g1, g2]
  exact ⟨trivial, trivial, trivial⟩
theorem MvI.start {G B R K : Int} {x : AD} {r : Nat → Int} (h : geoS G B R K ∧ arrOk G B R K x = true) : MvI G B R K 0 0 x r := by
  have := h.1.2.2.2.1
  exact ⟨h, ⟨by omega, by omega, by omega⟩, fun j hj => absurd hj (by omega), fun j hj => absurd hj (by omega)⟩

def sPut0 : Sm := fun args ch kk =>
  match args with
  | [.a (.agg [c0, c1, c2, c3]), .a c, .a (.agg [ea0, ea1, ea2]), .a (.c fb)] =>
    match ints [c0, c1, c2, c3, ea0, ea1, ea2, fb] with
    | some [G, B, R, K, dB, dR, q, y] => rdA ch c fun x => ∃ r : Nat → Int, (dB = 0 ∧ dR = 0 ∧ MvI G B R K q 0 x r ∧ ltZ q K ∧ wrd y) ∧ ∀ (z : AD) (Oq Aq Hq : Option Addr) (Cq Dq Ee : Nat) (soq : Nat → Option Addr) (scq : Nat → Nat), (MvI G B R K (iadd q 1) 0 z (upd r q y)) → kk (.a (arrS ch.length z Oq Aq Hq Cq Dq Ee)) (ch ++ arrO ch.length z Oq Aq Hq Cq Dq Ee soq scq) []
    | _ => False
  | _ => False
theorem sPut0_ok : SmOK Try.prog 8 sPut0 := by
  refine smN Try.call8 fun args ch kk w X h0 hs => ?_
  unfold sPut0 at h0
  split at h0
  · rename_i c0 c1 c2 c3 c ea0 ea1 ea2 fb
    split at h0
    · rename_i G B R K dB dR q y hi
      obtain ⟨q0, hi⟩ := ints_cons hi
      obtain ⟨q1, hi⟩ := ints_cons hi
      obtain ⟨q2, hi⟩ := ints_cons hi
      obtain ⟨q3, hi⟩ := ints_cons hi
      obtain ⟨q4, hi⟩ := ints_cons hi
      obtain ⟨q5, hi⟩ := ints_cons hi
      obtain ⟨q6, hi⟩ := ints_cons hi
      obtain ⟨q7, hi⟩ := ints_cons hi
      obtain ⟨x, O, A, H, C, D, E, so, sc, e, hA, r, ⟨rfl, rfl, hm, hq, hy⟩, h1⟩ := rdA_ok h0 hs
      have e20 : SA.den (.agg [c0, c1, c2, c3]) = .agg #[.int .i64 G, .int .i64 B, .int .i64 R, .int .i64 K] := by simp only [SA.den, den_c, List.map_cons, List.map_nil, q0, q1, q2, q3]
      have e21 : SA.den (.agg [ea0, ea1, ea2]) = .agg #[.int .i64 0, .int .i64 0, .int .i64 q] := by simp only [SA.den, den_c, List.map_cons, List.map_nil, q4, q5, q6]
      have e22 : SA.den (.c fb) = .int .i64 y := by simp only [SA.den, den_c, List.map_cons, List.map_nil, q7]
      simp only [List.map_cons, List.map_nil, den_a, e, e20, e21, e22]
      have hcap := arr_cap hm.1.1 hm.1.2
      have hpost := hm.put0 hq hy
      exact Calls.mono (putS_all x O A H C D E so sc G B R K 0 0 q y w hA hcap) fun e w' ⟨Oq, Aq, Hq, Cq, Dq, Ee, soq, scq, he, hs'⟩ => ⟨.a (arrS ch.length _ Oq Aq Hq Cq Dq Ee), _, by rw [he]; rfl, arrO_at hs', rfl, h1 _ Oq Aq Hq Cq Dq Ee soq scq hpost⟩
    · exact h0.elim
  · exact h0.elim
def sMpM : Sm := fun args ch kk =>
  match args with
  | [.a (.agg [c0, c1, c2, c3]), .a c, .a (.agg [ea0, ea1, ea2, ea3]), .a (.c fb), .a (.c fc)] =>
    match ints [c0, c1, c2, c3, ea0, ea1, ea2, ea3, fb, fc] with
    | some [G, B, R, K, mB, mF, mT, N, q, y] => rdA ch c fun x => ∃ r : Nat → Int, (mB = 0 ∧ mF = 0 ∧ mT = 1 ∧ MvI G B R K K N x r ∧ inZ q K ∧ wrd y) ∧ ∀ (z : AD) (Oq Aq Hq : Option Addr) (Cq Dq Ee : Nat) (soq : Nat → Option Addr) (scq : Nat → Nat), (MvI G B R K K N z (upd r q y)) → kk (.tup [arrS ch.length z Oq Aq Hq Cq Dq Ee, .c (.lit true)]) (ch ++ arrO ch.length z Oq Aq Hq Cq Dq Ee soq scq) []
    | _ => False
  | _ => False
theorem sMpM_ok : SmOK Try.prog 9 sMpM := by
  refine smN Try.call9 fun args ch kk w X h0 hs => ?_
  unfold sMpM at h0
  split at h0
  · rename_i c0 c1 c2 c3 c ea0 ea1 ea2 ea3 fb fc
    split at h0
    · rename_i G B R K mB mF mT N q y hi
      obtain ⟨q0, hi⟩ := ints_cons hi
      obtain ⟨q1, hi⟩ := ints_cons hi
      obtain ⟨q2, hi⟩ := ints_cons hi
      obtain ⟨q3, hi⟩ := ints_cons hi
      obtain ⟨q4, hi⟩ := ints_cons hi
      obtain ⟨q5, hi⟩ := ints_cons hi
      obtain ⟨q6, hi⟩ := ints_cons hi
      obtain ⟨q7, hi⟩ := ints_cons hi
      obtain ⟨q8, hi⟩ := ints_cons hi
      obtain ⟨q9, hi⟩ := ints_cons hi
      obtain ⟨x, O, A, H, C, D, E, so, sc, e, hA, r, ⟨rfl, rfl, rfl, hm, hq, hy⟩, h1⟩ := rdA_ok h0 hs
      have e20 : SA.den (.agg [c0, c1, c2, c3]) = .agg #[.int .i64 G, .int .i64 B, .int .i64 R, .int .i64 K] := by simp only [SA.den, den_c, List.map_cons, List.map_nil, q0, q1, q2, q3]
      have e21 : SA.den (.agg [ea0, ea1, ea2, ea3]) = .agg #[.int .i64 0, .int .i64 0, .int .i64 1, .int .i64 N] := by simp only [SA.den, den_c, List.map_cons, List.map_nil, q4, q5, q6, q7]
      have e22 : SA.den (.c fb) = .int .i64 q := by simp only [SA.den, den_c, List.map_cons, List.map_nil, q8]
      have e23 : SA.den (.c fc) = .int .i64 y := by simp only [SA.den, den_c, List.map_cons, List.map_nil, q9]
      simp only [List.map_cons, List.map_nil, den_a, e, e20, e21, e22, e23]
      have hcap := arr_cap hm.1.1 hm.1.2
      obtain ⟨hok, hpost⟩ := hm.put hq hy
      exact Calls.mono (mptI_all x O A H C D E so sc G B R K 0 0 1 N q y w hA hcap) fun e w' ⟨Oq, Aq, Hq, Cq, Dq, Ee, soq, scq, he, hs'⟩ => ⟨.tup [arrS ch.length _ Oq Aq Hq Cq Dq Ee, .c (.lit true)], _, by rw [he, hok]; rfl, arrO_at hs', rfl, h1 _ Oq Aq Hq Cq Dq Ee soq scq hpost⟩
    · exact h0.elim
  · exact h0.elim
def sMsM : Sm := fun args ch kk =>
  match args with
  | [.a (.agg [c0, c1, c2, c3]), .a c, .a (.agg [ea0, ea1, ea2, ea3])] =>
    match ints [c0, c1, c2, c3, ea0, ea1, ea2, ea3] with
    | some [G, B, R, K, mB, mF, mT, N] => rdA ch c fun x => ∃ r : Nat → Int, (mB = 0 ∧ mF = 0 ∧ mT = 1 ∧ MvI G B R K K N x r ∧ ltZ N K) ∧ ∀ (z : AD) (Oq Aq Hq : Option Addr) (Cq Dq Ee : Nat) (soq : Nat → Option Addr) (scq : Nat → Nat), (MvI G B R K K (iadd N 1) z r) → kk (.tup [arrS ch.length z Oq Aq Hq Cq Dq Ee, .agg [.il 0, .il 0, .il 1, .int (iadd N 1)], .c (.lit true)]) (ch ++ arrO ch.length z Oq Aq Hq Cq Dq Ee soq scq) []
    | _ => False
  | _ => False
theorem sMsM_ok : SmOK Try.prog 10 sMsM := by
  refine smN Try.call10 fun args ch kk w X h0 hs => ?_
  unfold sMsM at h0
  split at h0
  · rename_i c0 c1 c2 c3 c ea0 ea1 ea2 ea3
    split at h0
    · rename_i G B R K mB mF mT N hi
      obtain ⟨q0, hi⟩ := ints_cons hi
      obtain ⟨q1, hi⟩ := ints_cons hi
      obtain ⟨q2, hi⟩ := ints_cons hi
      obtain ⟨q3, hi⟩ := ints_cons hi
      obtain ⟨q4, hi⟩ := ints_cons hi
      obtain ⟨q5, hi⟩ := ints_cons hi
      obtain ⟨q6, hi⟩ := ints_cons hi
      obtain ⟨q7, hi⟩ := ints_cons hi
      obtain ⟨x, O, A, H, C, D, E, so, sc, e, hA, r, ⟨rfl, rfl, rfl, hm, hN⟩, h1⟩ := rdA_ok h0 hs
      have e20 : SA.den (.agg [c0, c1, c2, c3]) = .agg #[.int .i64 G, .int .i64 B, .int .i64 R, .int .i64 K] := by simp only [SA.den, den_c, List.map_cons, List.map_nil, q0, q1, q2, q3]
      have e21 : SA.den (.agg [ea0, ea1, ea2, ea3]) = .agg #[.int .i64 0, .int .i64 0, .int .i64 1, .int .i64 N] := by simp only [SA.den, den_c, List.map_cons, List.map_nil, q4, q5, q6, q7]
      simp only [List.map_cons, List.map_nil, den_a, e, e20, e21]
      have hcap := arr_cap hm.1.1 hm.1.2
      obtain ⟨hok, hpost⟩ := hm.step hN
      have hN1 : stepN G B R K 0 0 1 N x = N + 1 := by simp only [stepN, hok, if_true]
      exact Calls.mono (mstI_any x O A H C D E so sc G B R K 0 0 1 N w hA hcap) fun e w' ⟨Oq, Aq, Hq, Cq, Dq, Ee, soq, scq, he, hs'⟩ => ⟨.tup [arrS ch.length _ Oq Aq Hq Cq Dq Ee, .agg [.il 0, .il 0, .il 1, .int (iadd N 1)], .c (.lit true)], _, by rw [he, hok, hN1]; rfl, arrO_at hs', rfl, h1 _ Oq Aq Hq Cq Dq Ee soq scq hpost⟩
    · exact h0.elim
  · exact h0.elim
def sMsE : Sm := fun args ch kk =>
  match args with
  | [.a (.agg [c0, c1, c2, c3]), .a c, .a (.agg [ea0, ea1, ea2, ea3])] =>
    match ints [c0, c1, c2, c3, ea0, ea1, ea2, ea3] with
    | some [G, B, R, K, mB, mF, mT, N] => rdA ch c fun x => ∃ r : Nat → Int, (mB = 0 ∧ mF = 0 ∧ mT = 1 ∧ MvI G B R K K N x r ∧ K = N) ∧ ∀ (z : AD) (Oq Aq Hq : Option Addr) (Cq Dq Ee : Nat) (soq : Nat → Option Addr) (scq : Nat → Nat), (True) → kk (.tup [arrS ch.length z Oq Aq Hq Cq Dq Ee, .agg [.il 0, .il 0, .il 1, .int N], .c (.lit false)]) (ch ++ arrO ch.length z Oq Aq Hq Cq Dq Ee soq scq) []
    | _ => False
  | _ => False
theorem sMsE_ok : SmOK Try.prog 10 sMsE := by
  refine smN Try.call10 fun args ch kk w X h0 hs => ?_
  unfold sMsE at h0
  split at h0
  · rename_i c0 c1 c2 c3 c ea0 ea1 ea2 ea3
    split at h0
    · rename_i G B R K mB mF mT N hi
      obtain ⟨q0, hi⟩ := ints_cons hi
      obtain ⟨q1, hi⟩ := ints_cons hi
      obtain ⟨q2, hi⟩ := ints_cons hi
      obtain ⟨q3, hi⟩ := ints_cons hi
      obtain ⟨q4, hi⟩ := ints_cons hi
      obtain ⟨q5, hi⟩ := ints_cons hi
      obtain ⟨q6, hi⟩ := ints_cons hi
      obtain ⟨q7, hi⟩ := ints_cons hi
      obtain ⟨x, O, A, H, C, D, E, so, sc, e, hA, r, ⟨rfl, rfl, rfl, hm, hKN⟩, h1⟩ := rdA_ok h0 hs
      have e20 : SA.den (.agg [c0, c1, c2, c3]) = .agg #[.int .i64 G, .int .i64 B, .int .i64 R, .int .i64 K] := by simp only [SA.den, den_c, List.map_cons, List.map_nil, q0, q1, q2, q3]
      have e21 : SA.den (.agg [ea0, ea1, ea2, ea3]) = .agg #[.int .i64 0, .int .i64 0, .int .i64 1, .int .i64 N] := by simp only [SA.den, den_c, List.map_cons, List.map_nil, q4, q5, q6, q7]
      simp only [List.map_cons, List.map_nil, den_a, e, e20, e21]
      have hcap := arr_cap hm.1.1 hm.1.2
      have hok : stepOk G B R K 0 0 1 N x = false := by rw [← hKN]; exact MvI.stop
      have hpost := True.intro
      have hN1 : stepN G B R K 0 0 1 N x = N := by simp [stepN, hok]
      exact Calls.mono (mstI_any x O A H C D E so sc G B R K 0 0 1 N w hA hcap) fun e w' ⟨Oq, Aq, Hq, Cq, Dq, Ee, soq, scq, he, hs'⟩ => ⟨.tup [arrS ch.length _ Oq Aq Hq Cq Dq Ee, .agg [.il 0, .il 0, .il 1, .int N], .c (.lit false)], _, by rw [he, hok, hN1]; rfl, arrO_at hs', rfl, h1 _ Oq Aq Hq Cq Dq Ee soq scq hpost⟩
    · exact h0.elim
  · exact h0.elim
def sMgM : Sm := fun args ch kk =>
  match args with
  | [.a (.agg [c0, c1, c2, c3]), .a c, .a (.agg [ea0, ea1, ea2, ea3]), .a (.c fb)] =>
    match ints [c0, c1, c2, c3, ea0, ea1, ea2, ea3, fb] with
    | some [G, B, R, K, mB, mF, mT, N, q] => rdA ch c fun x => ∃ r : Nat → Int, (mB = 0 ∧ mF = 0 ∧ mT = 1 ∧ MvI G B R K K K x r ∧ K = N ∧ inZ q K) ∧ ∀ (z : AD) (Oq Aq Hq : Option Addr) (Cq Dq Ee : Nat) (soq : Nat → Option Addr) (scq : Nat → Nat), (True) → kk (.tup [arrS ch.length z Oq Aq Hq Cq Dq Ee, .c (.int (r (tn q))), .c (.il 0)]) (ch ++ arrO ch.length z Oq Aq Hq Cq Dq Ee soq scq) []
    | _ => False
  | _ => False
theorem sMgM_ok : SmOK Try.prog 11 sMgM := by
  refine smN Try.call11 fun args ch kk w X h0 hs => ?_
  unfold sMgM at h0
  split at h0
  · rename_i c0 c1 c2 c3 c ea0 ea1 ea2 ea3 fb
    split at h0
    · rename_i G B R K mB mF mT N q hi
      obtain ⟨q0, hi⟩ := ints_cons hi
      obtain ⟨q1, hi⟩ := ints_cons hi
      obtain ⟨q2, hi⟩ := ints_cons hi
      obtain ⟨q3, hi⟩ := ints_cons hi
      obtain ⟨q4, hi⟩ := ints_cons hi
      obtain ⟨q5, hi⟩ := ints_cons hi
      obtain ⟨q6, hi⟩ := ints_cons hi
      obtain ⟨q7, hi⟩ := ints_cons hi
      obtain ⟨q8, hi⟩ := ints_cons hi
      obtain ⟨x, O, A, H, C, D, E, so, sc, e, hA, r, ⟨rfl, rfl, rfl, hm, hNK, hq⟩, h1⟩ := rdA_ok h0 hs
      have e20 : SA.den (.agg [c0, c1, c2, c3]) = .agg #[.int .i64 G, .int .i64 B, .int .i64 R, .int .i64 K] := by simp only [SA.den, den_c, List.map_cons, List.map_nil, q0, q1, q2, q3]
      have e21 : SA.den (.agg [ea0, ea1, ea2, ea3]) = .agg #[.int .i64 0, .int .i64 0, .int .i64 1, .int .i64 N] := by simp only [SA.den, den_c, List.map_cons, List.map_nil, q4, q5, q6, q7]
      have e22 : SA.den (.c fb) = .int .i64 q := by simp only [SA.den, den_c, List.map_cons, List.map_nil, q8]
      simp only [List.map_cons, List.map_nil, den_a, e, e20, e21, e22]
      have hcap := arr_cap hm.1.1 hm.1.2
      subst hNK
      obtain ⟨hg1, hg2, _⟩ := hm.read hq
      have hpost := True.intro
      exact Calls.mono (mgtI_all x O A H C D E so sc G B R K 0 0 1 K q w hA hcap) fun e w' ⟨Oq, Aq, Hq, Cq, Dq, Ee, soq, scq, he, hs'⟩ => ⟨.tup [arrS ch.length _ Oq Aq Hq Cq Dq Ee, .c (.int (r (tn q))), .c (.il 0)], _, by rw [he, hg1, hg2]; rfl, arrO_at hs', rfl, h1 _ Oq Aq Hq Cq Dq Ee soq scq hpost⟩
    · exact h0.elim
  · exact h0.elim
def sGwM : Sm := fun args ch kk =>
  match args with
  | [.a (.agg [c0, c1, c2, c3]), .a c, .a (.agg [ea0, ea1, ea2])] =>
    match ints [c0, c1, c2, c3, ea0, ea1, ea2] with
    | some [G, B, R, K, dB, dR, q] => rdA ch c fun x => ∃ r : Nat → Int, (dB = 0 ∧ dR = 1 ∧ MvI G B R K K K x r ∧ inZ q K) ∧ ∀ (z : AD) (Oq Aq Hq : Option Addr) (Cq Dq Ee : Nat) (soq : Nat → Option Addr) (scq : Nat → Nat), (True) → kk (.tup [arrS ch.length z Oq Aq Hq Cq Dq Ee, .c (.int (r (tn q))), .c (.int (gwC G B R K 0 1 q x))]) (ch ++ arrO ch.length z Oq Aq Hq Cq Dq Ee soq scq) []
    | _ => False
  | _ => False
theorem sGwM_ok : SmOK Try.prog 12 sGwM := by
  refine smN Try.call12 fun args ch kk w X h0 hs => ?_
  unfold sGwM at h0
  split at h0
  · rename_i c0 c1 c2 c3 c ea0 ea1 ea2
    split at h0
    · rename_i G B R K dB dR q hi
      obtain ⟨q0, hi⟩ := ints_cons hi
      obtain ⟨q1, hi⟩ := ints_cons hi
      obtain ⟨q2, hi⟩ := ints_cons hi
      obtain ⟨q3, hi⟩ := ints_cons hi
      obtain ⟨q4, hi⟩ := ints_cons hi
      obtain ⟨q5, hi⟩ := ints_cons hi
      obtain ⟨q6, hi⟩ := ints_cons hi
      obtain ⟨x, O, A, H, C, D, E, so, sc, e, hA, r, ⟨rfl, rfl, hm, hq⟩, h1⟩ := rdA_ok h0 hs
      have e20 : SA.den (.agg [c0, c1, c2, c3]) = .agg #[.int .i64 G, .int .i64 B, .int .i64 R, .int .i64 K] := by simp only [SA.den, den_c, List.map_cons, List.map_nil, q0, q1, q2, q3]
      have e21 : SA.den (.agg [ea0, ea1, ea2]) = .agg #[.int .i64 0, .int .i64 1, .int .i64 q] := by simp only [SA.den, den_c, List.map_cons, List.map_nil, q4, q5, q6]
      simp only [List.map_cons, List.map_nil, den_a, e, e20, e21]
      have hcap := arr_cap hm.1.1 hm.1.2
      obtain ⟨_, _, hg3⟩ := hm.read hq
      have hpost := True.intro
      exact Calls.mono (gwS_all x O A H C D E so sc G B R K 0 1 q w hA hcap) fun e w' ⟨Oq, Aq, Hq, Cq, Dq, Ee, soq, scq, he, hs'⟩ => ⟨.tup [arrS ch.length _ Oq Aq Hq Cq Dq Ee, .c (.int (r (tn q))), .c (.int (gwC G B R K 0 1 q x))], _, by rw [he, hg3]; rfl, arrO_at hs', rfl, h1 _ Oq Aq Hq Cq Dq Ee soq scq hpost⟩
    · exact h0.elim
  · exact h0.elim
theorem smOf' {P : Program} {f : FuncId} {S S' : Sm} (h : SmOK P f S) (hi : ∀ args ch k, S' args ch k → S args ch (fun v ch' m => ∃ v', v'.den = v.den ∧ k v' ch' m)) : SmOK P f S' :=
  ⟨h.1, fun X args ch k w hS hs => (h.2 X args ch _ w (hi args ch k hS) hs).mono fun e w' ⟨v, ch', m, he, hs', hag, v', hv, hk⟩ => ⟨v', ch', m, by rw [he, hv], hs', hag, hk⟩⟩
def sMbX : Sm := fun args ch k =>
  match args with
  | [.a (.agg [c0, c1, c2, c3]), .a (.c c4), .a (.c c5), .a (.c c6)] =>
    match ints [c0, c1, c2, c3, c4, c5, c6], bools [] with
    | some [G, B, R, K, b, f, t], some [] => (b = 0 ∧ f = 0 ∧ t = 1 ∧ geoS G B R K) ∧ k (.tup [.agg [.il 0, .il 0, .il 1, .il 0], .c (.lit true)]) ch []
    | _, _ => False
  | _ => False
theorem sMbX_I : SmOK Try.prog 7 sMbX := by
  refine smOf' sMvB_I fun args ch k h => ?_
  unfold sMbX at h
  unfold sMvB
  split at h
  · split at h
    · rename_i G B R K b f t hi hb
      obtain ⟨⟨rfl, rfl, rfl, hg⟩, h⟩ := h
      simp only [hi, hb]
      refine ⟨_, ?_, h⟩
      have hK : 0 < K := by have := hg.2.2.2.1; omega
      have h0 := (ad0 hg (c := 0) ⟨by omega, hK⟩).1
      have h1 := (ad1 hg (c := 0) ⟨by omega, hK⟩).1
      have hm : mvB G B R K 0 0 1 = true := by
        simp only [mvB, h0, h1, Bool.true_and]
        rfl
      simp only [hm, ifZ, if_true]
      rfl
    · exact h.elim
  · exact h.elim
end Go.Proofs.Ytmgjmglmjfjliab

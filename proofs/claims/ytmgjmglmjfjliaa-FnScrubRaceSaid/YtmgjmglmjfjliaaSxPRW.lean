/-
  The race of the scrubber with a writer. Summaries for the race of the scrubber.
-/
import Derived.Test.YtmgjmglmjfjliaaSxPW
import Derived.Test.YtmgjmglmjfjliaaSxM8
import Derived.Test.YtmgjmglmjfjliaaSxS2
import Derived.Test.YtmgjmglmjfjliaaSxWA
import Derived.Test.YtmgjmglmjfjliaaSxM4
import Derived.Test.YtmgjmglmjfjliaaSxM6g
import Derived.Test.YtmgjmglmjfjliaaSxDr
namespace Go.Proofs.Ytmgjmglmjfjliaa
set_option linter.unusedVariables false
set_option linter.unusedSimpArgs false
open Go.RowKit
set_option maxRecDepth 100000
set_option maxHeartbeats 8000000

/-! The race. -/
theorem race {G B R K n y u p e : Int} {x : AD} {k : Nat} (hk : k = n.toNat) (h : arrOk G B R K x = true) (ha : atOk G B R K n = true) (hy : wrd y) (hu : wrd u) (hw : Wd x k y) (hp : 0 ≤ p ∧ p ≤ 10) (he : 1 ≤ e ∧ e ≤ 15) :
    ∀ z : AD, z = flA x k p.toNat (bits .xor .i64 (x.c.sy k p.toNat) e) → arrOk G B R K z = true ∧ slC G B R K n z = 1 ∧ z.c.po k = false ∧ (slA G B R K n z).c.po k = false ∧
    (∀ b : AD, b = setA z k 11 (fun i => cw u i) false → scOk G B R K b n 11 (z.c.sy k) (z.c.po k) 11 ((slA G B R K n z).c.sy k) = false) ∧
    scOk G B R K z n 11 (z.c.sy k) (z.c.po k) 11 ((slA G B R K n z).c.sy k) = true ∧ Wd (scA G B R K z n 11 (z.c.sy k) (z.c.po k) 11 ((slA G B R K n z).c.sy k) ((slA G B R K n z).c.po k)) k y ∧
    arrOk G B R K (scA G B R K z n 11 (z.c.sy k) (z.c.po k) 11 ((slA G B R K n z).c.sy k) ((slA G B R K n z).c.po k)) = true := by
  intro z hz
  obtain ⟨w1, w2, w3⟩ := hw
  have hin := (at_in h ha).2.1
  have hpn : p.toNat < 11 := by omega
  have hel : ∀ i, i < 11 → el (x.c.sy k i) := fun i hi => by rw [w3 i hi]; exact word_el hy hi
  have hee : el e := ⟨by omega, by omega⟩
  have hzs : ∀ i, z.c.sy k i = if i = p.toNat then bits .xor .i64 (x.c.sy k i) e else x.c.sy k i := fun i => by
    rw [hz]
    show (if k = k then (if i = p.toNat then _ else _) else _) = _
    rw [if_pos rfl]
    by_cases ei : i = p.toNat
    · rw [if_pos ei, if_pos ei, ei]
    · rw [if_neg ei, if_neg ei]
  have hzn : z.c.sn k = 11 := by rw [hz]; exact w1
  have hzp : z.c.po k = false := by rw [hz]; exact w2
  obtain ⟨c1, c2, c3⟩ := read_bent hy w3 hpn hee (by omega) (fun i _ => hzs i)
  have hzok : arrOk G B R K z = true := by
    rw [hz]
    refine arr_mk h (symQ_set (arr_parts h).2.2.2.2.1 ?_) (arr_parts h).2.2.2.2.2.1 (arr_parts h).2.2.2.2.2.2
    exact el_xor (hel _ hpn) hee
  have hsl : slOk G B R K n z = true := by simp only [slOk, hzok, ha, Bool.true_and]
  have hsA : slA G B R K n z = setA z k 11 (fun i => corW (z.c.sy k) i) false := by
    simp only [slA, hsl, if_true]
    show getN z n.toNat = _
    rw [← hk]
    simp only [getN, hzp, c1, if_true]
    rfl
  have hsC : slC G B R K n z = 1 := by
    simp only [slC, hsl, if_true]
    show getC z n.toNat = _
    rw [← hk]
    simp only [getC, hzp, c1]
    rfl
  have hsy : ∀ i, (slA G B R K n z).c.sy k i = corW (z.c.sy k) i := fun i => by
    rw [hsA]
    show (if k = k then _ else _) = _
    rw [if_pos rfl]
  have hsp : (slA G B R K n z).c.po k = false := by
    rw [hsA]
    show (if k = k then _ else _) = _
    rw [if_pos rfl]
  have hcel : ∀ i, i < 11 → el ((slA G B R K n z).c.sy k i) := fun i hi => by rw [hsy, c2 i hi]; exact word_el hy hi
  have hsym : symB 11 ((slA G B R K n z).c.sy k) 11 = true := symB_mk hcel rfl
  have hok : scOk G B R K z n 11 (z.c.sy k) (z.c.po k) 11 ((slA G B R K n z).c.sy k) = true := by
    simp only [scOk, hzok, ha, hsym, Bool.true_and]
    rw [← hk]
    simp only [sameB, andB, beqb, eqSB, hzn, ieq, beq_self_eq_true, Bool.true_and, Bool.and_self, Bool.and_true]
    exact allB_mk fun i _ => by simp
  have hA : scA G B R K z n 11 (z.c.sy k) (z.c.po k) 11 ((slA G B R K n z).c.sy k) ((slA G B R K n z).c.po k) = setA z k 11 ((slA G B R K n z).c.sy k) false := by
    simp only [scA, hok, if_true]
    rw [hsp, hk]
  refine ⟨hzok, hsC, hzp, hsp, fun b hb => ?_, hok, ?_, ?_⟩
  · cases q : scOk G B R K b n 11 (z.c.sy k) (z.c.po k) 11 ((slA G B R K n z).c.sy k) with
    | false => rfl
    | true =>
      obtain ⟨_, _, _, _, h5⟩ := sc_facts q
      exfalso
      refine c3 u hu fun i hi => ?_
      rw [← hk] at h5
      simp only [eqSB, Bool.and_eq_true] at h5
      have hbn : b.c.sn k = 11 := by rw [hb]; simp [setA]
      rw [hbn] at h5
      have h6 := allB_get h5.2 hi
      have h7 : b.c.sy k i = z.c.sy k i := by simpa [ieq] using h6
      rw [← h7, hb]
      show _ = (if k = k then _ else _)
      rw [if_pos rfl]
  · rw [hA]
    exact Wd.here fun i hi => by rw [hsy, c2 i hi]
  · rw [hA]
    exact arr_set hzok (symB_mk hcel rfl)
theorem put_q {G B R K b r c y : Int} {x z : AD} {k : Nat} (h : z = putA G B R K b r c x y) (hok : arrOk G B R K x = true) (ha : adOk G B R K b r c = true) (hk : ixN G B R K b r c = k) (hy : wrd y) : arrOk G B R K z = true ∧ Wd z k y ∧ z = setA x k 11 (fun i => cw y i) false := by
  obtain ⟨h0, h1, h2, _⟩ := put_ok hok ha hy
  rw [hk] at h0 h2
  rw [h]
  exact ⟨h1, h2, h0⟩
theorem race_all {G B R K b r c n y u q e : Int} {Y : AD} (hg : geoS G B R K) (hok : arrOk G B R K Y = true) (hat : atOk G B R K n = true) (had : adOk G B R K b r c = true) (hix : adIx G B R K b r c = n) (hw : Wd Y n.toNat y) (hy : wrd y) (hu : wrd u) (hq : 0 ≤ q ∧ q ≤ 10) (he : 1 ≤ e ∧ e ≤ 15) :
    ∀ z, z = flipA G B R K b r c q e Y → ∀ d, d = putA G B R K b r c z u → ∀ y1, y1 = scA G B R K z n 11 (z.c.sy n.toNat) (z.c.po n.toNat) 11 ((slA G B R K n z).c.sy n.toNat) ((slA G B R K n z).c.po n.toNat) →
    ∀ y2, y2 = scA G B R K d n 11 (z.c.sy n.toNat) (z.c.po n.toNat) 11 ((slA G B R K n z).c.sy n.toNat) ((slA G B R K n z).c.po n.toNat) →
    arrOk G B R K z = true ∧ slC G B R K n z = 1 ∧ scOk G B R K z n 11 (z.c.sy n.toNat) (z.c.po n.toNat) 11 ((slA G B R K n z).c.sy n.toNat) = true ∧ arrOk G B R K d = true ∧
    scOk G B R K d n 11 (z.c.sy n.toNat) (z.c.po n.toNat) 11 ((slA G B R K n z).c.sy n.toNat) = false ∧ capA y1 ∧ capA y2 ∧ gwX G B R K b r c y1 = y ∧ gwX G B R K b r c y2 = u := by
  intro z hz d hd y1 h1 y2 h2
  have hk : ixN G B R K b r c = n.toNat := by simp only [ixN, hix]
  have hz' : z = flA Y n.toNat q.toNat (bits .xor .i64 (Y.c.sy n.toNat q.toNat) e) := by rw [hz]; simp only [flipA, hix]
  obtain ⟨r1, r2, r3, r4, r5, r6, r7, r8⟩ := race rfl hok hat hy hu hw hq he z hz'
  obtain ⟨d1, d2, d3⟩ := put_q hd r1 had hk hu
  have r9 := r5 d d3
  have e2 : y2 = d := by rw [h2]; simp only [scA, r9]; rfl
  rw [← h1] at r7 r8
  refine ⟨r1, r2, r6, d1, r9, arr_cap hg r8, ?_, ?_, ?_⟩
  · rw [e2]; exact arr_cap hg d1
  · exact (gw_ok r8 had hy (by rw [hk]; exact r7)).1
  · rw [e2]; exact (gw_ok d1 had hu (by rw [hk]; exact d2)).1

theorem getN_sn {x : AD} {k : Nat} (h : x.c.sn k = 11) : (getN x k).c.sn k = 11 := by
  unfold getN
  split
  · exact h
  · split
    · simp [setA]
    · split
      · exact h
      · exact h
def begQ (G B R K n : Int) (x : AD) (bf af : Nat → Int) (bp ap : Bool) (tc : Int) : Prop := bf = x.c.sy n.toNat ∧ bp = x.c.po n.toNat ∧ af = (slA G B R K n x).c.sy n.toNat ∧ ap = (slA G B R K n x).c.po n.toNat ∧ tc = slC G B R K n x
def sBegL : Sm := fun args ch kk =>
  match args with
  | [.a (.agg [c0, c1, c2, c3]), .a c, .a (.c f0)] =>
    match ints [c0, c1, c2, c3, f0] with
    | some [G, B, R, K, n] => rdA ch c fun x => (geoS G B R K ∧ arrOk G B R K x = true ∧ atOk G B R K n = true) ∧ ∀ (bf af : Nat → Int) (bp ap : Bool) (tc : Int) (r1 r2 : Option Addr) (c1 c2 : Nat), begQ G B R K n x bf af bp ap tc → kk (.tup [.agg [.int n, .sl ch.length r1 11 c1, .bool bp, .sl (ch.length + 1) r2 11 c2, .bool ap, .int tc], .c (.bool true)]) (ch ++ [.row ⟨true, r1, 3, 1, 11, c1, [fun i => .int (bf i)]⟩, .row ⟨true, r2, 3, 1, 11, c2, [fun i => .int (af i)]⟩]) []
    | _ => False
  | _ => False
theorem sBegL_I : SmOK Try.prog 11 sBegL := by
  refine smN Try.call11 fun args ch kk w X h0 hs => ?_
  unfold sBegL at h0
  split at h0
  · rename_i c0 c1 c2 c3 c f0
    split at h0
    · rename_i G B R K n hi
      obtain ⟨q0, hi⟩ := ints_cons hi
      obtain ⟨q1, hi⟩ := ints_cons hi
      obtain ⟨q2, hi⟩ := ints_cons hi
      obtain ⟨q3, hi⟩ := ints_cons hi
      obtain ⟨q4, hi⟩ := ints_cons hi
      obtain ⟨x, O, A, H, C, D, E, so, sc, e, hA, ⟨hg, hok, hat⟩, h1⟩ := rdA_ok h0 hs
      have e20 : SA.den (.agg [c0, c1, c2, c3]) = .agg #[.int .i64 G, .int .i64 B, .int .i64 R, .int .i64 K] := by simp only [SA.den, den_c, List.map_cons, List.map_nil, q0, q1, q2, q3]
      have e22 : SA.den (.c f0) = .int .i64 n := by simp only [SA.den, den_c, q4]
      simp only [List.map_cons, List.map_nil, den_a, e, e20, e22]
      have hsl : slOk G B R K n x = true := by simp [slOk, hok, hat]
      have h11 : x.c.sn n.toNat = 11 := symQ_n (arr_parts hok).2.2.2.2.1 _ (at_in hok hat).2.1
      have h12 : (slA G B R K n x).c.sn n.toNat = 11 := by
        simp only [slA, hsl, if_true]
        exact getN_sn h11
      exact Calls.mono (sbgI_any x O A H C D E so sc G B R K n n 11 (x.c.sy n.toNat) (x.c.po n.toNat) 11 ((slA G B R K n x).c.sy n.toNat) ((slA G B R K n x).c.po n.toNat) (slC G B R K n x) true w hA (arr_cap hg hok) (fun h => by rw [hsl] at h; cases h) (fun _ => ⟨rfl, h11.symm, rfl, rfl, h12.symm, rfl, rfl, rfl, rfl⟩)) fun e w' ⟨r1, r2, d1, d2, he, hs'⟩ => ⟨.tup [.agg [.int n, .sl ch.length r1 11 d1, .bool (x.c.po n.toNat), .sl (ch.length + 1) r2 11 d2, .bool ((slA G B R K n x).c.po n.toNat), .int (slC G B R K n x)], .c (.bool true)], _, by rw [he]; rfl, hs', rfl, h1 _ _ _ _ _ r1 r2 d1 d2 ⟨rfl, rfl, rfl, rfl, rfl⟩⟩
    · exact h0.elim
  · exact h0.elim
def comQ (G B R K n : Int) (x : AD) (bn : Nat) (bf : Nat → Int) (bp : Bool) (an : Nat) (af : Nat → Int) (ap : Bool) (y : AD) (ok : Bool) : Prop := y = scA G B R K x n bn bf bp an af ap ∧ ok = scOk G B R K x n bn bf bp an af
def sComL : Sm := fun args ch kk =>
  match args with
  | [.a (.agg [c0, c1, c2, c3]), .a c, .a (.agg [d0, d1, d2, d3, d4, d5])] =>
    match ints [c0, c1, c2, c3, d0, d5], bools [d2, d4] with
    | some [G, B, R, K, n, tc], some [bp, ap] => rdA ch c fun x => (geoS G B R K ∧ arrOk G B R K x = true) ∧ rd1 ch d1 fun bn bf => rd1 ch d3 fun an af => capC an ∧ ∀ (y : AD) (ok : Bool) (Oq Aq Hq : Option Addr) (Cq Dq Ee : Nat) (soq : Nat → Option Addr) (scq : Nat → Nat), comQ G B R K n x bn bf bp an af ap y ok → kk (.tup [arrS ch.length y Oq Aq Hq Cq Dq Ee, .c (.bool ok)]) (ch ++ arrO ch.length y Oq Aq Hq Cq Dq Ee soq scq) []
    | _, _ => False
  | _ => False
theorem sComL_I : SmOK Try.prog 12 sComL := by
  refine smN Try.call12 fun args ch kk w X h0 hs => ?_
  unfold sComL at h0
  split at h0
  · rename_i c0 c1 c2 c3 c d0 d1 d2 d3 d4 d5
    split at h0
    · rename_i G B R K n tc bp ap hi hb
      obtain ⟨q0, hi⟩ := ints_cons hi
      obtain ⟨q1, hi⟩ := ints_cons hi
      obtain ⟨q2, hi⟩ := ints_cons hi
      obtain ⟨q3, hi⟩ := ints_cons hi
      obtain ⟨q4, hi⟩ := ints_cons hi
      obtain ⟨q5, hi⟩ := ints_cons hi
      obtain ⟨p0, hb⟩ := bools_cons hb
      obtain ⟨p1, hb⟩ := bools_cons hb
      obtain ⟨x, O, A, H, C, D, E, so, sc, e, hA, ⟨hg, hok⟩, h1⟩ := rdA_ok h0 hs
      obtain ⟨bo, bn, bc, bf, eb, hrb, h1⟩ := rd1_ok h1 hs
      obtain ⟨ko, kn, kc, kf, ek, hrk, hle, h1⟩ := rd1_ok h1 hs
      have e20 : SA.den (.agg [c0, c1, c2, c3]) = .agg #[.int .i64 G, .int .i64 B, .int .i64 R, .int .i64 K] := by simp only [SA.den, den_c, List.map_cons, List.map_nil, q0, q1, q2, q3]
      have e22 : SA.den (.agg [d0, d1, d2, d3, d4, d5]) = .agg #[.int .i64 n, .slice bo bn bc, .bool bp, .slice ko kn kc, .bool ap, .int .i64 tc] := by simp only [SA.den, den_c, List.map_cons, List.map_nil, q4, q5, p0, p1, eb, ek]
      simp only [List.map_cons, List.map_nil, den_a, e, e20, e22]
      exact Calls.mono (scI_any x O A H C D E so sc G B R K n bo ko bn bc kn kc bf kf bp ap tc w hA hrb hrk (arr_cap hg hok) hle) fun e w' ⟨Oq, Aq, Hq, Cq, Dq, Ee, soq, scq, he, hs'⟩ => ⟨.tup [arrS ch.length (scA G B R K x n bn bf bp kn kf ap) Oq Aq Hq Cq Dq Ee, .c (.bool (scOk G B R K x n bn bf bp kn kf))], _, by rw [he]; rfl, arrO_at hs', rfl, h1 _ _ Oq Aq Hq Cq Dq Ee soq scq ⟨rfl, rfl⟩⟩
    · exact h0.elim
  · exact h0.elim
def putQ (G B R K dB dR dC : Int) (x : AD) (y : Int) (z : AD) : Prop := z = putA G B R K dB dR dC x y
def sPutL : Sm := fun args ch kk =>
  match args with
  | [.a (.agg [c0, c1, c2, c3]), .a c, .a (.agg [e0, e1, e2]), .a (.c f0)] =>
    match ints [c0, c1, c2, c3, e0, e1, e2, f0] with
    | some [G, B, R, K, dB, dR, dC, y] => rdA ch c fun x => (geoS G B R K ∧ arrOk G B R K x = true) ∧ ∀ (z : AD) (Oq Aq Hq : Option Addr) (Cq Dq Ee : Nat) (soq : Nat → Option Addr) (scq : Nat → Nat), putQ G B R K dB dR dC x y z → kk (.a (arrS ch.length z Oq Aq Hq Cq Dq Ee)) (ch ++ arrO ch.length z Oq Aq Hq Cq Dq Ee soq scq) []
    | _ => False
  | _ => False
theorem sPutL_S : SmOK Try.prog 9 sPutL := by
  refine smN Try.call9 fun args ch kk w X h0 hs => ?_
  unfold sPutL at h0
  split at h0
  · rename_i c0 c1 c2 c3 c e0 e1 e2 f0
    split at h0
    · rename_i G B R K dB dR dC y hi
      obtain ⟨q0, hi⟩ := ints_cons hi
      obtain ⟨q1, hi⟩ := ints_cons hi
      obtain ⟨q2, hi⟩ := ints_cons hi
      obtain ⟨q3, hi⟩ := ints_cons hi
      obtain ⟨q4, hi⟩ := ints_cons hi
      obtain ⟨q5, hi⟩ := ints_cons hi
      obtain ⟨q6, hi⟩ := ints_cons hi
      obtain ⟨q7, hi⟩ := ints_cons hi
      obtain ⟨x, O, A, H, C, D, E, so, sc, e, hA, ⟨hg, hok⟩, h1⟩ := rdA_ok h0 hs
      have e20 : SA.den (.agg [c0, c1, c2, c3]) = .agg #[.int .i64 G, .int .i64 B, .int .i64 R, .int .i64 K] := by simp only [SA.den, den_c, List.map_cons, List.map_nil, q0, q1, q2, q3]
      have e21 : SA.den (.agg [e0, e1, e2]) = .agg #[.int .i64 dB, .int .i64 dR, .int .i64 dC] := by simp only [SA.den, den_c, List.map_cons, List.map_nil, q4, q5, q6]
      have e22 : SA.den (.c f0) = .int .i64 y := by simp only [SA.den, den_c, q7]
      simp only [List.map_cons, List.map_nil, den_a, e, e20, e21, e22]
      exact Calls.mono (putS_all x O A H C D E so sc G B R K dB dR dC y w hA (arr_cap hg hok)) fun e w' ⟨Oq, Aq, Hq, Cq, Dq, Ee, soq, scq, he, hs'⟩ => ⟨.a (arrS ch.length (putA G B R K dB dR dC x y) Oq Aq Hq Cq Dq Ee), _, by rw [he]; rfl, arrO_at hs', rfl, h1 _ Oq Aq Hq Cq Dq Ee soq scq rfl⟩
    · exact h0.elim
  · exact h0.elim
def getQ (G B R K dB dR dC : Int) (x : AD) (y : AD) (v c : Int) : Prop := y = gwA G B R K dB dR dC x ∧ v = gwX G B R K dB dR dC x ∧ c = gwC G B R K dB dR dC x
def sGetL : Sm := fun args ch kk =>
  match args with
  | [.a (.agg [c0, c1, c2, c3]), .a c, .a (.agg [e0, e1, e2])] =>
    match ints [c0, c1, c2, c3, e0, e1, e2] with
    | some [G, B, R, K, dB, dR, dC] => rdA ch c fun x => capA x ∧ ∀ (z : AD) (v cd : Int) (Oq Aq Hq : Option Addr) (Cq Dq Ee : Nat) (soq : Nat → Option Addr) (scq : Nat → Nat), getQ G B R K dB dR dC x z v cd → kk (.tup [arrS ch.length z Oq Aq Hq Cq Dq Ee, .c (.int v), .c (.int cd)]) (ch ++ arrO ch.length z Oq Aq Hq Cq Dq Ee soq scq) []
    | _ => False
  | _ => False
theorem sGetL_S : SmOK Try.prog 13 sGetL := by
  refine smN Try.call13 fun args ch kk w X h0 hs => ?_
  unfold sGetL at h0
  split at h0
  · rename_i c0 c1 c2 c3 c e0 e1 e2
    split at h0
    · rename_i G B R K dB dR dC hi
      obtain ⟨q0, hi⟩ := ints_cons hi
      obtain ⟨q1, hi⟩ := ints_cons hi
      obtain ⟨q2, hi⟩ := ints_cons hi
      obtain ⟨q3, hi⟩ := ints_cons hi
      obtain ⟨q4, hi⟩ := ints_cons hi
      obtain ⟨q5, hi⟩ := ints_cons hi
      obtain ⟨q6, hi⟩ := ints_cons hi
      obtain ⟨x, O, A, H, C, D, E, so, sc, e, hA, hcap, h1⟩ := rdA_ok h0 hs
      have e20 : SA.den (.agg [c0, c1, c2, c3]) = .agg #[.int .i64 G, .int .i64 B, .int .i64 R, .int .i64 K] := by simp only [SA.den, den_c, List.map_cons, List.map_nil, q0, q1, q2, q3]
      have e21 : SA.den (.agg [e0, e1, e2]) = .agg #[.int .i64 dB, .int .i64 dR, .int .i64 dC] := by simp only [SA.den, den_c, List.map_cons, List.map_nil, q4, q5, q6]
      simp only [List.map_cons, List.map_nil, den_a, e, e20, e21]
      exact Calls.mono (gwS_all x O A H C D E so sc G B R K dB dR dC w hA hcap) fun e w' ⟨Oq, Aq, Hq, Cq, Dq, Ee, soq, scq, he, hs'⟩ => ⟨.tup [arrS ch.length (gwA G B R K dB dR dC x) Oq Aq Hq Cq Dq Ee, .c (.int (gwX G B R K dB dR dC x)), .c (.int (gwC G B R K dB dR dC x))], _, by rw [he]; rfl, arrO_at hs', rfl, h1 _ _ _ Oq Aq Hq Cq Dq Ee soq scq ⟨rfl, rfl, rfl⟩⟩
    · exact h0.elim
  · exact h0.elim
end Go.Proofs.Ytmgjmglmjfjliaa

/-
  A scrub begun.
-/
import Derived.Test.YtddeinpnadfgmaaSxM6s
namespace Go.Proofs.Ytddeinpnadfgmaa
set_option linter.unusedVariables false
set_option linter.unusedSimpArgs false
open Go.RowKit
set_option maxRecDepth 100000
set_option maxHeartbeats 8000000

def sScl : Sm := fun args ch kk =>
  match args with
  | [.a (.agg [c0, c1, c2, c3]), .a c, .a (.c f0)] =>
    match ints [c0, c1, c2, c3, f0] with
    | some [gG, gB, gR, gC, n] => rdA ch c fun x => capA x ∧ ∀ (Oq Aq Hq : Option Addr) (Cq Dq Ee : Nat) (soq : Nat → Option Addr) (scq : Nat → Nat), kk (.tup [arrS ch.length (slA gG gB gR gC n x) Oq Aq Hq Cq Dq Ee, .c (.int (slC gG gB gR gC n x))]) (ch ++ arrO ch.length ((slA gG gB gR gC n x)) Oq Aq Hq Cq Dq Ee soq scq) []
    | _ => False
  | _ => False
theorem sScl_I : SmOK Try.prog 86 sScl := by
  refine smN Try.call86 fun args ch kk w X h0 hs => ?_
  unfold sScl at h0
  split at h0
  · rename_i c0 c1 c2 c3 c f0
    split at h0
    · rename_i gG gB gR gC n hi
      obtain ⟨q0, hi⟩ := ints_cons hi
      obtain ⟨q1, hi⟩ := ints_cons hi
      obtain ⟨q2, hi⟩ := ints_cons hi
      obtain ⟨q3, hi⟩ := ints_cons hi
      obtain ⟨q4, hi⟩ := ints_cons hi
      obtain ⟨x, O, A, H, C, D, E, so, sc, e, hA, hcond, h1⟩ := rdA_ok h0 hs
      have e20 : SA.den (.agg [c0, c1, c2, c3]) = .agg #[.int .i64 gG, .int .i64 gB, .int .i64 gR, .int .i64 gC] := by simp only [SA.den, den_c, List.map_cons, List.map_nil, q0, q1, q2, q3]
      have e21 : SA.den (.c f0) = .int .i64 n := by simp only [SA.den, den_c, List.map_cons, List.map_nil, q4]
      simp only [List.map_cons, List.map_nil, den_a, e, e20, e21]
      refine Calls.mono (slI_all x O A H C D E so sc gG gB gR gC n w hA hcond) fun e w' ⟨Oq, Aq, Hq, Cq, Dq, Ee, soq, scq, he, hs'⟩ => ⟨.tup [arrS ch.length (slA gG gB gR gC n x) Oq Aq Hq Cq Dq Ee, .c (.int (slC gG gB gR gC n x))], _, by rw [he]; rfl, arrO_at hs', rfl, h1 Oq Aq Hq Cq Dq Ee soq scq⟩
    · exact h0.elim
  · exact h0.elim
theorem capA_set' {x : AD} {k m : Nat} {f : Nat → Int} {b : Bool} (h : capA x) (hm : m ≤ 2097152) : capA (setA x k m f b) :=
  ⟨h.1, h.2.1, h.2.2.1, fun i hi => by
    show (if i = k then m else x.c.sn i) ≤ 2097152
    split
    · exact hm
    · exact h.2.2.2 i hi⟩
theorem capA_po {x : AD} {p : Nat → Bool} (h : capA x) : capA (poA x p) := h
theorem capA_get {x : AD} {k : Nat} (h : capA x) : capA (getN x k) := by
  unfold getN
  split
  · exact h
  · split
    · exact capA_set' h (by omega)
    · split
      · exact capA_po h
      · exact h
theorem capA_sl {gG gB gR gC n : Int} {x : AD} (h : capA x) : capA (slA gG gB gR gC n x) := by
  unfold slA
  split
  · exact capA_get h
  · exact h
theorem slA_n {gG gB gR gC n : Int} {x : AD} : (slA gG gB gR gC n x).c.n = x.c.n := by
  unfold slA getN
  split
  · split
    · rfl
    · split
      · rfl
      · split <;> rfl
  · rfl
theorem sbgI_T (x : AD) (O A H : Option Addr) (C D E : Nat) (so : Nat → Option Addr) (sc : Nat → Nat) (gG gB gR gC : Int) (n : Int) (ti : Int) (bn : Nat) (bf : Nat → Int) (bp : Bool) (an : Nat) (af : Nat → Int) (ap : Bool) (tc : Int) (tk : Bool) : (exFn Try.prog {tb := [(67, sAdAt), (52, sArrOk), (86, sScl), (71, sCpC)]} 400 Try.f35 ([.a (.agg [.int gG, .int gB, .int gR, .int gC]), .a (arrS 0 x O A H C D E), .a (.c (.int n))]) (arrR 0 x O A H so sc) (fun v ch => ∃ (r1 r2 : Option Addr) (c1 c2 : Nat), OutR v ch (.tuple #[.agg #[.int .i64 ti, .slice r1 bn c1, .bool bp, .slice r2 an c2, .bool ap, .int .i64 tc], .bool tk]) [.row ⟨true, r1, 3, 1, bn, c1, [fun i => .int (bf i)]⟩, .row ⟨true, r2, 3, 1, an, c2, [fun i => .int (af i)]⟩])) = (
  (∀ b0 : Nat,
 (∀ b1 : Nat,
 (∀ b2 : Nat,
 (b0 = b0 ∧
 (∀ b3 : Nat,
 (b3 = b3 ∧
 (((!(atOk gG gB gR gC n)) = false →
 (b0 = b0 ∧
 (b1 = b1 ∧
 (∃ t4 : Nat, (∃ y5 : CD, (∃ so6 : (Nat →
 (Option Addr)), (∃ sc7 : (Nat →
 Nat), (∃ sd8 : (Nat →
 Nat), (∃ ag9 : (Nat →
 Int), (∃ hg10 : (Nat →
 Int), (((symRows false 0 x.1 so (fun x11 => 0)) = (symRows false t4 y5 so6 sd8) ∧
 ([(fun i12 => (Cs 3 (so i12) (x.1.2 i12) (sc i12))), (fun i13 => (Cb (x.1.4 i13)))] = [(fun i14 => (Cs 3 (so6 i14) (y5.2 i14) (sc7 i14))), (fun i15 => (Cb (y5.4 i15)))] ∧
 (O = O ∧
 (x.1.1 = x.1.1 ∧
 (x.1.1 = y5.1 ∧
 (A = A ∧
 (x.2 = x.2 ∧
 ([(fun i16 => (Ci (x.3 i16)))] = [(fun i17 => (Ci (ag9 i17)))] ∧
 (H = H ∧
 (x.4 = x.4 ∧
 [(fun i18 => (Ci (x.5 i18)))] = [(fun i19 => (Ci (hg10 i19)))])))))))))) ∧
 ((lenA (AD.mk y5 x.2 ag9 x.4 hg10)) ∧
 (((!(arrOk gG gB gR gC (AD.mk y5 x.2 ag9 x.4 hg10))) = true →
 (b2 = b2 ∧
 (b2 = b2 ∧
 (∃ r120 : (Option Addr), (∃ r221 : (Option Addr), (∃ c122 : Nat, (∃ c223 : Nat, ((Wu [(Wa [(Wi 0), Wn, (Wb false), Wn, (Wb false), (Wi 0)]), (Wb false)]) = (Wu [(Wa [(Wi ti), (Ws r120 bn c122), (Wb bp), (Ws r221 an c223), (Wb ap), (Wi tc)]), (Wb tk)]) ∧
 (((true = true ∧
 ((none : Option (Addr)) = r120 ∧
 (0 = bn ∧
 (0 = c122 ∧
 true = true)))) ∧
 ((true = true ∧
 ((none : Option (Addr)) = r221 ∧
 (0 = an ∧
 (0 = c223 ∧
 true = true)))) ∧
 True)) ∧
 true = true))))))))) ∧
 ((!(arrOk gG gB gR gC (AD.mk y5 x.2 ag9 x.4 hg10))) = false →
 (b0 = b0 ∧
 (b1 = b1 ∧
 (∃ t24 : Nat, (∃ y25 : CD, (∃ so26 : (Nat →
 (Option Addr)), (∃ sc27 : (Nat →
 Nat), (∃ sd28 : (Nat →
 Nat), (∃ ag29 : (Nat →
 Int), (∃ hg30 : (Nat →
 Int), (((symRows false 0 x.1 so (fun x31 => 0)) = (symRows false t24 y25 so26 sd28) ∧
 ([(fun i32 => (Cs 3 (so i32) (x.1.2 i32) (sc i32))), (fun i33 => (Cb (x.1.4 i33)))] = [(fun i34 => (Cs 3 (so26 i34) (y25.2 i34) (sc27 i34))), (fun i35 => (Cb (y25.4 i35)))] ∧
 (O = O ∧
 (x.1.1 = x.1.1 ∧
 (x.1.1 = y25.1 ∧
 (A = A ∧
 (x.2 = x.2 ∧
 ([(fun i36 => (Ci (x.3 i36)))] = [(fun i37 => (Ci (ag29 i37)))] ∧
 (H = H ∧
 (x.4 = x.4 ∧
 [(fun i38 => (Ci (x.5 i38)))] = [(fun i39 => (Ci (hg30 i39)))])))))))))) ∧
 ((capA (AD.mk y25 x.2 ag29 x.4 hg30)) ∧
 (∀ Oq40 : (Option Addr),
 (∀ Aq41 : (Option Addr),
 (∀ Hq42 : (Option Addr),
 (∀ Cq43 : Nat,
 (∀ Dq44 : Nat,
 (∀ Ee45 : Nat,
 (∀ soq46 : (Nat →
 (Option Addr)),
 (∀ scq47 : (Nat →
 Nat),
 (∀ b48 : Nat,
 (b48 = b48 ∧
 (b1 = b1 ∧
 (O = O ∧
 (x.1.1 = x.1.1 ∧
 ((0 ≤ n ∧ n < ((x.1.1 : Nat) : Int)) ∧
 (O = O ∧
 ((Int.toNat n) < x.1.1 ∧
 (b48 = b48 ∧
 (Oq40 = Oq40 ∧
 (((slA gG gB gR gC n (AD.mk y25 x.2 ag29 x.4 hg30))).1.1 = ((slA gG gB gR gC n (AD.mk y25 x.2 ag29 x.4 hg30))).1.1 ∧
 ((0 ≤ n ∧ n < ((((slA gG gB gR gC n (AD.mk y25 x.2 ag29 x.4 hg30))).1.1 : Nat) : Int)) ∧
 (Oq40 = Oq40 ∧
 ((Int.toNat n) < ((slA gG gB gR gC n (AD.mk y25 x.2 ag29 x.4 hg30))).1.1 ∧
 (∃ t49 : Nat, (∃ y50 : CD, (∃ so51 : (Nat →
 (Option Addr)), (∃ sc52 : (Nat →
 Nat), (∃ i53 : Nat, (((symRows false 0 x.1 so (fun x54 => 0)) = (symRows false t49 y50 so51 sc52) ∧
 ((so (Int.toNat n)) = (so51 i53) ∧
 ((x.1.2 (Int.toNat n)) = (y50.2 i53) ∧
 i53 < y50.1))) ∧
 ((capC (x.1.2 (Int.toNat n))) ∧
 (∀ ro55 : (Option Addr),
 (∀ rc56 : Nat,
 (True ∧
 (∃ t57 : Nat, (∃ y58 : CD, (∃ so59 : (Nat →
 (Option Addr)), (∃ sc60 : (Nat →
 Nat), (∃ i61 : Nat, (((symRows true 3 ((slA gG gB gR gC n (AD.mk y25 x.2 ag29 x.4 hg30))).1 soq46 scq47) = (symRows true t57 y58 so59 sc60) ∧
 ((soq46 (Int.toNat n)) = (so59 i61) ∧
 ((((slA gG gB gR gC n (AD.mk y25 x.2 ag29 x.4 hg30))).1.2 (Int.toNat n)) = (y58.2 i61) ∧
 i61 < y58.1))) ∧
 ((capC (((slA gG gB gR gC n (AD.mk y25 x.2 ag29 x.4 hg30))).1.2 (Int.toNat n))) ∧
 (∀ ro62 : (Option Addr),
 (∀ rc63 : Nat,
 (True ∧
 (b2 = b2 ∧
 (True ∧
 (b2 = b2 ∧
 (∃ r164 : (Option Addr), (∃ r265 : (Option Addr), (∃ c166 : Nat, (∃ c267 : Nat, ((Wu [(Wa [(Wi n), (Ws ro55 (x.1.2 (Int.toNat n)) rc56), (Wb (x.1.4 (Int.toNat n))), (Ws ro62 (((slA gG gB gR gC n (AD.mk y25 x.2 ag29 x.4 hg30))).1.2 (Int.toNat n)) rc63), (Wb (((slA gG gB gR gC n (AD.mk y25 x.2 ag29 x.4 hg30))).1.4 (Int.toNat n))), (Wi (slC gG gB gR gC n (AD.mk y25 x.2 ag29 x.4 hg30)))]), (Wb true)]) = (Wu [(Wa [(Wi ti), (Ws r164 bn c166), (Wb bp), (Ws r265 an c267), (Wb ap), (Wi tc)]), (Wb tk)]) ∧
 (((true = true ∧
 (ro55 = r164 ∧
 (3 = 3 ∧
 (1 = 1 ∧
 ((x.1.2 (Int.toNat n)) = bn ∧
 (rc56 = c166 ∧
 ((∀ i68 : Nat,
 (i68 < (x.1.2 (Int.toNat n)) →
 (Wi (y50.3 i53 i68)) = (Wi (bf i68)))) ∧
 True))))))) ∧
 ((true = true ∧
 (ro62 = r265 ∧
 (3 = 3 ∧
 (1 = 1 ∧
 ((((slA gG gB gR gC n (AD.mk y25 x.2 ag29 x.4 hg30))).1.2 (Int.toNat n)) = an ∧
 (rc63 = c267 ∧
 ((∀ i69 : Nat,
 (i69 < (((slA gG gB gR gC n (AD.mk y25 x.2 ag29 x.4 hg30))).1.2 (Int.toNat n)) →
 (Wi (y58.3 i61 i69)) = (Wi (af i69)))) ∧
 True))))))) ∧
 True)) ∧
 true = true)))))))))))))))))))))))))))))))))))))))))))))))))))))))))))))))))))))))))))) ∧
 ((!(atOk gG gB gR gC n)) = true →
 (b2 = b2 ∧
 (b2 = b2 ∧
 (∃ r170 : (Option Addr), (∃ r271 : (Option Addr), (∃ c172 : Nat, (∃ c273 : Nat, ((Wu [(Wa [(Wi 0), Wn, (Wb false), Wn, (Wb false), (Wi 0)]), (Wb false)]) = (Wu [(Wa [(Wi ti), (Ws r170 bn c172), (Wb bp), (Ws r271 an c273), (Wb ap), (Wi tc)]), (Wb tk)]) ∧
 (((true = true ∧
 ((none : Option (Addr)) = r170 ∧
 (0 = bn ∧
 (0 = c172 ∧
 true = true)))) ∧
 ((true = true ∧
 ((none : Option (Addr)) = r271 ∧
 (0 = an ∧
 (0 = c273 ∧
 true = true)))) ∧
 True)) ∧
 true = true))))))))))))))))) := by kernel_rfl
theorem sbgI_any (x : AD) (O A H : Option Addr) (C D E : Nat) (so : Nat → Option Addr) (sc : Nat → Nat) (gG gB gR gC : Int) (n : Int) (ti : Int) (bn : Nat) (bf : Nat → Int) (bp : Bool) (an : Nat) (af : Nat → Int) (ap : Bool) (tc : Int) (tk : Bool) (w : World) (hA : SeenA w x O A H so sc) (hcap : capA x) (hN : slOk gG gB gR gC n x = false → ti = 0 ∧ bn = 0 ∧ bp = false ∧ an = 0 ∧ ap = false ∧ tc = 0 ∧ tk = false) (hY : slOk gG gB gR gC n x = true → n = ti ∧ bn = x.c.sn n.toNat ∧ bf = x.c.sy n.toNat ∧ bp = x.c.po n.toNat ∧ an = (slA gG gB gR gC n x).c.sn n.toNat ∧ af = (slA gG gB gR gC n x).c.sy n.toNat ∧ ap = (slA gG gB gR gC n x).c.po n.toNat ∧ tc = slC gG gB gR gC n x ∧ tk = true) : Calls Try.prog 35 #[.agg #[.int .i64 gG, .int .i64 gB, .int .i64 gR, .int .i64 gC], arrV x O A H C D E, .int .i64 n] w fun e w' => ∃ (r1 r2 : Option Addr) (c1 c2 : Nat), e = .returned (.tuple #[.agg #[.int .i64 ti, .slice r1 bn c1, .bool bp, .slice r2 an c2, .bool ap, .int .i64 tc], .bool tk]) ∧ HS ⟨w, fun _ => False⟩ [.row ⟨true, r1, 3, 1, bn, c1, [fun i => .int (bf i)]⟩, .row ⟨true, r2, 3, 1, an, c2, [fun i => .int (af i)]⟩] w' := by
  refine fnB (tb := [(67, sAdAt), (52, sArrOk), (86, sScl), (71, sCpC)]) ⟨sAdAt_I, sArrOk_I, sScl_I, sCpC_I, trivial⟩ Try.func35 (@Eq.mpr _ _ (sbgI_T x O A H C D E so sc gG gB gR gC n ti bn bf bp an af ap tc tk) ?_) (HS.seenAll (fun _ => False) _ (hA.all 0 seenC_nil)) (fun v ch' w' ⟨r1, r2, c1, c2, hk⟩ hs => ⟨r1, r2, c1, c2, by rw [hk.1], hk.hs hs⟩)
  clear hA
  have hl := lenA_of hcap
  have hln := @line_rng gG gB gR gC
  cases hok : arrOk gG gB gR gC x
  · obtain ⟨rfl, rfl, rfl, rfl, rfl, rfl, rfl⟩ := hN (by simp [slOk, hok])
    repeat' (first
      | with_reducible exact rfl
      | exact True.intro
      | with_reducible assumption
      | exact hl
      | exact hcap
      | with_reducible exact hs11
      | with_reducible exact hn11
      | (intro h; exfalso; rw [hok] at h; simp at h; done)
      | (intro h; exfalso; rw [hpo] at h; cases h; done)
      | (show rng _; simp only [rng]; omega)
      | (show capC _; assumption)
      | (refine ⟨_, _, _, _, _, ⟨rfl, rfl, rfl, ?_⟩, ?_⟩)
      | (intro i hi; exact absurd hi (Nat.not_lt_zero i))
      | refine And.intro ?_ ?_
      | apply Exists.intro
      | (intro h; exfalso; simp at h; done)
      | (intro h; replace h := of_decide_eq_true h; first | (exfalso; omega) | skip)
      | (intro h; replace h := of_decide_eq_false h; first | (exfalso; omega) | skip)
      | (intro i hi; with_reducible exact rfl)
      | intro _
      | omega
      | exact rfl)
  · cases had : atOk gG gB gR gC n
    · obtain ⟨rfl, rfl, rfl, rfl, rfl, rfl, rfl⟩ := hN (by simp [slOk, had])
      have hbt := at_no hok had
      repeat' (first
        | with_reducible exact rfl
        | exact True.intro
        | with_reducible assumption
        | exact hl
        | exact hcap
        | with_reducible exact hs11
        | with_reducible exact hn11
        | (intro h; exfalso; rw [hok] at h; simp at h; done)
        | (intro h; exfalso; rw [had] at h; simp at h; done)
        | (intro h; exfalso; rw [hbt] at h; simp at h; done)
        | (intro h; exfalso; rw [hpo] at h; cases h; done)
        | (show rng _; simp only [rng]; omega)
        | (show capC _; assumption)
        | (refine ⟨_, _, _, _, _, ⟨rfl, rfl, rfl, ?_⟩, ?_⟩)
        | (intro i hi; exact absurd hi (Nat.not_lt_zero i))
        | refine And.intro ?_ ?_
        | apply Exists.intro
        | (intro h; exfalso; simp at h; done)
        | (intro h; replace h := of_decide_eq_true h; first | (exfalso; omega) | skip)
        | (intro h; replace h := of_decide_eq_false h; first | (exfalso; omega) | skip)
        | (intro i hi; with_reducible exact rfl)
        | intro _
        | omega
        | exact rfl)
    · have hokk : slOk gG gB gR gC n x = true := by simp [slOk, hok, had]
      have hin := at_in hok had
      have hi1 := hin.1.1
      have hi2 := hin.1.2
      have hi3 : ltN (tn n) x.c.n := hin.2.1
      have hbt := hin.2.2
      have hsy : symB (x.c.sn n.toNat) (x.c.sy n.toNat) 11 = true := (arrOk_facts hok).2.2.2.2 _ hi3
      have hn11 : x.c.sn n.toNat = 11 := by have := symB_n hsy; omega
      have hs11 : symB 11 (x.c.sy n.toNat) 11 = true := by rw [hn11] at hsy; exact hsy
      have hel := symB_el hs11
      have hcp : capC (x.c.sn n.toNat) := hcap.2.2.2 _ hi3
      have hc11 : capC 11 := by show 11 ≤ 2097152; omega
      obtain ⟨rfl, rfl, rfl, rfl, rfl, rfl, rfl, rfl, rfl⟩ := hY hokk
      have hz := capA_sl (gG := gG) (gB := gB) (gR := gR) (gC := gC) (n := n) hcap
      have hzn : (slA gG gB gR gC n x).c.n = x.c.n := slA_n
      have hi2z : n < (((slA gG gB gR gC n x).c.n : Nat) : Int) := by rw [hzn]; exact hi2
      have hi3z : ltN (tn n) (slA gG gB gR gC n x).c.n := by rw [hzn]; exact hi3
      have hcz : capC ((slA gG gB gR gC n x).c.sn n.toNat) := hz.2.2.2 _ hi3z
      repeat' (first
        | with_reducible exact rfl
        | exact True.intro
        | with_reducible assumption
        | exact hl
        | exact hcap
        | with_reducible exact hs11
        | with_reducible exact hn11
        | (intro h; exfalso; rw [hok] at h; simp at h; done)
        | (intro h; exfalso; rw [had] at h; simp at h; done)
        | (intro h; exfalso; rw [hbt] at h; simp at h; done)
        | (intro h; exfalso; rw [hpo] at h; cases h; done)
        | (show rng _; simp only [rng]; omega)
        | (show capC _; assumption)
        | (refine ⟨_, _, _, _, _, ⟨rfl, rfl, rfl, ?_⟩, ?_⟩)
        | refine And.intro ?_ ?_
        | apply Exists.intro
        | (intro h; exfalso; simp at h; done)
        | (intro h; replace h := of_decide_eq_true h; first | (exfalso; omega) | skip)
        | (intro h; replace h := of_decide_eq_false h; first | (exfalso; omega) | skip)
        | (intro i hi; with_reducible exact rfl)
        | intro _
        | omega
        | exact rfl)
theorem sbgS_T (x : AD) (O A H : Option Addr) (C D E : Nat) (so : Nat → Option Addr) (sc : Nat → Nat) (gG gB gR gC : Int) (n : Int) (ti : Int) (bn : Nat) (bf : Nat → Int) (bp : Bool) (an : Nat) (af : Nat → Int) (ap : Bool) (tc : Int) (tk : Bool) : (exFn Try.prog {tb := [(46, sArrOk), (31, sLine), (63, sBtw), (49, sCpC), (87, sGet)]} 400 Try.f37 ([.a (.agg [.int gG, .int gB, .int gR, .int gC]), .a (arrS 0 x O A H C D E), .a (.c (.int n))]) (arrR 0 x O A H so sc) (fun v ch => ∃ (r1 r2 : Option Addr) (c1 c2 : Nat), OutR v ch (.tuple #[.agg #[.int .i64 ti, .slice r1 bn c1, .bool bp, .slice r2 an c2, .bool ap, .int .i64 tc], .bool tk]) [.row ⟨true, r1, 3, 1, bn, c1, [fun i => .int (bf i)]⟩, .row ⟨true, r2, 3, 1, an, c2, [fun i => .int (af i)]⟩])) = (
  (∀ b0 : Nat,
 (∀ b1 : Nat,
 (∀ b2 : Nat,
 (b0 = b0 ∧
 (b1 = b1 ∧
 (∃ t3 : Nat, (∃ y4 : CD, (∃ so5 : (Nat →
 (Option Addr)), (∃ sc6 : (Nat →
 Nat), (∃ sd7 : (Nat →
 Nat), (∃ ag8 : (Nat →
 Int), (∃ hg9 : (Nat →
 Int), (((symRows false 0 x.1 so (fun x10 => 0)) = (symRows false t3 y4 so5 sd7) ∧
 ([(fun i11 => (Cs 3 (so i11) (x.1.2 i11) (sc i11))), (fun i12 => (Cb (x.1.4 i12)))] = [(fun i13 => (Cs 3 (so5 i13) (y4.2 i13) (sc6 i13))), (fun i14 => (Cb (y4.4 i14)))] ∧
 (O = O ∧
 (x.1.1 = x.1.1 ∧
 (x.1.1 = y4.1 ∧
 (A = A ∧
 (x.2 = x.2 ∧
 ([(fun i15 => (Ci (x.3 i15)))] = [(fun i16 => (Ci (ag8 i16)))] ∧
 (H = H ∧
 (x.4 = x.4 ∧
 [(fun i17 => (Ci (x.5 i17)))] = [(fun i18 => (Ci (hg9 i18)))])))))))))) ∧
 ((lenA (AD.mk y4 x.2 ag8 x.4 hg9)) ∧
 (((!(arrOk gG gB gR gC (AD.mk y4 x.2 ag8 x.4 hg9))) = false →
 (b0 = b0 ∧
 ((rng ((lineN gG gB gR gC) - (1 : Int))) ∧
 (((!(btw n (0 : Int) ((lineN gG gB gR gC) - (1 : Int)))) = true →
 (b2 = b2 ∧
 (b2 = b2 ∧
 (∃ r119 : (Option Addr), (∃ r220 : (Option Addr), (∃ c121 : Nat, (∃ c222 : Nat, ((Wu [(Wa [(Wi 0), Wn, (Wb false), Wn, (Wb false), (Wi 0)]), (Wb false)]) = (Wu [(Wa [(Wi ti), (Ws r119 bn c121), (Wb bp), (Ws r220 an c222), (Wb ap), (Wi tc)]), (Wb tk)]) ∧
 (((true = true ∧
 ((none : Option (Addr)) = r119 ∧
 (0 = bn ∧
 (0 = c121 ∧
 true = true)))) ∧
 ((true = true ∧
 ((none : Option (Addr)) = r220 ∧
 (0 = an ∧
 (0 = c222 ∧
 true = true)))) ∧
 True)) ∧
 true = true))))))))) ∧
 ((!(btw n (0 : Int) ((lineN gG gB gR gC) - (1 : Int)))) = false →
 (b1 = b1 ∧
 (O = O ∧
 (x.1.1 = x.1.1 ∧
 ((0 ≤ n ∧ n < ((x.1.1 : Nat) : Int)) ∧
 (O = O ∧
 ((Int.toNat n) < x.1.1 ∧
 (∃ t23 : Nat, (∃ y24 : CD, (∃ so25 : (Nat →
 (Option Addr)), (∃ sc26 : (Nat →
 Nat), (∃ i27 : Nat, (((symRows false 0 x.1 so (fun x28 => 0)) = (symRows false t23 y24 so25 sc26) ∧
 ((so (Int.toNat n)) = (so25 i27) ∧
 ((x.1.2 (Int.toNat n)) = (y24.2 i27) ∧
 i27 < y24.1))) ∧
 ((capC (x.1.2 (Int.toNat n))) ∧
 (∀ ro29 : (Option Addr),
 (∀ rc30 : Nat,
 (∀ b31 : Nat,
 (∀ b32 : Nat,
 (b32 = b32 ∧
 (b32 = b32 ∧
 (b31 = b31 ∧
 (∀ b33 : Nat,
 (b33 = b33 ∧
 (b33 = b33 ∧
 (((x.1.4 (Int.toNat n)) = true →
 (b1 = b1 ∧
 (O = O ∧
 (x.1.1 = x.1.1 ∧
 ((0 ≤ n ∧ n < ((x.1.1 : Nat) : Int)) ∧
 (O = O ∧
 ((Int.toNat n) < x.1.1 ∧
 (b32 = b32 ∧
 (b31 = b31 ∧
 (∃ t34 : Nat, (∃ y35 : CD, (∃ so36 : (Nat →
 (Option Addr)), (∃ sc37 : (Nat →
 Nat), (∃ i38 : Nat, (((symRows false 0 x.1 so (fun x39 => 0)) = (symRows false t34 y35 so36 sc37) ∧
 ((so (Int.toNat n)) = (so36 i38) ∧
 ((x.1.2 (Int.toNat n)) = (y35.2 i38) ∧
 i38 < y35.1))) ∧
 ((capC (x.1.2 (Int.toNat n))) ∧
 (∀ ro40 : (Option Addr),
 (∀ rc41 : Nat,
 (True ∧
 (∃ g042 : (Nat →
 Int), ((ro29 = ro29 ∧
 ((x.1.2 (Int.toNat n)) = (x.1.2 (Int.toNat n)) ∧
 [(fun i43 => (Ci (y24.3 i27 i43)))] = [(fun i44 => (Ci (g042 i44)))])) ∧
 ((capC (x.1.2 (Int.toNat n))) ∧
 (∀ ro45 : (Option Addr),
 (∀ rc46 : Nat,
 (True ∧
 (b2 = b2 ∧
 (True ∧
 (b2 = b2 ∧
 (∃ r147 : (Option Addr), (∃ r248 : (Option Addr), (∃ c149 : Nat, (∃ c250 : Nat, ((Wu [(Wa [(Wi n), (Ws ro40 (x.1.2 (Int.toNat n)) rc41), (Wb (x.1.4 (Int.toNat n))), (Ws ro45 (x.1.2 (Int.toNat n)) rc46), (Wb (x.1.4 (Int.toNat n))), (Wi 2)]), (Wb true)]) = (Wu [(Wa [(Wi ti), (Ws r147 bn c149), (Wb bp), (Ws r248 an c250), (Wb ap), (Wi tc)]), (Wb tk)]) ∧
 (((true = true ∧
 (ro40 = r147 ∧
 (3 = 3 ∧
 (1 = 1 ∧
 ((x.1.2 (Int.toNat n)) = bn ∧
 (rc41 = c149 ∧
 ((∀ i51 : Nat,
 (i51 < (x.1.2 (Int.toNat n)) →
 (Wi (y35.3 i38 i51)) = (Wi (bf i51)))) ∧
 True))))))) ∧
 ((true = true ∧
 (ro45 = r248 ∧
 (3 = 3 ∧
 (1 = 1 ∧
 ((x.1.2 (Int.toNat n)) = an ∧
 (rc46 = c250 ∧
 ((∀ i52 : Nat,
 (i52 < (x.1.2 (Int.toNat n)) →
 (Wi (g042 i52)) = (Wi (af i52)))) ∧
 True))))))) ∧
 True)) ∧
 true = true)))))))))))))))))))))))))))))))))) ∧
 ((x.1.4 (Int.toNat n)) = false →
 (b33 = b33 ∧
 (∃ g053 : (Nat →
 Int), ((ro29 = ro29 ∧
 ((x.1.2 (Int.toNat n)) = (x.1.2 (Int.toNat n)) ∧
 [(fun i54 => (Ci (y24.3 i27 i54)))] = [(fun i55 => (Ci (g053 i55)))])) ∧
 (((x.1.2 (Int.toNat n)) = 11 ∧
 (symB 11 g053 (11 : Int)) = true) ∧
 ((((corC g053) == (1 : Int)) = true →
 (b32 = b32 ∧
 ((btw (decX g053) (0 : Int) (4294967295 : Int)) = true ∧
 (∀ ro56 : (Option Addr),
 (∀ rc57 : Nat,
 (True ∧
 (b31 = b31 ∧
 (True ∧
 ((((corC g053) == (2 : Int)) = true →
 (b32 = b32 ∧
 (b31 = b31 ∧
 (b1 = b1 ∧
 (O = O ∧
 (x.1.1 = x.1.1 ∧
 ((0 ≤ n ∧ n < ((x.1.1 : Nat) : Int)) ∧
 (O = O ∧
 ((Int.toNat n) < x.1.1 ∧
 (b32 = b32 ∧
 (b31 = b31 ∧
 (∃ t58 : Nat, (∃ y59 : CD, (∃ so60 : (Nat →
 (Option Addr)), (∃ sc61 : (Nat →
 Nat), (∃ i62 : Nat, (((symRows false 0 x.1 so (fun x63 => 0)) = (symRows false t58 y59 so60 sc61) ∧
 ((so (Int.toNat n)) = (so60 i62) ∧
 ((x.1.2 (Int.toNat n)) = (y59.2 i62) ∧
 i62 < y59.1))) ∧
 ((capC (x.1.2 (Int.toNat n))) ∧
 (∀ ro64 : (Option Addr),
 (∀ rc65 : Nat,
 (True ∧
 (∃ g066 : (Nat →
 Int), ((ro56 = ro56 ∧
 (11 = 11 ∧
 [(fun i67 => (Ci (cw (decX g053) i67)))] = [(fun i68 => (Ci (g066 i68)))])) ∧
 ((capC 11) ∧
 (∀ ro69 : (Option Addr),
 (∀ rc70 : Nat,
 (True ∧
 (b2 = b2 ∧
 (True ∧
 (b2 = b2 ∧
 (∃ r171 : (Option Addr), (∃ r272 : (Option Addr), (∃ c173 : Nat, (∃ c274 : Nat, ((Wu [(Wa [(Wi n), (Ws ro64 (x.1.2 (Int.toNat n)) rc65), (Wb (x.1.4 (Int.toNat n))), (Ws ro69 11 rc70), (Wb true), (Wi (corC g053))]), (Wb true)]) = (Wu [(Wa [(Wi ti), (Ws r171 bn c173), (Wb bp), (Ws r272 an c274), (Wb ap), (Wi tc)]), (Wb tk)]) ∧
 (((true = true ∧
 (ro64 = r171 ∧
 (3 = 3 ∧
 (1 = 1 ∧
 ((x.1.2 (Int.toNat n)) = bn ∧
 (rc65 = c173 ∧
 ((∀ i75 : Nat,
 (i75 < (x.1.2 (Int.toNat n)) →
 (Wi (y59.3 i62 i75)) = (Wi (bf i75)))) ∧
 True))))))) ∧
 ((true = true ∧
 (ro69 = r272 ∧
 (3 = 3 ∧
 (1 = 1 ∧
 (11 = an ∧
 (rc70 = c274 ∧
 ((∀ i76 : Nat,
 (i76 < 11 →
 (Wi (g066 i76)) = (Wi (af i76)))) ∧
 True))))))) ∧
 True)) ∧
 true = true)))))))))))))))))))))))))))))))))))) ∧
 (((corC g053) == (2 : Int)) = false →
 (b1 = b1 ∧
 (O = O ∧
 (x.1.1 = x.1.1 ∧
 ((0 ≤ n ∧ n < ((x.1.1 : Nat) : Int)) ∧
 (O = O ∧
 ((Int.toNat n) < x.1.1 ∧
 (b32 = b32 ∧
 (b31 = b31 ∧
 (∃ t77 : Nat, (∃ y78 : CD, (∃ so79 : (Nat →
 (Option Addr)), (∃ sc80 : (Nat →
 Nat), (∃ i81 : Nat, (((symRows false 0 x.1 so (fun x82 => 0)) = (symRows false t77 y78 so79 sc80) ∧
 ((so (Int.toNat n)) = (so79 i81) ∧
 ((x.1.2 (Int.toNat n)) = (y78.2 i81) ∧
 i81 < y78.1))) ∧
 ((capC (x.1.2 (Int.toNat n))) ∧
 (∀ ro83 : (Option Addr),
 (∀ rc84 : Nat,
 (True ∧
 (∃ g085 : (Nat →
 Int), ((ro56 = ro56 ∧
 (11 = 11 ∧
 [(fun i86 => (Ci (cw (decX g053) i86)))] = [(fun i87 => (Ci (g085 i87)))])) ∧
 ((capC 11) ∧
 (∀ ro88 : (Option Addr),
 (∀ rc89 : Nat,
 (True ∧
 (b2 = b2 ∧
 (True ∧
 (b2 = b2 ∧
 (∃ r190 : (Option Addr), (∃ r291 : (Option Addr), (∃ c192 : Nat, (∃ c293 : Nat, ((Wu [(Wa [(Wi n), (Ws ro83 (x.1.2 (Int.toNat n)) rc84), (Wb (x.1.4 (Int.toNat n))), (Ws ro88 11 rc89), (Wb (x.1.4 (Int.toNat n))), (Wi (corC g053))]), (Wb true)]) = (Wu [(Wa [(Wi ti), (Ws r190 bn c192), (Wb bp), (Ws r291 an c293), (Wb ap), (Wi tc)]), (Wb tk)]) ∧
 (((true = true ∧
 (ro83 = r190 ∧
 (3 = 3 ∧
 (1 = 1 ∧
 ((x.1.2 (Int.toNat n)) = bn ∧
 (rc84 = c192 ∧
 ((∀ i94 : Nat,
 (i94 < (x.1.2 (Int.toNat n)) →
 (Wi (y78.3 i81 i94)) = (Wi (bf i94)))) ∧
 True))))))) ∧
 ((true = true ∧
 (ro88 = r291 ∧
 (3 = 3 ∧
 (1 = 1 ∧
 (11 = an ∧
 (rc89 = c293 ∧
 ((∀ i95 : Nat,
 (i95 < 11 →
 (Wi (g085 i95)) = (Wi (af i95)))) ∧
 True))))))) ∧
 True)) ∧
 true = true))))))))))))))))))))))))))))))))))))))))))) ∧
 (((corC g053) == (1 : Int)) = false →
 ((((corC g053) == (2 : Int)) = true →
 (b32 = b32 ∧
 (b31 = b31 ∧
 (b1 = b1 ∧
 (O = O ∧
 (x.1.1 = x.1.1 ∧
 ((0 ≤ n ∧ n < ((x.1.1 : Nat) : Int)) ∧
 (O = O ∧
 ((Int.toNat n) < x.1.1 ∧
 (b32 = b32 ∧
 (b31 = b31 ∧
 (∃ t96 : Nat, (∃ y97 : CD, (∃ so98 : (Nat →
 (Option Addr)), (∃ sc99 : (Nat →
 Nat), (∃ i100 : Nat, (((symRows false 0 x.1 so (fun x101 => 0)) = (symRows false t96 y97 so98 sc99) ∧
 ((so (Int.toNat n)) = (so98 i100) ∧
 ((x.1.2 (Int.toNat n)) = (y97.2 i100) ∧
 i100 < y97.1))) ∧
 ((capC (x.1.2 (Int.toNat n))) ∧
 (∀ ro102 : (Option Addr),
 (∀ rc103 : Nat,
 (True ∧
 (∃ g0104 : (Nat →
 Int), ((ro29 = ro29 ∧
 ((x.1.2 (Int.toNat n)) = (x.1.2 (Int.toNat n)) ∧
 [(fun i105 => (Ci (y24.3 i27 i105)))] = [(fun i106 => (Ci (g0104 i106)))])) ∧
 ((capC (x.1.2 (Int.toNat n))) ∧
 (∀ ro107 : (Option Addr),
 (∀ rc108 : Nat,
 (True ∧
 (b2 = b2 ∧
 (True ∧
 (b2 = b2 ∧
 (∃ r1109 : (Option Addr), (∃ r2110 : (Option Addr), (∃ c1111 : Nat, (∃ c2112 : Nat, ((Wu [(Wa [(Wi n), (Ws ro102 (x.1.2 (Int.toNat n)) rc103), (Wb (x.1.4 (Int.toNat n))), (Ws ro107 (x.1.2 (Int.toNat n)) rc108), (Wb true), (Wi (corC g053))]), (Wb true)]) = (Wu [(Wa [(Wi ti), (Ws r1109 bn c1111), (Wb bp), (Ws r2110 an c2112), (Wb ap), (Wi tc)]), (Wb tk)]) ∧
 (((true = true ∧
 (ro102 = r1109 ∧
 (3 = 3 ∧
 (1 = 1 ∧
 ((x.1.2 (Int.toNat n)) = bn ∧
 (rc103 = c1111 ∧
 ((∀ i113 : Nat,
 (i113 < (x.1.2 (Int.toNat n)) →
 (Wi (y97.3 i100 i113)) = (Wi (bf i113)))) ∧
 True))))))) ∧
 ((true = true ∧
 (ro107 = r2110 ∧
 (3 = 3 ∧
 (1 = 1 ∧
 ((x.1.2 (Int.toNat n)) = an ∧
 (rc108 = c2112 ∧
 ((∀ i114 : Nat,
 (i114 < (x.1.2 (Int.toNat n)) →
 (Wi (g0104 i114)) = (Wi (af i114)))) ∧
 True))))))) ∧
 True)) ∧
 true = true)))))))))))))))))))))))))))))))))))) ∧
 (((corC g053) == (2 : Int)) = false →
 (b1 = b1 ∧
 (O = O ∧
 (x.1.1 = x.1.1 ∧
 ((0 ≤ n ∧ n < ((x.1.1 : Nat) : Int)) ∧
 (O = O ∧
 ((Int.toNat n) < x.1.1 ∧
 (b32 = b32 ∧
 (b31 = b31 ∧
 (∃ t115 : Nat, (∃ y116 : CD, (∃ so117 : (Nat →
 (Option Addr)), (∃ sc118 : (Nat →
 Nat), (∃ i119 : Nat, (((symRows false 0 x.1 so (fun x120 => 0)) = (symRows false t115 y116 so117 sc118) ∧
 ((so (Int.toNat n)) = (so117 i119) ∧
 ((x.1.2 (Int.toNat n)) = (y116.2 i119) ∧
 i119 < y116.1))) ∧
 ((capC (x.1.2 (Int.toNat n))) ∧
 (∀ ro121 : (Option Addr),
 (∀ rc122 : Nat,
 (True ∧
 (∃ g0123 : (Nat →
 Int), ((ro29 = ro29 ∧
 ((x.1.2 (Int.toNat n)) = (x.1.2 (Int.toNat n)) ∧
 [(fun i124 => (Ci (y24.3 i27 i124)))] = [(fun i125 => (Ci (g0123 i125)))])) ∧
 ((capC (x.1.2 (Int.toNat n))) ∧
 (∀ ro126 : (Option Addr),
 (∀ rc127 : Nat,
 (True ∧
 (b2 = b2 ∧
 (True ∧
 (b2 = b2 ∧
 (∃ r1128 : (Option Addr), (∃ r2129 : (Option Addr), (∃ c1130 : Nat, (∃ c2131 : Nat, ((Wu [(Wa [(Wi n), (Ws ro121 (x.1.2 (Int.toNat n)) rc122), (Wb (x.1.4 (Int.toNat n))), (Ws ro126 (x.1.2 (Int.toNat n)) rc127), (Wb (x.1.4 (Int.toNat n))), (Wi (corC g053))]), (Wb true)]) = (Wu [(Wa [(Wi ti), (Ws r1128 bn c1130), (Wb bp), (Ws r2129 an c2131), (Wb ap), (Wi tc)]), (Wb tk)]) ∧
 (((true = true ∧
 (ro121 = r1128 ∧
 (3 = 3 ∧
 (1 = 1 ∧
 ((x.1.2 (Int.toNat n)) = bn ∧
 (rc122 = c1130 ∧
 ((∀ i132 : Nat,
 (i132 < (x.1.2 (Int.toNat n)) →
 (Wi (y116.3 i119 i132)) = (Wi (bf i132)))) ∧
 True))))))) ∧
 ((true = true ∧
 (ro126 = r2129 ∧
 (3 = 3 ∧
 (1 = 1 ∧
 ((x.1.2 (Int.toNat n)) = an ∧
 (rc127 = c2131 ∧
 ((∀ i133 : Nat,
 (i133 < (x.1.2 (Int.toNat n)) →
 (Wi (g0123 i133)) = (Wi (af i133)))) ∧
 True))))))) ∧
 True)) ∧
 true = true))))))))))))))))))))))))))))))))))))))))))))))))))))))))))))))))))))))) ∧
 ((!(arrOk gG gB gR gC (AD.mk y4 x.2 ag8 x.4 hg9))) = true →
 (b2 = b2 ∧
 (b2 = b2 ∧
 (∃ r1134 : (Option Addr), (∃ r2135 : (Option Addr), (∃ c1136 : Nat, (∃ c2137 : Nat, ((Wu [(Wa [(Wi 0), Wn, (Wb false), Wn, (Wb false), (Wi 0)]), (Wb false)]) = (Wu [(Wa [(Wi ti), (Ws r1134 bn c1136), (Wb bp), (Ws r2135 an c2137), (Wb ap), (Wi tc)]), (Wb tk)]) ∧
 (((true = true ∧
 ((none : Option (Addr)) = r1134 ∧
 (0 = bn ∧
 (0 = c1136 ∧
 true = true)))) ∧
 ((true = true ∧
 ((none : Option (Addr)) = r2135 ∧
 (0 = an ∧
 (0 = c2137 ∧
 true = true)))) ∧
 True)) ∧
 true = true))))))))))))))))))))))))) := by kernel_rfl
theorem sbgS_any (x : AD) (O A H : Option Addr) (C D E : Nat) (so : Nat → Option Addr) (sc : Nat → Nat) (gG gB gR gC : Int) (n : Int) (ti : Int) (bn : Nat) (bf : Nat → Int) (bp : Bool) (an : Nat) (af : Nat → Int) (ap : Bool) (tc : Int) (tk : Bool) (w : World) (hA : SeenA w x O A H so sc) (hcap : capA x) (hN : slOk gG gB gR gC n x = false → ti = 0 ∧ bn = 0 ∧ bp = false ∧ an = 0 ∧ ap = false ∧ tc = 0 ∧ tk = false) (hY : slOk gG gB gR gC n x = true → n = ti ∧ bn = x.c.sn n.toNat ∧ bf = x.c.sy n.toNat ∧ bp = x.c.po n.toNat ∧ an = (slA gG gB gR gC n x).c.sn n.toNat ∧ af = (slA gG gB gR gC n x).c.sy n.toNat ∧ ap = (slA gG gB gR gC n x).c.po n.toNat ∧ tc = slC gG gB gR gC n x ∧ tk = true) : Calls Try.prog 37 #[.agg #[.int .i64 gG, .int .i64 gB, .int .i64 gR, .int .i64 gC], arrV x O A H C D E, .int .i64 n] w fun e w' => ∃ (r1 r2 : Option Addr) (c1 c2 : Nat), e = .returned (.tuple #[.agg #[.int .i64 ti, .slice r1 bn c1, .bool bp, .slice r2 an c2, .bool ap, .int .i64 tc], .bool tk]) ∧ HS ⟨w, fun _ => False⟩ [.row ⟨true, r1, 3, 1, bn, c1, [fun i => .int (bf i)]⟩, .row ⟨true, r2, 3, 1, an, c2, [fun i => .int (af i)]⟩] w' := by
  refine fnB (tb := [(46, sArrOk), (31, sLine), (63, sBtw), (49, sCpC), (87, sGet)]) ⟨sArrOk_S, sLine_S, sBtwS_ok, sCpC_S, sGet_ok, trivial⟩ Try.func37 (@Eq.mpr _ _ (sbgS_T x O A H C D E so sc gG gB gR gC n ti bn bf bp an af ap tc tk) ?_) (HS.seenAll (fun _ => False) _ (hA.all 0 seenC_nil)) (fun v ch' w' ⟨r1, r2, c1, c2, hk⟩ hs => ⟨r1, r2, c1, c2, by rw [hk.1], hk.hs hs⟩)
  clear hA
  have hl := lenA_of hcap
  have hln := @line_rng gG gB gR gC
  cases hok : arrOk gG gB gR gC x
  · obtain ⟨rfl, rfl, rfl, rfl, rfl, rfl, rfl⟩ := hN (by simp [slOk, hok])
    repeat' (first
      | with_reducible exact rfl
      | exact True.intro
      | with_reducible assumption
      | exact hl
      | exact hcap
      | with_reducible exact hs11
      | with_reducible exact hn11
      | (intro h; exfalso; rw [hok] at h; simp at h; done)
      | (intro h; exfalso; rw [hpo] at h; cases h; done)
      | (show rng _; simp only [rng]; omega)
      | (show capC _; assumption)
      | (refine ⟨_, _, _, _, _, ⟨rfl, rfl, rfl, ?_⟩, ?_⟩)
      | (intro i hi; exact absurd hi (Nat.not_lt_zero i))
      | refine And.intro ?_ ?_
      | apply Exists.intro
      | (intro h; exfalso; simp at h; done)
      | (intro h; replace h := of_decide_eq_true h; first | (exfalso; omega) | skip)
      | (intro h; replace h := of_decide_eq_false h; first | (exfalso; omega) | skip)
      | (intro i hi; with_reducible exact rfl)
      | intro _
      | omega
      | exact rfl)
  · cases had : atOk gG gB gR gC n
    · obtain ⟨rfl, rfl, rfl, rfl, rfl, rfl, rfl⟩ := hN (by simp [slOk, had])
      have hbt := at_no hok had
      repeat' (first
        | with_reducible exact rfl
        | exact True.intro
        | with_reducible assumption
        | exact hl
        | exact hcap
        | with_reducible exact hs11
        | with_reducible exact hn11
        | (intro h; exfalso; rw [hok] at h; simp at h; done)
        | (intro h; exfalso; rw [had] at h; simp at h; done)
        | (intro h; exfalso; rw [hbt] at h; simp at h; done)
        | (intro h; exfalso; rw [hpo] at h; cases h; done)
        | (show rng _; simp only [rng]; omega)
        | (show capC _; assumption)
        | (refine ⟨_, _, _, _, _, ⟨rfl, rfl, rfl, ?_⟩, ?_⟩)
        | (intro i hi; exact absurd hi (Nat.not_lt_zero i))
        | refine And.intro ?_ ?_
        | apply Exists.intro
        | (intro h; exfalso; simp at h; done)
        | (intro h; replace h := of_decide_eq_true h; first | (exfalso; omega) | skip)
        | (intro h; replace h := of_decide_eq_false h; first | (exfalso; omega) | skip)
        | (intro i hi; with_reducible exact rfl)
        | intro _
        | omega
        | exact rfl)
    · have hokk : slOk gG gB gR gC n x = true := by simp [slOk, hok, had]
      have hin := at_in hok had
      have hi1 := hin.1.1
      have hi2 := hin.1.2
      have hi3 : ltN (tn n) x.c.n := hin.2.1
      have hbt := hin.2.2
      have hsy : symB (x.c.sn n.toNat) (x.c.sy n.toNat) 11 = true := (arrOk_facts hok).2.2.2.2 _ hi3
      have hn11 : x.c.sn n.toNat = 11 := by have := symB_n hsy; omega
      have hs11 : symB 11 (x.c.sy n.toNat) 11 = true := by rw [hn11] at hsy; exact hsy
      have hel := symB_el hs11
      have hcp : capC (x.c.sn n.toNat) := hcap.2.2.2 _ hi3
      have hc11 : capC 11 := by show 11 ≤ 2097152; omega
      have hA1 : slA gG gB gR gC n x = getN x n.toNat := by simp [slA, hokk]
      have hC1 : slC gG gB gR gC n x = getC x n.toNat := by simp [slC, hokk]
      obtain ⟨rfl, rfl, rfl, rfl, q1, q2, q3, q4, rfl⟩ := hY hokk
      rw [hA1] at q1 q2 q3
      rw [hC1] at q4
      cases hpo : x.c.po n.toNat
      · by_cases hc1 : corC (x.c.sy n.toNat) = 1
        · have e1 : getN x n.toNat = setA x n.toNat 11 (fun i => corW (x.c.sy n.toNat) i) false := by simp [getN, hpo, hc1]
          have e4 : getC x n.toNat = 1 := by simp [getC, hpo, hc1]
          rw [e1] at q1 q2 q3
          rw [e4] at q4
          simp only [setA, if_true] at q1 q2 q3
          subst q1 q2 q3 q4
          have b1 : (corC (x.c.sy n.toNat) == 1) = true := by rw [hc1]; rfl
          have b2 : (corC (x.c.sy n.toNat) == 2) = false := by rw [hc1]; rfl
          have hdw := dec_word hel hc1
          have hcw : ∀ i, i < 11 → cw (decX (x.c.sy n.toNat)) i = corW (x.c.sy n.toNat) i := fun i hi => dec_cw hel hc1 hi
          repeat' (first
            | with_reducible exact rfl
            | exact True.intro
            | with_reducible assumption
            | exact hl
            | exact hcap
            | with_reducible exact hs11
            | with_reducible exact hn11
            | (intro h; exfalso; rw [hok] at h; simp at h; done)
            | (intro h; exfalso; rw [had] at h; simp at h; done)
            | (intro h; exfalso; rw [hbt] at h; simp at h; done)
            | (intro h; exfalso; rw [b1] at h; simp at h; done)
            | (intro h; exfalso; rw [b2] at h; simp at h; done)
            | (intro h; exfalso; rw [hpo] at h; cases h; done)
            | (show rng _; simp only [rng]; omega)
            | (show capC _; assumption)
            | (refine ⟨_, _, _, _, _, ⟨rfl, rfl, rfl, ?_⟩, ?_⟩)
            | with_reducible exact hdw
            | (show (_ : Value) = _; rw [hc1]; try with_reducible rfl)
            | (intro i hi; exact congrArg (fun z => Value.int .i64 z) (hcw i hi))
            | refine And.intro ?_ ?_
            | apply Exists.intro
            | (intro h; exfalso; simp at h; done)
            | (intro h; replace h := of_decide_eq_true h; first | (exfalso; omega) | skip)
            | (intro h; replace h := of_decide_eq_false h; first | (exfalso; omega) | skip)
            | (intro i hi; with_reducible exact rfl)
            | intro _
            | omega
            | exact rfl)
        · have b1 : (corC (x.c.sy n.toNat) == 1) = false := by simpa using hc1
          have e4 : getC x n.toNat = corC (x.c.sy n.toNat) := by simp [getC, hpo]
          rw [e4] at q4
          by_cases hc2 : corC (x.c.sy n.toNat) = 2
          · have e1 : getN x n.toNat = poA x (fun i => if i = n.toNat then true else x.c.po i) := by simp [getN, hpo, hc2]
            rw [e1] at q1 q2 q3
            simp only [poA, if_true] at q1 q2 q3
            subst q1 q2 q3 q4
            have b2 : (corC (x.c.sy n.toNat) == 2) = true := by rw [hc2]; rfl
            repeat' (first
              | with_reducible exact rfl
              | exact True.intro
              | with_reducible assumption
              | exact hl
              | exact hcap
              | with_reducible exact hs11
              | with_reducible exact hn11
              | (intro h; exfalso; rw [hok] at h; simp at h; done)
              | (intro h; exfalso; rw [had] at h; simp at h; done)
              | (intro h; exfalso; rw [hbt] at h; simp at h; done)
              | (intro h; exfalso; rw [b1] at h; simp at h; done)
              | (intro h; exfalso; rw [b2] at h; simp at h; done)
              | (intro h; exfalso; rw [hpo] at h; cases h; done)
              | (show rng _; simp only [rng]; omega)
              | (show capC _; assumption)
              | (refine ⟨_, _, _, _, _, ⟨rfl, rfl, rfl, ?_⟩, ?_⟩)
              | refine And.intro ?_ ?_
              | apply Exists.intro
              | (intro h; exfalso; simp at h; done)
              | (intro h; replace h := of_decide_eq_true h; first | (exfalso; omega) | skip)
              | (intro h; replace h := of_decide_eq_false h; first | (exfalso; omega) | skip)
              | (intro i hi; with_reducible exact rfl)
              | intro _
              | omega
              | exact rfl)
          · have e1 : getN x n.toNat = x := by simp [getN, hpo, hc1, hc2]
            rw [e1] at q1 q2 q3
            rw [hpo] at q3
            subst q1 q2 q3 q4
            have b2 : (corC (x.c.sy n.toNat) == 2) = false := by simpa using hc2
            repeat' (first
              | with_reducible exact rfl
              | exact True.intro
              | with_reducible assumption
              | exact hl
              | exact hcap
              | with_reducible exact hs11
              | with_reducible exact hn11
              | (intro h; exfalso; rw [hok] at h; simp at h; done)
              | (intro h; exfalso; rw [had] at h; simp at h; done)
              | (intro h; exfalso; rw [hbt] at h; simp at h; done)
              | (intro h; exfalso; rw [b1] at h; simp at h; done)
              | (intro h; exfalso; rw [b2] at h; simp at h; done)
              | (intro h; exfalso; rw [hpo] at h; cases h; done)
              | (show rng _; simp only [rng]; omega)
              | (show capC _; assumption)
              | (refine ⟨_, _, _, _, _, ⟨rfl, rfl, rfl, ?_⟩, ?_⟩)
              | refine And.intro ?_ ?_
              | apply Exists.intro
              | (intro h; exfalso; simp at h; done)
              | (intro h; replace h := of_decide_eq_true h; first | (exfalso; omega) | skip)
              | (intro h; replace h := of_decide_eq_false h; first | (exfalso; omega) | skip)
              | (intro i hi; with_reducible exact rfl)
              | intro _
              | omega
              | exact rfl)
      · have e1 : getN x n.toNat = x := by simp [getN, hpo]
        have e4 : getC x n.toNat = 2 := by simp [getC, hpo]
        rw [e1] at q1 q2 q3
        rw [hpo] at q3
        rw [e4] at q4
        subst q1 q2 q3 q4
        repeat' (first
          | with_reducible exact rfl
          | exact True.intro
          | with_reducible assumption
          | exact hl
          | exact hcap
          | with_reducible exact hs11
          | with_reducible exact hn11
          | (intro h; exfalso; rw [hok] at h; simp at h; done)
          | (intro h; exfalso; rw [had] at h; simp at h; done)
          | (intro h; exfalso; rw [hbt] at h; simp at h; done)
          | (intro h; exfalso; rw [hpo] at h; cases h; done)
          | (show rng _; simp only [rng]; omega)
          | (show capC _; assumption)
          | (refine ⟨_, _, _, _, _, ⟨rfl, rfl, rfl, ?_⟩, ?_⟩)
          | refine And.intro ?_ ?_
          | apply Exists.intro
          | (intro h; exfalso; simp at h; done)
          | (intro h; replace h := of_decide_eq_true h; first | (exfalso; omega) | skip)
          | (intro h; replace h := of_decide_eq_false h; first | (exfalso; omega) | skip)
          | (intro i hi; with_reducible exact rfl)
          | intro _
          | omega
          | exact rfl)
end Go.Proofs.Ytddeinpnadfgmaa

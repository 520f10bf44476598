/-
  Words put.
-/
import Derived.Test.YtddeinpnadfgmaaSxM2
import Derived.Test.YtddeinpnadfgmaaSxCA
namespace Go.Proofs.Ytddeinpnadfgmaa
set_option linter.unusedVariables false
set_option linter.unusedSimpArgs false
open Go.RowKit
set_option maxRecDepth 100000
set_option maxHeartbeats 8000000

def putOk (gG gB gR gC : Int) (dB dR dC : Int) (x : AD) (y : Int) : Bool := arrOk gG gB gR gC x && adOk gG gB gR gC dB dR dC && btw y 0 4294967295
def putA (gG gB gR gC : Int) (dB dR dC : Int) (x : AD) (y : Int) : AD := if putOk gG gB gR gC dB dR dC x y = true then setA x (ixN gG gB gR gC dB dR dC) 11 (fun i => cw y i) false else x
theorem put_facts {gG gB gR gC dB dR dC y : Int} {x : AD} (h : putOk gG gB gR gC dB dR dC x y = true) : arrOk gG gB gR gC x = true ∧ adOk gG gB gR gC dB dR dC = true ∧ btw y 0 4294967295 = true := by
  simp only [putOk, Bool.and_eq_true] at h
  exact ⟨h.1.1, h.1.2, h.2⟩
theorem cw_sym {y : Int} (h : btw y 0 4294967295 = true) : symB 11 (fun i => cw y i) 11 = true := symB_mk (fun i hi => word_el (btw_f h) hi) rfl
theorem stA_put {gG gB gR gC dB dR dC y : Int} {x : AD} (h : putOk gG gB gR gC dB dR dC x y = true) : stA gG gB gR gC dB dR dC x 11 (fun i => cw y i) false = setA x (ixN gG gB gR gC dB dR dC) 11 (fun i => cw y i) false := by
  obtain ⟨h1, h2, h3⟩ := put_facts h
  have h4 := cw_sym h3
  simp [stA, stOk, h1, h2, h4]
theorem stA_no {gG gB gR gC dB dR dC y : Int} {x : AD} (h : putOk gG gB gR gC dB dR dC x y = false) (hb : btw y 0 4294967295 = true) : stA gG gB gR gC dB dR dC x 11 (fun i => cw y i) false = x := by
  have : (arrOk gG gB gR gC x && adOk gG gB gR gC dB dR dC) = false := by simpa [putOk, hb] using h
  simp [stA, stOk, this]
theorem putI_T (x : AD) (O A H : Option Addr) (C D E : Nat) (so : Nat → Option Addr) (sc : Nat → Nat) (gG gB gR gC : Int) (dB dR dC : Int) (y : Int) (z : AD) : (exFn Try.prog {tb := [(76, sIwI), (53, sCpA), (97, sEnl), (55, sSt)]} 400 Try.f77 ([.a (.agg [.int gG, .int gB, .int gR, .int gC]), .a (arrS 0 x O A H C D E), .a (.agg [.int dB, .int dR, .int dC]), .a (.c (.int y))]) (arrR 0 x O A H so sc) (fun v ch => ∃ (Oq Aq Hq : Option Addr) (Cq Dq Ee : Nat) (soq : Nat → Option Addr) (scq : Nat → Nat), v.den = arrV z Oq Aq Hq Cq Dq Ee ∧ SelS ch (idsArr v ch) (arrO 0 z Oq Aq Hq Cq Dq Ee soq scq))) = (
  (∀ b0 : Nat,
 (∀ b1 : Nat,
 (∀ b2 : Nat,
 (∀ b3 : Nat,
 (((!(btw y (0 : Int) (4294967295 : Int))) = true →
 (b1 = b1 ∧
 (∃ t4 : Nat, (∃ y5 : CD, (∃ so6 : (Nat →
 (Option Addr)), (∃ sc7 : (Nat →
 Nat), (∃ sd8 : (Nat →
 Nat), (∃ ag9 : (Nat →
 Int), (∃ hg10 : (Nat →
 Int), (((symRows false 0 x.1 so (fun x11 => 0)) = (symRows false t4 y5 so6 sd8) ∧
 ([(fun i12 => (Cs 3 (so i12) (x.1.2 i12) (sc i12))), (fun i13 => (Cb (x.1.4 i13)))] = [(fun i14 => (Cs 3 (so6 i14) (y5.2 i14) (sc7 i14))), (fun i15 => (Cb (y5.4 i15)))] ∧
 (O = O ∧
 (x.1.1 = x.1.1 ∧
 (x.1.1 = y5.1 ∧
 (A = A ∧
 (x.2 = x.2 ∧
 ([(fun i16 => (Ci (x.3 i16)))] = [(fun i17 => (Ci (ag9 i17)))] ∧
 (H = H ∧
 (x.4 = x.4 ∧
 [(fun i18 => (Ci (x.5 i18)))] = [(fun i19 => (Ci (hg10 i19)))])))))))))) ∧
 ((capA (AD.mk y5 x.2 ag9 x.4 hg10)) ∧
 (∀ Oq20 : (Option Addr),
 (∀ Aq21 : (Option Addr),
 (∀ Hq22 : (Option Addr),
 (∀ Cq23 : Nat,
 (∀ Dq24 : Nat,
 (∀ Ee25 : Nat,
 (∀ soq26 : (Nat →
 (Option Addr)),
 (∀ scq27 : (Nat →
 Nat),
 (b3 = b3 ∧
 (b3 = b3 ∧
 (∃ Oq28 : (Option Addr), (∃ Aq29 : (Option Addr), (∃ Hq30 : (Option Addr), (∃ Cq31 : Nat, (∃ Dq32 : Nat, (∃ Ee33 : Nat, (∃ soq34 : (Nat →
 (Option Addr)), (∃ scq35 : (Nat →
 Nat), ((Wa [(Ws Oq20 y5.1 Cq23), (Ws Aq21 x.2 Dq24), (Ws Hq22 x.4 Ee25)]) = (Wa [(Ws Oq28 z.1.1 Cq31), (Ws Aq29 z.2 Dq32), (Ws Hq30 z.4 Ee33)]) ∧
 (SelS [(Hr false O 0 2 x.1.1 0 [(fun i36 => (Cs 3 (so i36) (x.1.2 i36) (sc i36))), (fun i37 => (Cb (x.1.4 i37)))]), (Hr false A 0 1 x.2 0 [(fun i38 => (Ci (x.3 i38)))]), (Hr false H 0 1 x.4 0 [(fun i39 => (Ci (x.5 i39)))]), (Ho false (symRows false 0 x.1 so (fun x40 => 0))), (Hc b0 37 [(Ci gG), (Ci gB), (Ci gR), (Ci gC)]), (Hc b1 33 [(Cs 0 O x.1.1 C), (Cs 1 A x.2 D), (Cs 2 H x.4 E)]), (Hc b2 70 [(Ci dB), (Ci dR), (Ci dC)]), (Hc b3 33 [(Cs 8 Oq20 y5.1 Cq23), (Cs 9 Aq21 x.2 Dq24), (Cs 10 Hq22 x.4 Ee25)]), (Hr true Oq20 52 2 y5.1 Cq23 [(fun i41 => (Cs 11 (soq26 i41) (y5.2 i41) (scq27 i41))), (fun i42 => (Cb (y5.4 i42)))]), (Hr true Aq21 3 1 x.2 Dq24 [(fun i43 => (Ci (ag9 i43)))]), (Hr true Hq22 3 1 x.4 Ee25 [(fun i44 => (Ci (hg10 i44)))]), (Ho true (symRows true 3 y5 soq26 scq27))] [8, 9, 10, 11] [(Hr true Oq28 52 2 z.1.1 Cq31 [(fun i45 => (Cs 3 (soq34 i45) (z.1.2 i45) (scq35 i45))), (fun i46 => (Cb (z.1.4 i46)))]), (Hr true Aq29 3 1 z.2 Dq32 [(fun i47 => (Ci (z.3 i47)))]), (Hr true Hq30 3 1 z.4 Ee33 [(fun i48 => (Ci (z.5 i48)))]), (Ho true (symRows true 3 z.1 soq34 scq35))]))))))))))))))))))))))))))))))) ∧
 ((!(btw y (0 : Int) (4294967295 : Int))) = false →
 (b0 = b0 ∧
 (b1 = b1 ∧
 (b2 = b2 ∧
 ((btw y (0 : Int) (4294967295 : Int)) = true ∧
 (∀ ro49 : (Option Addr),
 (∀ rc50 : Nat,
 (True ∧
 (∃ t51 : Nat, (∃ y52 : CD, (∃ so53 : (Nat →
 (Option Addr)), (∃ sc54 : (Nat →
 Nat), (∃ sd55 : (Nat →
 Nat), (∃ ag56 : (Nat →
 Int), (∃ hg57 : (Nat →
 Int), (((symRows false 0 x.1 so (fun x58 => 0)) = (symRows false t51 y52 so53 sd55) ∧
 ([(fun i59 => (Cs 3 (so i59) (x.1.2 i59) (sc i59))), (fun i60 => (Cb (x.1.4 i60)))] = [(fun i61 => (Cs 3 (so53 i61) (y52.2 i61) (sc54 i61))), (fun i62 => (Cb (y52.4 i62)))] ∧
 (O = O ∧
 (x.1.1 = x.1.1 ∧
 (x.1.1 = y52.1 ∧
 (A = A ∧
 (x.2 = x.2 ∧
 ([(fun i63 => (Ci (x.3 i63)))] = [(fun i64 => (Ci (ag56 i64)))] ∧
 (H = H ∧
 (x.4 = x.4 ∧
 [(fun i65 => (Ci (x.5 i65)))] = [(fun i66 => (Ci (hg57 i66)))])))))))))) ∧
 (∃ g067 : (Nat →
 Int), ((ro49 = ro49 ∧
 (11 = 11 ∧
 [(fun i68 => (Ci (cw y i68)))] = [(fun i69 => (Ci (g067 i69)))])) ∧
 (((capA (AD.mk y52 x.2 ag56 x.4 hg57)) ∧
 (capC 11)) ∧
 (∀ Oq70 : (Option Addr),
 (∀ Aq71 : (Option Addr),
 (∀ Hq72 : (Option Addr),
 (∀ Cq73 : Nat,
 (∀ Dq74 : Nat,
 (∀ Ee75 : Nat,
 (∀ soq76 : (Nat →
 (Option Addr)),
 (∀ scq77 : (Nat →
 Nat),
 (True ∧
 (b3 = b3 ∧
 (True ∧
 (b3 = b3 ∧
 (∃ Oq78 : (Option Addr), (∃ Aq79 : (Option Addr), (∃ Hq80 : (Option Addr), (∃ Cq81 : Nat, (∃ Dq82 : Nat, (∃ Ee83 : Nat, (∃ soq84 : (Nat →
 (Option Addr)), (∃ scq85 : (Nat →
 Nat), ((Wa [(Ws Oq70 ((stA gG gB gR gC dB dR dC (AD.mk y52 x.2 ag56 x.4 hg57) 11 g067 false)).1.1 Cq73), (Ws Aq71 ((stA gG gB gR gC dB dR dC (AD.mk y52 x.2 ag56 x.4 hg57) 11 g067 false)).2 Dq74), (Ws Hq72 ((stA gG gB gR gC dB dR dC (AD.mk y52 x.2 ag56 x.4 hg57) 11 g067 false)).4 Ee75)]) = (Wa [(Ws Oq78 z.1.1 Cq81), (Ws Aq79 z.2 Dq82), (Ws Hq80 z.4 Ee83)]) ∧
 (SelS [(Hr false O 0 2 x.1.1 0 [(fun i86 => (Cs 3 (so i86) (x.1.2 i86) (sc i86))), (fun i87 => (Cb (x.1.4 i87)))]), (Hr false A 0 1 x.2 0 [(fun i88 => (Ci (x.3 i88)))]), (Hr false H 0 1 x.4 0 [(fun i89 => (Ci (x.5 i89)))]), (Ho false (symRows false 0 x.1 so (fun x90 => 0))), (Hc b0 37 [(Ci gG), (Ci gB), (Ci gR), (Ci gC)]), (Hc b1 33 [(Cs 0 O x.1.1 C), (Cs 1 A x.2 D), (Cs 2 H x.4 E)]), (Hc b2 70 [(Ci dB), (Ci dR), (Ci dC)]), (Hc b3 33 [(Cs 9 Oq70 ((stA gG gB gR gC dB dR dC (AD.mk y52 x.2 ag56 x.4 hg57) 11 g067 false)).1.1 Cq73), (Cs 10 Aq71 ((stA gG gB gR gC dB dR dC (AD.mk y52 x.2 ag56 x.4 hg57) 11 g067 false)).2 Dq74), (Cs 11 Hq72 ((stA gG gB gR gC dB dR dC (AD.mk y52 x.2 ag56 x.4 hg57) 11 g067 false)).4 Ee75)]), (Hr true ro49 3 1 11 rc50 [(fun i91 => (Ci (cw y i91)))]), (Hr true Oq70 52 2 ((stA gG gB gR gC dB dR dC (AD.mk y52 x.2 ag56 x.4 hg57) 11 g067 false)).1.1 Cq73 [(fun i92 => (Cs 12 (soq76 i92) (((stA gG gB gR gC dB dR dC (AD.mk y52 x.2 ag56 x.4 hg57) 11 g067 false)).1.2 i92) (scq77 i92))), (fun i93 => (Cb (((stA gG gB gR gC dB dR dC (AD.mk y52 x.2 ag56 x.4 hg57) 11 g067 false)).1.4 i93)))]), (Hr true Aq71 3 1 ((stA gG gB gR gC dB dR dC (AD.mk y52 x.2 ag56 x.4 hg57) 11 g067 false)).2 Dq74 [(fun i94 => (Ci (((stA gG gB gR gC dB dR dC (AD.mk y52 x.2 ag56 x.4 hg57) 11 g067 false)).3 i94)))]), (Hr true Hq72 3 1 ((stA gG gB gR gC dB dR dC (AD.mk y52 x.2 ag56 x.4 hg57) 11 g067 false)).4 Ee75 [(fun i95 => (Ci (((stA gG gB gR gC dB dR dC (AD.mk y52 x.2 ag56 x.4 hg57) 11 g067 false)).5 i95)))]), (Ho true (symRows true 3 ((stA gG gB gR gC dB dR dC (AD.mk y52 x.2 ag56 x.4 hg57) 11 g067 false)).1 soq76 scq77))] [9, 10, 11, 12] [(Hr true Oq78 52 2 z.1.1 Cq81 [(fun i96 => (Cs 3 (soq84 i96) (z.1.2 i96) (scq85 i96))), (fun i97 => (Cb (z.1.4 i97)))]), (Hr true Aq79 3 1 z.2 Dq82 [(fun i98 => (Ci (z.3 i98)))]), (Hr true Hq80 3 1 z.4 Ee83 [(fun i99 => (Ci (z.5 i99)))]), (Ho true (symRows true 3 z.1 soq84 scq85))]))))))))))))))))))))))))))))))))))))))))))))))) := by kernel_rfl
theorem putI_any (x : AD) (O A H : Option Addr) (C D E : Nat) (so : Nat → Option Addr) (sc : Nat → Nat) (gG gB gR gC : Int) (dB dR dC : Int) (y : Int) (z : AD) (w : World) (hA : SeenA w x O A H so sc) (hcap : capA x) (h1 : btw y 0 4294967295 = true → z = stA gG gB gR gC dB dR dC x 11 (fun i => cw y i) false) (h2 : btw y 0 4294967295 = false → z = x) : Calls Try.prog 77 #[.agg #[.int .i64 gG, .int .i64 gB, .int .i64 gR, .int .i64 gC], arrV x O A H C D E, .agg #[.int .i64 dB, .int .i64 dR, .int .i64 dC], .int .i64 y] w fun e w' => ∃ (Oq Aq Hq : Option Addr) (Cq Dq Ee : Nat) (soq : Nat → Option Addr) (scq : Nat → Nat), e = .returned (arrV z Oq Aq Hq Cq Dq Ee) ∧ HS ⟨w, fun _ => False⟩ (arrO 0 z Oq Aq Hq Cq Dq Ee soq scq) w' := by
  refine fnB (tb := [(76, sIwI), (53, sCpA), (97, sEnl), (55, sSt)]) ⟨sIwI_ok, sCpA_I, sEnl_I, sSt_ok, trivial⟩ Try.func77 (@Eq.mpr _ _ (putI_T x O A H C D E so sc gG gB gR gC dB dR dC y z) ?_) (HS.seenAll (fun _ => False) _ (hA.all 0 seenC_nil)) (fun v ch' w' ⟨Oq, Aq, Hq, Cq, Dq, Ee, soq, scq, hv, hc⟩ hs => ⟨Oq, Aq, Hq, Cq, Dq, Ee, soq, scq, by rw [hv], hc.hs hs⟩)
  clear hA
  have hl := lenA_of hcap
  have hc11 : capC 11 := by show 11 ≤ 2097152; omega
  cases hb : btw y 0 4294967295
  · obtain rfl := h2 hb
    repeat' (first
      | with_reducible exact rfl
      | exact True.intro
      | with_reducible assumption
      | exact hl
      | exact hcap
      | (intro h; exfalso; rw [hb] at h; simp at h; done)
      | exact (by refine ⟨?_, rfl⟩; repeat' (first | exact True.intro | exact symRows_push | exact rfl | refine And.intro ?_ ?_ | (intro i hi; show _ = _; with_reducible rfl) | (intro i hi; show _ = _; rfl) | (intro i hi; show _ = _; simp only [SC.den]; split <;> rfl)))
      | refine And.intro ?_ ?_
      | apply Exists.intro
      | (intro h; exfalso; simp at h; done)
      | (intro h; replace h := of_decide_eq_true h; first | (exfalso; omega) | skip)
      | (intro h; replace h := of_decide_eq_false h; first | (exfalso; omega) | skip)
      | (intro i hi; with_reducible exact rfl)
      | intro _
      | omega
      | exact rfl)
  · obtain rfl := h1 hb
    repeat' (first
      | with_reducible exact rfl
      | exact True.intro
      | with_reducible assumption
      | exact hl
      | exact hcap
      | exact hc11
      | (intro h; exfalso; rw [hb] at h; simp at h; done)
      | (refine ⟨_, _, _, _, _, ⟨rfl, rfl, rfl, ?_⟩, ?_⟩)
      | exact (by refine ⟨?_, rfl⟩; repeat' (first | exact True.intro | exact symRows_push | exact rfl | refine And.intro ?_ ?_ | (intro i hi; show _ = _; with_reducible rfl) | (intro i hi; show _ = _; rfl) | (intro i hi; show _ = _; simp only [SC.den]; split <;> rfl)))
      | refine And.intro ?_ ?_
      | apply Exists.intro
      | (intro h; exfalso; simp at h; done)
      | (intro h; replace h := of_decide_eq_true h; first | (exfalso; omega) | skip)
      | (intro h; replace h := of_decide_eq_false h; first | (exfalso; omega) | skip)
      | (intro i hi; with_reducible exact rfl)
      | intro _
      | omega
      | exact rfl)
theorem putSY_T (x : AD) (O A H : Option Addr) (C D E : Nat) (so : Nat → Option Addr) (sc : Nat → Nat) (gG gB gR gC : Int) (dB dR dC : Int) (y : Int) : (exFn Try.prog {tb := [(45, sCpA), (46, sArrOk), (83, sAdOk), (74, sIwS), (48, sAdIx), (84, sEnl)]} 400 Try.f33 ([.a (.agg [.int gG, .int gB, .int gR, .int gC]), .a (arrS 0 x O A H C D E), .a (.agg [.int dB, .int dR, .int dC]), .a (.c (.int y))]) (arrR 0 x O A H so sc) (fun v ch => ∃ (Oq Aq Hq : Option Addr) (Cq Dq Ee : Nat) (soq : Nat → Option Addr) (scq : Nat → Nat) (ro : Option Addr) (rc : Nat), v.den = arrV x Oq Aq Hq Cq Dq Ee ∧ SelS ch (idsSt v ch) (storedCh x (ixN gG gB gR gC dB dR dC) 11 (fun i => cw y i) false Oq Aq Hq Cq Dq Ee soq scq ro rc))) = (
  (∀ b0 : Nat,
 (∀ b1 : Nat,
 (∀ b2 : Nat,
 (∀ b3 : Nat,
 (b1 = b1 ∧
 (∃ t4 : Nat, (∃ y5 : CD, (∃ so6 : (Nat →
 (Option Addr)), (∃ sc7 : (Nat →
 Nat), (∃ sd8 : (Nat →
 Nat), (∃ ag9 : (Nat →
 Int), (∃ hg10 : (Nat →
 Int), (((symRows false 0 x.1 so (fun x11 => 0)) = (symRows false t4 y5 so6 sd8) ∧
 ([(fun i12 => (Cs 3 (so i12) (x.1.2 i12) (sc i12))), (fun i13 => (Cb (x.1.4 i13)))] = [(fun i14 => (Cs 3 (so6 i14) (y5.2 i14) (sc7 i14))), (fun i15 => (Cb (y5.4 i15)))] ∧
 (O = O ∧
 (x.1.1 = x.1.1 ∧
 (x.1.1 = y5.1 ∧
 (A = A ∧
 (x.2 = x.2 ∧
 ([(fun i16 => (Ci (x.3 i16)))] = [(fun i17 => (Ci (ag9 i17)))] ∧
 (H = H ∧
 (x.4 = x.4 ∧
 [(fun i18 => (Ci (x.5 i18)))] = [(fun i19 => (Ci (hg10 i19)))])))))))))) ∧
 ((capA (AD.mk y5 x.2 ag9 x.4 hg10)) ∧
 (∀ Oq20 : (Option Addr),
 (∀ Aq21 : (Option Addr),
 (∀ Hq22 : (Option Addr),
 (∀ Cq23 : Nat,
 (∀ Dq24 : Nat,
 (∀ Ee25 : Nat,
 (∀ soq26 : (Nat →
 (Option Addr)),
 (∀ scq27 : (Nat →
 Nat),
 (∀ b28 : Nat,
 (b28 = b28 ∧
 (b0 = b0 ∧
 (b1 = b1 ∧
 (∃ t29 : Nat, (∃ y30 : CD, (∃ so31 : (Nat →
 (Option Addr)), (∃ sc32 : (Nat →
 Nat), (∃ sd33 : (Nat →
 Nat), (∃ ag34 : (Nat →
 Int), (∃ hg35 : (Nat →
 Int), (((symRows false 0 x.1 so (fun x36 => 0)) = (symRows false t29 y30 so31 sd33) ∧
 ([(fun i37 => (Cs 3 (so i37) (x.1.2 i37) (sc i37))), (fun i38 => (Cb (x.1.4 i38)))] = [(fun i39 => (Cs 3 (so31 i39) (y30.2 i39) (sc32 i39))), (fun i40 => (Cb (y30.4 i40)))] ∧
 (O = O ∧
 (x.1.1 = x.1.1 ∧
 (x.1.1 = y30.1 ∧
 (A = A ∧
 (x.2 = x.2 ∧
 ([(fun i41 => (Ci (x.3 i41)))] = [(fun i42 => (Ci (ag34 i42)))] ∧
 (H = H ∧
 (x.4 = x.4 ∧
 [(fun i43 => (Ci (x.5 i43)))] = [(fun i44 => (Ci (hg35 i44)))])))))))))) ∧
 ((lenA (AD.mk y30 x.2 ag34 x.4 hg35)) ∧
 (((arrOk gG gB gR gC (AD.mk y30 x.2 ag34 x.4 hg35)) = true →
 (b0 = b0 ∧
 (b2 = b2 ∧
 (((adOk gG gB gR gC dB dR dC) = true →
 (((btw y (0 : Int) (4294967295 : Int)) = true →
 (b28 = b28 ∧
 (b0 = b0 ∧
 (b2 = b2 ∧
 (True ∧
 ((btw y (0 : Int) (4294967295 : Int)) = true ∧
 (∀ ro45 : (Option Addr),
 (∀ rc46 : Nat,
 (True ∧
 (Oq20 = Oq20 ∧
 (y5.1 = y5.1 ∧
 ((0 ≤ (adIx gG gB gR gC dB dR dC) ∧ (adIx gG gB gR gC dB dR dC) < ((y5.1 : Nat) : Int)) ∧
 (Oq20 = Oq20 ∧
 ((Int.toNat (adIx gG gB gR gC dB dR dC)) < y5.1 ∧
 (True ∧
 (b28 = b28 ∧
 (b3 = b3 ∧
 (b3 = b3 ∧
 (∃ Oq47 : (Option Addr), (∃ Aq48 : (Option Addr), (∃ Hq49 : (Option Addr), (∃ Cq50 : Nat, (∃ Dq51 : Nat, (∃ Ee52 : Nat, (∃ soq53 : (Nat →
 (Option Addr)), (∃ scq54 : (Nat →
 Nat), (∃ ro55 : (Option Addr), (∃ rc56 : Nat, ((Wa [(Ws Oq20 y5.1 Cq23), (Ws Aq21 x.2 Dq24), (Ws Hq22 x.4 Ee25)]) = (Wa [(Ws Oq47 x.1.1 Cq50), (Ws Aq48 x.2 Dq51), (Ws Hq49 x.4 Ee52)]) ∧
 (SelS [(Hr false O 0 2 x.1.1 0 [(fun i57 => (Cs 3 (so i57) (x.1.2 i57) (sc i57))), (fun i58 => (Cb (x.1.4 i58)))]), (Hr false A 0 1 x.2 0 [(fun i59 => (Ci (x.3 i59)))]), (Hr false H 0 1 x.4 0 [(fun i60 => (Ci (x.5 i60)))]), (Ho false (symRows false 0 x.1 so (fun x61 => 0))), (Hc b0 37 [(Ci gG), (Ci gB), (Ci gR), (Ci gC)]), (Hc b1 33 [(Cs 0 O x.1.1 C), (Cs 1 A x.2 D), (Cs 2 H x.4 E)]), (Hc b2 70 [(Ci dB), (Ci dR), (Ci dC)]), (Hc b3 33 [(Cs 8 Oq20 y5.1 Cq23), (Cs 9 Aq21 x.2 Dq24), (Cs 10 Hq22 x.4 Ee25)]), (Hr true Oq20 52 2 y5.1 Cq23 [(fun j62 => (Cv (if j62 = (Int.toNat (adIx gG gB gR gC dB dR dC)) then (Ws ro45 11 rc46) else (Ws (soq26 j62) (y5.2 j62) (scq27 j62))))), (fun j63 => (Cb (if j63 = (Int.toNat (adIx gG gB gR gC dB dR dC)) then false else (y5.4 j63))))]), (Hr true Aq21 3 1 x.2 Dq24 [(fun i64 => (Ci (ag9 i64)))]), (Hr true Hq22 3 1 x.4 Ee25 [(fun i65 => (Ci (hg10 i65)))]), (Ho true (symRows true 3 y5 soq26 scq27)), (Hc b28 33 [(Cs 8 Oq20 y5.1 Cq23), (Cs 9 Aq21 x.2 Dq24), (Cs 10 Hq22 x.4 Ee25)]), (Hr true ro45 3 1 11 rc46 [(fun i66 => (Ci (cw y i66)))])] [8, 9, 10, 11, 13] [(Hr true Oq47 52 2 x.1.1 Cq50 [(fun i67 => (Cv (if i67 = (ixN gG gB gR gC dB dR dC) then (Ws ro55 11 rc56) else (Ws (soq53 i67) (x.1.2 i67) (scq54 i67))))), (fun i68 => (Cb (if i68 = (ixN gG gB gR gC dB dR dC) then false else (x.1.4 i68))))]), (Hr true Aq48 3 1 x.2 Dq51 [(fun i69 => (Ci (x.3 i69)))]), (Hr true Hq49 3 1 x.4 Ee52 [(fun i70 => (Ci (x.5 i70)))]), (Ho true (symRows true 3 x.1 soq53 scq54)), (Hr true ro55 3 1 11 rc56 [(fun i71 => (Ci (cw y i71)))])])))))))))))))))))))))))))))))) ∧
 ((btw y (0 : Int) (4294967295 : Int)) = false →
 (b28 = b28 ∧
 (b3 = b3 ∧
 (b3 = b3 ∧
 (∃ Oq72 : (Option Addr), (∃ Aq73 : (Option Addr), (∃ Hq74 : (Option Addr), (∃ Cq75 : Nat, (∃ Dq76 : Nat, (∃ Ee77 : Nat, (∃ soq78 : (Nat →
 (Option Addr)), (∃ scq79 : (Nat →
 Nat), (∃ ro80 : (Option Addr), (∃ rc81 : Nat, ((Wa [(Ws Oq20 y5.1 Cq23), (Ws Aq21 x.2 Dq24), (Ws Hq22 x.4 Ee25)]) = (Wa [(Ws Oq72 x.1.1 Cq75), (Ws Aq73 x.2 Dq76), (Ws Hq74 x.4 Ee77)]) ∧
 (SelS [(Hr false O 0 2 x.1.1 0 [(fun i82 => (Cs 3 (so i82) (x.1.2 i82) (sc i82))), (fun i83 => (Cb (x.1.4 i83)))]), (Hr false A 0 1 x.2 0 [(fun i84 => (Ci (x.3 i84)))]), (Hr false H 0 1 x.4 0 [(fun i85 => (Ci (x.5 i85)))]), (Ho false (symRows false 0 x.1 so (fun x86 => 0))), (Hc b0 37 [(Ci gG), (Ci gB), (Ci gR), (Ci gC)]), (Hc b1 33 [(Cs 0 O x.1.1 C), (Cs 1 A x.2 D), (Cs 2 H x.4 E)]), (Hc b2 70 [(Ci dB), (Ci dR), (Ci dC)]), (Hc b3 33 [(Cs 8 Oq20 y5.1 Cq23), (Cs 9 Aq21 x.2 Dq24), (Cs 10 Hq22 x.4 Ee25)]), (Hr true Oq20 52 2 y5.1 Cq23 [(fun i87 => (Cs 11 (soq26 i87) (y5.2 i87) (scq27 i87))), (fun i88 => (Cb (y5.4 i88)))]), (Hr true Aq21 3 1 x.2 Dq24 [(fun i89 => (Ci (ag9 i89)))]), (Hr true Hq22 3 1 x.4 Ee25 [(fun i90 => (Ci (hg10 i90)))]), (Ho true (symRows true 3 y5 soq26 scq27)), (Hc b28 33 [(Cs 8 Oq20 y5.1 Cq23), (Cs 9 Aq21 x.2 Dq24), (Cs 10 Hq22 x.4 Ee25)])] [8, 9, 10, 11, 12] [(Hr true Oq72 52 2 x.1.1 Cq75 [(fun i91 => (Cv (if i91 = (ixN gG gB gR gC dB dR dC) then (Ws ro80 11 rc81) else (Ws (soq78 i91) (x.1.2 i91) (scq79 i91))))), (fun i92 => (Cb (if i92 = (ixN gG gB gR gC dB dR dC) then false else (x.1.4 i92))))]), (Hr true Aq73 3 1 x.2 Dq76 [(fun i93 => (Ci (x.3 i93)))]), (Hr true Hq74 3 1 x.4 Ee77 [(fun i94 => (Ci (x.5 i94)))]), (Ho true (symRows true 3 x.1 soq78 scq79)), (Hr true ro80 3 1 11 rc81 [(fun i95 => (Ci (cw y i95)))])])))))))))))))))))) ∧
 ((adOk gG gB gR gC dB dR dC) = false →
 (b28 = b28 ∧
 (b3 = b3 ∧
 (b3 = b3 ∧
 (∃ Oq96 : (Option Addr), (∃ Aq97 : (Option Addr), (∃ Hq98 : (Option Addr), (∃ Cq99 : Nat, (∃ Dq100 : Nat, (∃ Ee101 : Nat, (∃ soq102 : (Nat →
 (Option Addr)), (∃ scq103 : (Nat →
 Nat), (∃ ro104 : (Option Addr), (∃ rc105 : Nat, ((Wa [(Ws Oq20 y5.1 Cq23), (Ws Aq21 x.2 Dq24), (Ws Hq22 x.4 Ee25)]) = (Wa [(Ws Oq96 x.1.1 Cq99), (Ws Aq97 x.2 Dq100), (Ws Hq98 x.4 Ee101)]) ∧
 (SelS [(Hr false O 0 2 x.1.1 0 [(fun i106 => (Cs 3 (so i106) (x.1.2 i106) (sc i106))), (fun i107 => (Cb (x.1.4 i107)))]), (Hr false A 0 1 x.2 0 [(fun i108 => (Ci (x.3 i108)))]), (Hr false H 0 1 x.4 0 [(fun i109 => (Ci (x.5 i109)))]), (Ho false (symRows false 0 x.1 so (fun x110 => 0))), (Hc b0 37 [(Ci gG), (Ci gB), (Ci gR), (Ci gC)]), (Hc b1 33 [(Cs 0 O x.1.1 C), (Cs 1 A x.2 D), (Cs 2 H x.4 E)]), (Hc b2 70 [(Ci dB), (Ci dR), (Ci dC)]), (Hc b3 33 [(Cs 8 Oq20 y5.1 Cq23), (Cs 9 Aq21 x.2 Dq24), (Cs 10 Hq22 x.4 Ee25)]), (Hr true Oq20 52 2 y5.1 Cq23 [(fun i111 => (Cs 11 (soq26 i111) (y5.2 i111) (scq27 i111))), (fun i112 => (Cb (y5.4 i112)))]), (Hr true Aq21 3 1 x.2 Dq24 [(fun i113 => (Ci (ag9 i113)))]), (Hr true Hq22 3 1 x.4 Ee25 [(fun i114 => (Ci (hg10 i114)))]), (Ho true (symRows true 3 y5 soq26 scq27)), (Hc b28 33 [(Cs 8 Oq20 y5.1 Cq23), (Cs 9 Aq21 x.2 Dq24), (Cs 10 Hq22 x.4 Ee25)])] [8, 9, 10, 11, 12] [(Hr true Oq96 52 2 x.1.1 Cq99 [(fun i115 => (Cv (if i115 = (ixN gG gB gR gC dB dR dC) then (Ws ro104 11 rc105) else (Ws (soq102 i115) (x.1.2 i115) (scq103 i115))))), (fun i116 => (Cb (if i116 = (ixN gG gB gR gC dB dR dC) then false else (x.1.4 i116))))]), (Hr true Aq97 3 1 x.2 Dq100 [(fun i117 => (Ci (x.3 i117)))]), (Hr true Hq98 3 1 x.4 Ee101 [(fun i118 => (Ci (x.5 i118)))]), (Ho true (symRows true 3 x.1 soq102 scq103)), (Hr true ro104 3 1 11 rc105 [(fun i119 => (Ci (cw y i119)))])])))))))))))))))))))) ∧
 ((arrOk gG gB gR gC (AD.mk y30 x.2 ag34 x.4 hg35)) = false →
 (b28 = b28 ∧
 (b3 = b3 ∧
 (b3 = b3 ∧
 (∃ Oq120 : (Option Addr), (∃ Aq121 : (Option Addr), (∃ Hq122 : (Option Addr), (∃ Cq123 : Nat, (∃ Dq124 : Nat, (∃ Ee125 : Nat, (∃ soq126 : (Nat →
 (Option Addr)), (∃ scq127 : (Nat →
 Nat), (∃ ro128 : (Option Addr), (∃ rc129 : Nat, ((Wa [(Ws Oq20 y5.1 Cq23), (Ws Aq21 x.2 Dq24), (Ws Hq22 x.4 Ee25)]) = (Wa [(Ws Oq120 x.1.1 Cq123), (Ws Aq121 x.2 Dq124), (Ws Hq122 x.4 Ee125)]) ∧
 (SelS [(Hr false O 0 2 x.1.1 0 [(fun i130 => (Cs 3 (so i130) (x.1.2 i130) (sc i130))), (fun i131 => (Cb (x.1.4 i131)))]), (Hr false A 0 1 x.2 0 [(fun i132 => (Ci (x.3 i132)))]), (Hr false H 0 1 x.4 0 [(fun i133 => (Ci (x.5 i133)))]), (Ho false (symRows false 0 x.1 so (fun x134 => 0))), (Hc b0 37 [(Ci gG), (Ci gB), (Ci gR), (Ci gC)]), (Hc b1 33 [(Cs 0 O x.1.1 C), (Cs 1 A x.2 D), (Cs 2 H x.4 E)]), (Hc b2 70 [(Ci dB), (Ci dR), (Ci dC)]), (Hc b3 33 [(Cs 8 Oq20 y5.1 Cq23), (Cs 9 Aq21 x.2 Dq24), (Cs 10 Hq22 x.4 Ee25)]), (Hr true Oq20 52 2 y5.1 Cq23 [(fun i135 => (Cs 11 (soq26 i135) (y5.2 i135) (scq27 i135))), (fun i136 => (Cb (y5.4 i136)))]), (Hr true Aq21 3 1 x.2 Dq24 [(fun i137 => (Ci (ag9 i137)))]), (Hr true Hq22 3 1 x.4 Ee25 [(fun i138 => (Ci (hg10 i138)))]), (Ho true (symRows true 3 y5 soq26 scq27)), (Hc b28 33 [(Cs 8 Oq20 y5.1 Cq23), (Cs 9 Aq21 x.2 Dq24), (Cs 10 Hq22 x.4 Ee25)])] [8, 9, 10, 11, 12] [(Hr true Oq120 52 2 x.1.1 Cq123 [(fun i139 => (Cv (if i139 = (ixN gG gB gR gC dB dR dC) then (Ws ro128 11 rc129) else (Ws (soq126 i139) (x.1.2 i139) (scq127 i139))))), (fun i140 => (Cb (if i140 = (ixN gG gB gR gC dB dR dC) then false else (x.1.4 i140))))]), (Hr true Aq121 3 1 x.2 Dq124 [(fun i141 => (Ci (x.3 i141)))]), (Hr true Hq122 3 1 x.4 Ee125 [(fun i142 => (Ci (x.5 i142)))]), (Ho true (symRows true 3 x.1 soq126 scq127)), (Hr true ro128 3 1 11 rc129 [(fun i143 => (Ci (cw y i143)))])]))))))))))))))))))))))))))))))))))))))))))))))))))))) := by kernel_rfl
theorem putSY_any (x : AD) (O A H : Option Addr) (C D E : Nat) (so : Nat → Option Addr) (sc : Nat → Nat) (gG gB gR gC : Int) (dB dR dC : Int) (y : Int) (w : World) (hA : SeenA w x O A H so sc) (hcap : capA x) (hst : putOk gG gB gR gC dB dR dC x y = true) : Calls Try.prog 33 #[.agg #[.int .i64 gG, .int .i64 gB, .int .i64 gR, .int .i64 gC], arrV x O A H C D E, .agg #[.int .i64 dB, .int .i64 dR, .int .i64 dC], .int .i64 y] w fun e w' => ∃ (Oq Aq Hq : Option Addr) (Cq Dq Ee : Nat) (soq : Nat → Option Addr) (scq : Nat → Nat), e = .returned (arrV (setA x (ixN gG gB gR gC dB dR dC) 11 (fun i => cw y i) false) Oq Aq Hq Cq Dq Ee) ∧ HS ⟨w, fun _ => False⟩ (arrO 0 (setA x (ixN gG gB gR gC dB dR dC) 11 (fun i => cw y i) false) Oq Aq Hq Cq Dq Ee soq scq) w' := by
  refine fnB (tb := [(45, sCpA), (46, sArrOk), (83, sAdOk), (74, sIwS), (48, sAdIx), (84, sEnl)]) ⟨sCpA_S, sArrOk_S, sAdOk_S, sIwS_ok, sAdIx_S, sEnl_S, trivial⟩ Try.func33 (@Eq.mpr _ _ (putSY_T x O A H C D E so sc gG gB gR gC dB dR dC y) ?_) (HS.seenAll (fun _ => False) _ (hA.all 0 seenC_nil)) (fun v ch' w' ⟨Oq, Aq, Hq, Cq, Dq, Ee, soq, scq, ro, rc, hv, hc⟩ hs => ⟨Oq, Aq, Hq, Cq, Dq, Ee, _, _, by rw [hv]; rfl, (hc.hs hs).stored⟩)
  clear hA
  have hl := lenA_of hcap
  have hc11 : capC 11 := by show 11 ≤ 2097152; omega
  obtain ⟨hok, had, hb⟩ := put_facts hst
  have hin := arr_in hok had
  have hi1 := hin.1
  have hi2 := hin.2.1
  have hi3 : ltN (tn (adIx gG gB gR gC dB dR dC)) x.c.n := hin.2.2
  repeat' (first
    | with_reducible exact rfl
    | exact True.intro
    | with_reducible assumption
    | exact hl
    | exact hcap
    | exact hc11
    | (intro h; exfalso; rw [hb] at h; simp at h; done)
    | (intro h; exfalso; rw [hok] at h; simp at h; done)
    | (intro h; exfalso; rw [had] at h; simp at h; done)
    | (refine ⟨_, _, _, _, _, ⟨rfl, rfl, rfl, ?_⟩, ?_⟩)
    | exact (by refine ⟨?_, rfl⟩; repeat' (first | exact True.intro | exact symRows_push | exact rfl | refine And.intro ?_ ?_ | (intro i hi; show _ = _; with_reducible rfl) | (intro i hi; show _ = _; rfl) | (intro i hi; show _ = _; simp only [SC.den]; split <;> rfl)))
    | refine And.intro ?_ ?_
    | apply Exists.intro
    | (intro h; exfalso; simp at h; done)
    | (intro h; replace h := of_decide_eq_true h; first | (exfalso; omega) | skip)
    | (intro h; replace h := of_decide_eq_false h; first | (exfalso; omega) | skip)
    | (intro i hi; with_reducible exact rfl)
    | intro _
    | omega
    | exact rfl)
theorem putSN_T (x : AD) (O A H : Option Addr) (C D E : Nat) (so : Nat → Option Addr) (sc : Nat → Nat) (gG gB gR gC : Int) (dB dR dC : Int) (y : Int) : (exFn Try.prog {tb := [(45, sCpA), (46, sArrOk), (83, sAdOk), (74, sIwS), (48, sAdIx), (84, sEnl)]} 400 Try.f33 ([.a (.agg [.int gG, .int gB, .int gR, .int gC]), .a (arrS 0 x O A H C D E), .a (.agg [.int dB, .int dR, .int dC]), .a (.c (.int y))]) (arrR 0 x O A H so sc) (fun v ch => ∃ (Oq Aq Hq : Option Addr) (Cq Dq Ee : Nat) (soq : Nat → Option Addr) (scq : Nat → Nat), v.den = arrV x Oq Aq Hq Cq Dq Ee ∧ SelS ch (idsArr v ch) (arrO 0 x Oq Aq Hq Cq Dq Ee soq scq))) = (
  (∀ b0 : Nat,
 (∀ b1 : Nat,
 (∀ b2 : Nat,
 (∀ b3 : Nat,
 (b1 = b1 ∧
 (∃ t4 : Nat, (∃ y5 : CD, (∃ so6 : (Nat →
 (Option Addr)), (∃ sc7 : (Nat →
 Nat), (∃ sd8 : (Nat →
 Nat), (∃ ag9 : (Nat →
 Int), (∃ hg10 : (Nat →
 Int), (((symRows false 0 x.1 so (fun x11 => 0)) = (symRows false t4 y5 so6 sd8) ∧
 ([(fun i12 => (Cs 3 (so i12) (x.1.2 i12) (sc i12))), (fun i13 => (Cb (x.1.4 i13)))] = [(fun i14 => (Cs 3 (so6 i14) (y5.2 i14) (sc7 i14))), (fun i15 => (Cb (y5.4 i15)))] ∧
 (O = O ∧
 (x.1.1 = x.1.1 ∧
 (x.1.1 = y5.1 ∧
 (A = A ∧
 (x.2 = x.2 ∧
 ([(fun i16 => (Ci (x.3 i16)))] = [(fun i17 => (Ci (ag9 i17)))] ∧
 (H = H ∧
 (x.4 = x.4 ∧
 [(fun i18 => (Ci (x.5 i18)))] = [(fun i19 => (Ci (hg10 i19)))])))))))))) ∧
 ((capA (AD.mk y5 x.2 ag9 x.4 hg10)) ∧
 (∀ Oq20 : (Option Addr),
 (∀ Aq21 : (Option Addr),
 (∀ Hq22 : (Option Addr),
 (∀ Cq23 : Nat,
 (∀ Dq24 : Nat,
 (∀ Ee25 : Nat,
 (∀ soq26 : (Nat →
 (Option Addr)),
 (∀ scq27 : (Nat →
 Nat),
 (∀ b28 : Nat,
 (b28 = b28 ∧
 (b0 = b0 ∧
 (b1 = b1 ∧
 (∃ t29 : Nat, (∃ y30 : CD, (∃ so31 : (Nat →
 (Option Addr)), (∃ sc32 : (Nat →
 Nat), (∃ sd33 : (Nat →
 Nat), (∃ ag34 : (Nat →
 Int), (∃ hg35 : (Nat →
 Int), (((symRows false 0 x.1 so (fun x36 => 0)) = (symRows false t29 y30 so31 sd33) ∧
 ([(fun i37 => (Cs 3 (so i37) (x.1.2 i37) (sc i37))), (fun i38 => (Cb (x.1.4 i38)))] = [(fun i39 => (Cs 3 (so31 i39) (y30.2 i39) (sc32 i39))), (fun i40 => (Cb (y30.4 i40)))] ∧
 (O = O ∧
 (x.1.1 = x.1.1 ∧
 (x.1.1 = y30.1 ∧
 (A = A ∧
 (x.2 = x.2 ∧
 ([(fun i41 => (Ci (x.3 i41)))] = [(fun i42 => (Ci (ag34 i42)))] ∧
 (H = H ∧
 (x.4 = x.4 ∧
 [(fun i43 => (Ci (x.5 i43)))] = [(fun i44 => (Ci (hg35 i44)))])))))))))) ∧
 ((lenA (AD.mk y30 x.2 ag34 x.4 hg35)) ∧
 (((arrOk gG gB gR gC (AD.mk y30 x.2 ag34 x.4 hg35)) = true →
 (b0 = b0 ∧
 (b2 = b2 ∧
 (((adOk gG gB gR gC dB dR dC) = true →
 (((btw y (0 : Int) (4294967295 : Int)) = true →
 (b28 = b28 ∧
 (b0 = b0 ∧
 (b2 = b2 ∧
 (True ∧
 ((btw y (0 : Int) (4294967295 : Int)) = true ∧
 (∀ ro45 : (Option Addr),
 (∀ rc46 : Nat,
 (True ∧
 (Oq20 = Oq20 ∧
 (y5.1 = y5.1 ∧
 ((0 ≤ (adIx gG gB gR gC dB dR dC) ∧ (adIx gG gB gR gC dB dR dC) < ((y5.1 : Nat) : Int)) ∧
 (Oq20 = Oq20 ∧
 ((Int.toNat (adIx gG gB gR gC dB dR dC)) < y5.1 ∧
 (True ∧
 (b28 = b28 ∧
 (b3 = b3 ∧
 (b3 = b3 ∧
 (∃ Oq47 : (Option Addr), (∃ Aq48 : (Option Addr), (∃ Hq49 : (Option Addr), (∃ Cq50 : Nat, (∃ Dq51 : Nat, (∃ Ee52 : Nat, (∃ soq53 : (Nat →
 (Option Addr)), (∃ scq54 : (Nat →
 Nat), ((Wa [(Ws Oq20 y5.1 Cq23), (Ws Aq21 x.2 Dq24), (Ws Hq22 x.4 Ee25)]) = (Wa [(Ws Oq47 x.1.1 Cq50), (Ws Aq48 x.2 Dq51), (Ws Hq49 x.4 Ee52)]) ∧
 (SelS [(Hr false O 0 2 x.1.1 0 [(fun i55 => (Cs 3 (so i55) (x.1.2 i55) (sc i55))), (fun i56 => (Cb (x.1.4 i56)))]), (Hr false A 0 1 x.2 0 [(fun i57 => (Ci (x.3 i57)))]), (Hr false H 0 1 x.4 0 [(fun i58 => (Ci (x.5 i58)))]), (Ho false (symRows false 0 x.1 so (fun x59 => 0))), (Hc b0 37 [(Ci gG), (Ci gB), (Ci gR), (Ci gC)]), (Hc b1 33 [(Cs 0 O x.1.1 C), (Cs 1 A x.2 D), (Cs 2 H x.4 E)]), (Hc b2 70 [(Ci dB), (Ci dR), (Ci dC)]), (Hc b3 33 [(Cs 8 Oq20 y5.1 Cq23), (Cs 9 Aq21 x.2 Dq24), (Cs 10 Hq22 x.4 Ee25)]), (Hr true Oq20 52 2 y5.1 Cq23 [(fun j60 => (Cv (if j60 = (Int.toNat (adIx gG gB gR gC dB dR dC)) then (Ws ro45 11 rc46) else (Ws (soq26 j60) (y5.2 j60) (scq27 j60))))), (fun j61 => (Cb (if j61 = (Int.toNat (adIx gG gB gR gC dB dR dC)) then false else (y5.4 j61))))]), (Hr true Aq21 3 1 x.2 Dq24 [(fun i62 => (Ci (ag9 i62)))]), (Hr true Hq22 3 1 x.4 Ee25 [(fun i63 => (Ci (hg10 i63)))]), (Ho true (symRows true 3 y5 soq26 scq27)), (Hc b28 33 [(Cs 8 Oq20 y5.1 Cq23), (Cs 9 Aq21 x.2 Dq24), (Cs 10 Hq22 x.4 Ee25)]), (Hr true ro45 3 1 11 rc46 [(fun i64 => (Ci (cw y i64)))])] [8, 9, 10, 1000003] [(Hr true Oq47 52 2 x.1.1 Cq50 [(fun i65 => (Cs 3 (soq53 i65) (x.1.2 i65) (scq54 i65))), (fun i66 => (Cb (x.1.4 i66)))]), (Hr true Aq48 3 1 x.2 Dq51 [(fun i67 => (Ci (x.3 i67)))]), (Hr true Hq49 3 1 x.4 Ee52 [(fun i68 => (Ci (x.5 i68)))]), (Ho true (symRows true 3 x.1 soq53 scq54))])))))))))))))))))))))))))))) ∧
 ((btw y (0 : Int) (4294967295 : Int)) = false →
 (b28 = b28 ∧
 (b3 = b3 ∧
 (b3 = b3 ∧
 (∃ Oq69 : (Option Addr), (∃ Aq70 : (Option Addr), (∃ Hq71 : (Option Addr), (∃ Cq72 : Nat, (∃ Dq73 : Nat, (∃ Ee74 : Nat, (∃ soq75 : (Nat →
 (Option Addr)), (∃ scq76 : (Nat →
 Nat), ((Wa [(Ws Oq20 y5.1 Cq23), (Ws Aq21 x.2 Dq24), (Ws Hq22 x.4 Ee25)]) = (Wa [(Ws Oq69 x.1.1 Cq72), (Ws Aq70 x.2 Dq73), (Ws Hq71 x.4 Ee74)]) ∧
 (SelS [(Hr false O 0 2 x.1.1 0 [(fun i77 => (Cs 3 (so i77) (x.1.2 i77) (sc i77))), (fun i78 => (Cb (x.1.4 i78)))]), (Hr false A 0 1 x.2 0 [(fun i79 => (Ci (x.3 i79)))]), (Hr false H 0 1 x.4 0 [(fun i80 => (Ci (x.5 i80)))]), (Ho false (symRows false 0 x.1 so (fun x81 => 0))), (Hc b0 37 [(Ci gG), (Ci gB), (Ci gR), (Ci gC)]), (Hc b1 33 [(Cs 0 O x.1.1 C), (Cs 1 A x.2 D), (Cs 2 H x.4 E)]), (Hc b2 70 [(Ci dB), (Ci dR), (Ci dC)]), (Hc b3 33 [(Cs 8 Oq20 y5.1 Cq23), (Cs 9 Aq21 x.2 Dq24), (Cs 10 Hq22 x.4 Ee25)]), (Hr true Oq20 52 2 y5.1 Cq23 [(fun i82 => (Cs 11 (soq26 i82) (y5.2 i82) (scq27 i82))), (fun i83 => (Cb (y5.4 i83)))]), (Hr true Aq21 3 1 x.2 Dq24 [(fun i84 => (Ci (ag9 i84)))]), (Hr true Hq22 3 1 x.4 Ee25 [(fun i85 => (Ci (hg10 i85)))]), (Ho true (symRows true 3 y5 soq26 scq27)), (Hc b28 33 [(Cs 8 Oq20 y5.1 Cq23), (Cs 9 Aq21 x.2 Dq24), (Cs 10 Hq22 x.4 Ee25)])] [8, 9, 10, 11] [(Hr true Oq69 52 2 x.1.1 Cq72 [(fun i86 => (Cs 3 (soq75 i86) (x.1.2 i86) (scq76 i86))), (fun i87 => (Cb (x.1.4 i87)))]), (Hr true Aq70 3 1 x.2 Dq73 [(fun i88 => (Ci (x.3 i88)))]), (Hr true Hq71 3 1 x.4 Ee74 [(fun i89 => (Ci (x.5 i89)))]), (Ho true (symRows true 3 x.1 soq75 scq76))])))))))))))))))) ∧
 ((adOk gG gB gR gC dB dR dC) = false →
 (b28 = b28 ∧
 (b3 = b3 ∧
 (b3 = b3 ∧
 (∃ Oq90 : (Option Addr), (∃ Aq91 : (Option Addr), (∃ Hq92 : (Option Addr), (∃ Cq93 : Nat, (∃ Dq94 : Nat, (∃ Ee95 : Nat, (∃ soq96 : (Nat →
 (Option Addr)), (∃ scq97 : (Nat →
 Nat), ((Wa [(Ws Oq20 y5.1 Cq23), (Ws Aq21 x.2 Dq24), (Ws Hq22 x.4 Ee25)]) = (Wa [(Ws Oq90 x.1.1 Cq93), (Ws Aq91 x.2 Dq94), (Ws Hq92 x.4 Ee95)]) ∧
 (SelS [(Hr false O 0 2 x.1.1 0 [(fun i98 => (Cs 3 (so i98) (x.1.2 i98) (sc i98))), (fun i99 => (Cb (x.1.4 i99)))]), (Hr false A 0 1 x.2 0 [(fun i100 => (Ci (x.3 i100)))]), (Hr false H 0 1 x.4 0 [(fun i101 => (Ci (x.5 i101)))]), (Ho false (symRows false 0 x.1 so (fun x102 => 0))), (Hc b0 37 [(Ci gG), (Ci gB), (Ci gR), (Ci gC)]), (Hc b1 33 [(Cs 0 O x.1.1 C), (Cs 1 A x.2 D), (Cs 2 H x.4 E)]), (Hc b2 70 [(Ci dB), (Ci dR), (Ci dC)]), (Hc b3 33 [(Cs 8 Oq20 y5.1 Cq23), (Cs 9 Aq21 x.2 Dq24), (Cs 10 Hq22 x.4 Ee25)]), (Hr true Oq20 52 2 y5.1 Cq23 [(fun i103 => (Cs 11 (soq26 i103) (y5.2 i103) (scq27 i103))), (fun i104 => (Cb (y5.4 i104)))]), (Hr true Aq21 3 1 x.2 Dq24 [(fun i105 => (Ci (ag9 i105)))]), (Hr true Hq22 3 1 x.4 Ee25 [(fun i106 => (Ci (hg10 i106)))]), (Ho true (symRows true 3 y5 soq26 scq27)), (Hc b28 33 [(Cs 8 Oq20 y5.1 Cq23), (Cs 9 Aq21 x.2 Dq24), (Cs 10 Hq22 x.4 Ee25)])] [8, 9, 10, 11] [(Hr true Oq90 52 2 x.1.1 Cq93 [(fun i107 => (Cs 3 (soq96 i107) (x.1.2 i107) (scq97 i107))), (fun i108 => (Cb (x.1.4 i108)))]), (Hr true Aq91 3 1 x.2 Dq94 [(fun i109 => (Ci (x.3 i109)))]), (Hr true Hq92 3 1 x.4 Ee95 [(fun i110 => (Ci (x.5 i110)))]), (Ho true (symRows true 3 x.1 soq96 scq97))])))))))))))))))))) ∧
 ((arrOk gG gB gR gC (AD.mk y30 x.2 ag34 x.4 hg35)) = false →
 (b28 = b28 ∧
 (b3 = b3 ∧
 (b3 = b3 ∧
 (∃ Oq111 : (Option Addr), (∃ Aq112 : (Option Addr), (∃ Hq113 : (Option Addr), (∃ Cq114 : Nat, (∃ Dq115 : Nat, (∃ Ee116 : Nat, (∃ soq117 : (Nat →
 (Option Addr)), (∃ scq118 : (Nat →
 Nat), ((Wa [(Ws Oq20 y5.1 Cq23), (Ws Aq21 x.2 Dq24), (Ws Hq22 x.4 Ee25)]) = (Wa [(Ws Oq111 x.1.1 Cq114), (Ws Aq112 x.2 Dq115), (Ws Hq113 x.4 Ee116)]) ∧
 (SelS [(Hr false O 0 2 x.1.1 0 [(fun i119 => (Cs 3 (so i119) (x.1.2 i119) (sc i119))), (fun i120 => (Cb (x.1.4 i120)))]), (Hr false A 0 1 x.2 0 [(fun i121 => (Ci (x.3 i121)))]), (Hr false H 0 1 x.4 0 [(fun i122 => (Ci (x.5 i122)))]), (Ho false (symRows false 0 x.1 so (fun x123 => 0))), (Hc b0 37 [(Ci gG), (Ci gB), (Ci gR), (Ci gC)]), (Hc b1 33 [(Cs 0 O x.1.1 C), (Cs 1 A x.2 D), (Cs 2 H x.4 E)]), (Hc b2 70 [(Ci dB), (Ci dR), (Ci dC)]), (Hc b3 33 [(Cs 8 Oq20 y5.1 Cq23), (Cs 9 Aq21 x.2 Dq24), (Cs 10 Hq22 x.4 Ee25)]), (Hr true Oq20 52 2 y5.1 Cq23 [(fun i124 => (Cs 11 (soq26 i124) (y5.2 i124) (scq27 i124))), (fun i125 => (Cb (y5.4 i125)))]), (Hr true Aq21 3 1 x.2 Dq24 [(fun i126 => (Ci (ag9 i126)))]), (Hr true Hq22 3 1 x.4 Ee25 [(fun i127 => (Ci (hg10 i127)))]), (Ho true (symRows true 3 y5 soq26 scq27)), (Hc b28 33 [(Cs 8 Oq20 y5.1 Cq23), (Cs 9 Aq21 x.2 Dq24), (Cs 10 Hq22 x.4 Ee25)])] [8, 9, 10, 11] [(Hr true Oq111 52 2 x.1.1 Cq114 [(fun i128 => (Cs 3 (soq117 i128) (x.1.2 i128) (scq118 i128))), (fun i129 => (Cb (x.1.4 i129)))]), (Hr true Aq112 3 1 x.2 Dq115 [(fun i130 => (Ci (x.3 i130)))]), (Hr true Hq113 3 1 x.4 Ee116 [(fun i131 => (Ci (x.5 i131)))]), (Ho true (symRows true 3 x.1 soq117 scq118))]))))))))))))))))))))))))))))))))))))))))))))))))))) := by kernel_rfl
theorem putSN_any (x : AD) (O A H : Option Addr) (C D E : Nat) (so : Nat → Option Addr) (sc : Nat → Nat) (gG gB gR gC : Int) (dB dR dC : Int) (y : Int) (w : World) (hA : SeenA w x O A H so sc) (hcap : capA x) (hst : putOk gG gB gR gC dB dR dC x y = false) : Calls Try.prog 33 #[.agg #[.int .i64 gG, .int .i64 gB, .int .i64 gR, .int .i64 gC], arrV x O A H C D E, .agg #[.int .i64 dB, .int .i64 dR, .int .i64 dC], .int .i64 y] w fun e w' => ∃ (Oq Aq Hq : Option Addr) (Cq Dq Ee : Nat) (soq : Nat → Option Addr) (scq : Nat → Nat), e = .returned (arrV x Oq Aq Hq Cq Dq Ee) ∧ HS ⟨w, fun _ => False⟩ (arrO 0 x Oq Aq Hq Cq Dq Ee soq scq) w' := by
  refine fnB (tb := [(45, sCpA), (46, sArrOk), (83, sAdOk), (74, sIwS), (48, sAdIx), (84, sEnl)]) ⟨sCpA_S, sArrOk_S, sAdOk_S, sIwS_ok, sAdIx_S, sEnl_S, trivial⟩ Try.func33 (@Eq.mpr _ _ (putSN_T x O A H C D E so sc gG gB gR gC dB dR dC y) ?_) (HS.seenAll (fun _ => False) _ (hA.all 0 seenC_nil)) (fun v ch' w' ⟨Oq, Aq, Hq, Cq, Dq, Ee, soq, scq, hv, hc⟩ hs => ⟨Oq, Aq, Hq, Cq, Dq, Ee, soq, scq, by rw [hv], hc.hs hs⟩)
  clear hA
  have hl := lenA_of hcap
  have hc11 : capC 11 := by show 11 ≤ 2097152; omega
  cases hok : arrOk gG gB gR gC x
  · skip
    repeat' (first
      | with_reducible exact rfl
      | exact True.intro
      | with_reducible assumption
      | exact hl
      | exact hcap
      | (intro h; exfalso; rw [hok] at h; simp at h; done)
      | exact (by refine ⟨?_, rfl⟩; repeat' (first | exact True.intro | exact symRows_push | exact rfl | refine And.intro ?_ ?_ | (intro i hi; show _ = _; with_reducible rfl) | (intro i hi; show _ = _; rfl) | (intro i hi; show _ = _; simp only [SC.den]; split <;> rfl)))
      | refine And.intro ?_ ?_
      | apply Exists.intro
      | (intro h; exfalso; simp at h; done)
      | (intro h; replace h := of_decide_eq_true h; first | (exfalso; omega) | skip)
      | (intro h; replace h := of_decide_eq_false h; first | (exfalso; omega) | skip)
      | (intro i hi; with_reducible exact rfl)
      | intro _
      | omega
      | exact rfl)
  · cases had : adOk gG gB gR gC dB dR dC
    · skip
      repeat' (first
        | with_reducible exact rfl
        | exact True.intro
        | with_reducible assumption
        | exact hl
        | exact hcap
        | (intro h; exfalso; rw [hok] at h; simp at h; done)
        | (intro h; exfalso; rw [had] at h; simp at h; done)
        | exact (by refine ⟨?_, rfl⟩; repeat' (first | exact True.intro | exact symRows_push | exact rfl | refine And.intro ?_ ?_ | (intro i hi; show _ = _; with_reducible rfl) | (intro i hi; show _ = _; rfl) | (intro i hi; show _ = _; simp only [SC.den]; split <;> rfl)))
        | refine And.intro ?_ ?_
        | apply Exists.intro
        | (intro h; exfalso; simp at h; done)
        | (intro h; replace h := of_decide_eq_true h; first | (exfalso; omega) | skip)
        | (intro h; replace h := of_decide_eq_false h; first | (exfalso; omega) | skip)
        | (intro i hi; with_reducible exact rfl)
        | intro _
        | omega
        | exact rfl)
    · have hb : btw y 0 4294967295 = false := by simpa [putOk, hok, had] using hst
      repeat' (first
        | with_reducible exact rfl
        | exact True.intro
        | with_reducible assumption
        | exact hl
        | exact hcap
        | (intro h; exfalso; rw [hok] at h; simp at h; done)
        | (intro h; exfalso; rw [had] at h; simp at h; done)
        | (intro h; exfalso; rw [hb] at h; simp at h; done)
        | exact (by refine ⟨?_, rfl⟩; repeat' (first | exact True.intro | exact symRows_push | exact rfl | refine And.intro ?_ ?_ | (intro i hi; show _ = _; with_reducible rfl) | (intro i hi; show _ = _; rfl) | (intro i hi; show _ = _; simp only [SC.den]; split <;> rfl)))
        | refine And.intro ?_ ?_
        | apply Exists.intro
        | (intro h; exfalso; simp at h; done)
        | (intro h; replace h := of_decide_eq_true h; first | (exfalso; omega) | skip)
        | (intro h; replace h := of_decide_eq_false h; first | (exfalso; omega) | skip)
        | (intro i hi; with_reducible exact rfl)
        | intro _
        | omega
        | exact rfl)
theorem putI_all (x : AD) (O A H : Option Addr) (C D E : Nat) (so : Nat → Option Addr) (sc : Nat → Nat) (gG gB gR gC : Int) (dB dR dC : Int) (y : Int) (w : World) (hA : SeenA w x O A H so sc) (hcap : capA x) : Calls Try.prog 77 #[.agg #[.int .i64 gG, .int .i64 gB, .int .i64 gR, .int .i64 gC], arrV x O A H C D E, .agg #[.int .i64 dB, .int .i64 dR, .int .i64 dC], .int .i64 y] w fun e w' => ∃ (Oq Aq Hq : Option Addr) (Cq Dq Ee : Nat) (soq : Nat → Option Addr) (scq : Nat → Nat), e = .returned (arrV (putA gG gB gR gC dB dR dC x y) Oq Aq Hq Cq Dq Ee) ∧ HS ⟨w, fun _ => False⟩ (arrO 0 (putA gG gB gR gC dB dR dC x y) Oq Aq Hq Cq Dq Ee soq scq) w' := by
  refine putI_any x O A H C D E so sc gG gB gR gC dB dR dC y (putA gG gB gR gC dB dR dC x y) w hA hcap (fun hb => ?_) fun hb => ?_
  · cases h : putOk gG gB gR gC dB dR dC x y
    · rw [stA_no h hb]; simp [putA, h]
    · rw [stA_put h]; simp [putA, h]
  · have h : putOk gG gB gR gC dB dR dC x y = false := by simp [putOk, hb]
    simp [putA, h]
theorem putS_all (x : AD) (O A H : Option Addr) (C D E : Nat) (so : Nat → Option Addr) (sc : Nat → Nat) (gG gB gR gC : Int) (dB dR dC : Int) (y : Int) (w : World) (hA : SeenA w x O A H so sc) (hcap : capA x) : Calls Try.prog 33 #[.agg #[.int .i64 gG, .int .i64 gB, .int .i64 gR, .int .i64 gC], arrV x O A H C D E, .agg #[.int .i64 dB, .int .i64 dR, .int .i64 dC], .int .i64 y] w fun e w' => ∃ (Oq Aq Hq : Option Addr) (Cq Dq Ee : Nat) (soq : Nat → Option Addr) (scq : Nat → Nat), e = .returned (arrV (putA gG gB gR gC dB dR dC x y) Oq Aq Hq Cq Dq Ee) ∧ HS ⟨w, fun _ => False⟩ (arrO 0 (putA gG gB gR gC dB dR dC x y) Oq Aq Hq Cq Dq Ee soq scq) w' := by
  cases h : putOk gG gB gR gC dB dR dC x y
  · have e : putA gG gB gR gC dB dR dC x y = x := by simp [putA, h]
    rw [e]
    exact putSN_any x O A H C D E so sc gG gB gR gC dB dR dC y w hA hcap h
  · have e : putA gG gB gR gC dB dR dC x y = setA x (ixN gG gB gR gC dB dR dC) 11 (fun i => cw y i) false := by simp [putA, h]
    rw [e]
    exact putSY_any x O A H C D E so sc gG gB gR gC dB dR dC y w hA hcap h
def sPut : Sm := fun args ch kk =>
  match args with
  | [.a (.agg [c0, c1, c2, c3]), .a c, .a (.agg [e0, e1, e2]), .a (.c f0)] =>
    match ints [c0, c1, c2, c3, e0, e1, e2, f0] with
    | some [gG, gB, gR, gC, dB, dR, dC, y] => rdA ch c fun x => capA x ∧ ∀ (Oq Aq Hq : Option Addr) (Cq Dq Ee : Nat) (soq : Nat → Option Addr) (scq : Nat → Nat), kk (.a (arrS ch.length (putA gG gB gR gC dB dR dC x y) Oq Aq Hq Cq Dq Ee)) (ch ++ arrO ch.length ((putA gG gB gR gC dB dR dC x y)) Oq Aq Hq Cq Dq Ee soq scq) []
    | _ => False
  | _ => False
theorem sPut_I : SmOK Try.prog 77 sPut := by
  refine smN Try.call77 fun args ch kk w X h0 hs => ?_
  unfold sPut at h0
  split at h0
  · rename_i c0 c1 c2 c3 c e0 e1 e2 f0
    split at h0
    · rename_i gG gB gR gC dB dR dC y hi
      obtain ⟨q0, hi⟩ := ints_cons hi
      obtain ⟨q1, hi⟩ := ints_cons hi
      obtain ⟨q2, hi⟩ := ints_cons hi
      obtain ⟨q3, hi⟩ := ints_cons hi
      obtain ⟨q4, hi⟩ := ints_cons hi
      obtain ⟨q5, hi⟩ := ints_cons hi
      obtain ⟨q6, hi⟩ := ints_cons hi
      obtain ⟨q7, hi⟩ := ints_cons hi
      obtain ⟨x, O, A, H, C, D, E, so, sc, e, hA, hcond, h1⟩ := rdA_ok h0 hs
      have e20 : SA.den (.agg [c0, c1, c2, c3]) = .agg #[.int .i64 gG, .int .i64 gB, .int .i64 gR, .int .i64 gC] := by simp only [SA.den, den_c, List.map_cons, List.map_nil, q0, q1, q2, q3]
      have e21 : SA.den (.agg [e0, e1, e2]) = .agg #[.int .i64 dB, .int .i64 dR, .int .i64 dC] := by simp only [SA.den, den_c, List.map_cons, List.map_nil, q4, q5, q6]
      have e22 : SA.den (.c f0) = .int .i64 y := by simp only [SA.den, den_c, List.map_cons, List.map_nil, q7]
      simp only [List.map_cons, List.map_nil, den_a, e, e20, e21, e22]
      refine Calls.mono (putI_all x O A H C D E so sc gG gB gR gC dB dR dC y w hA hcond) fun e w' ⟨Oq, Aq, Hq, Cq, Dq, Ee, soq, scq, he, hs'⟩ => ⟨.a (arrS ch.length (putA gG gB gR gC dB dR dC x y) Oq Aq Hq Cq Dq Ee), _, by rw [he]; rfl, arrO_at hs', rfl, h1 Oq Aq Hq Cq Dq Ee soq scq⟩
    · exact h0.elim
  · exact h0.elim
theorem sPut_S : SmOK Try.prog 33 sPut := by
  refine smN Try.call33 fun args ch kk w X h0 hs => ?_
  unfold sPut at h0
  split at h0
  · rename_i c0 c1 c2 c3 c e0 e1 e2 f0
    split at h0
    · rename_i gG gB gR gC dB dR dC y hi
      obtain ⟨q0, hi⟩ := ints_cons hi
      obtain ⟨q1, hi⟩ := ints_cons hi
      obtain ⟨q2, hi⟩ := ints_cons hi
      obtain ⟨q3, hi⟩ := ints_cons hi
      obtain ⟨q4, hi⟩ := ints_cons hi
      obtain ⟨q5, hi⟩ := ints_cons hi
      obtain ⟨q6, hi⟩ := ints_cons hi
      obtain ⟨q7, hi⟩ := ints_cons hi
      obtain ⟨x, O, A, H, C, D, E, so, sc, e, hA, hcond, h1⟩ := rdA_ok h0 hs
      have e20 : SA.den (.agg [c0, c1, c2, c3]) = .agg #[.int .i64 gG, .int .i64 gB, .int .i64 gR, .int .i64 gC] := by simp only [SA.den, den_c, List.map_cons, List.map_nil, q0, q1, q2, q3]
      have e21 : SA.den (.agg [e0, e1, e2]) = .agg #[.int .i64 dB, .int .i64 dR, .int .i64 dC] := by simp only [SA.den, den_c, List.map_cons, List.map_nil, q4, q5, q6]
      have e22 : SA.den (.c f0) = .int .i64 y := by simp only [SA.den, den_c, List.map_cons, List.map_nil, q7]
      simp only [List.map_cons, List.map_nil, den_a, e, e20, e21, e22]
      refine Calls.mono (putS_all x O A H C D E so sc gG gB gR gC dB dR dC y w hA hcond) fun e w' ⟨Oq, Aq, Hq, Cq, Dq, Ee, soq, scq, he, hs'⟩ => ⟨.a (arrS ch.length (putA gG gB gR gC dB dR dC x y) Oq Aq Hq Cq Dq Ee), _, by rw [he]; rfl, arrO_at hs', rfl, h1 Oq Aq Hq Cq Dq Ee soq scq⟩
    · exact h0.elim
  · exact h0.elim
end Go.Proofs.Ytddeinpnadfgmaa

/-
  Lines scrubbed.
-/
import Derived.Test.YtddeinpnadfgmaaSxM6
namespace Go.Proofs.Ytddeinpnadfgmaa
set_option linter.unusedVariables false
set_option linter.unusedSimpArgs false
open Go.RowKit
set_option maxRecDepth 100000
set_option maxHeartbeats 8000000

def slOk (gG gB gR gC : Int) (n : Int) (x : AD) : Bool := arrOk gG gB gR gC x && atOk gG gB gR gC n
def slA (gG gB gR gC : Int) (n : Int) (x : AD) : AD := if slOk gG gB gR gC n x = true then getN x (tn n) else x
def slX (gG gB gR gC : Int) (n : Int) (x : AD) : Int := if slOk gG gB gR gC n x = true then getX x (tn n) else 0
def slC (gG gB gR gC : Int) (n : Int) (x : AD) : Int := if slOk gG gB gR gC n x = true then getC x (tn n) else 2
theorem at_in {gG gB gR gC n : Int} {x : AD} (h : arrOk gG gB gR gC x = true) (h2 : atOk gG gB gR gC n = true) : (0 ≤ n ∧ n < (x.c.n : Int)) ∧ n.toNat < x.c.n ∧ btw n 0 (lineN gG gB gR gC - 1) = true := by
  simp only [atOk, Bool.and_eq_true] at h2
  have h3 := (arrOk_facts h).2.1
  have h4 := btw_f h2.2
  refine ⟨⟨h4.1, by omega⟩, by omega, h2.2⟩
theorem at_no {gG gB gR gC n : Int} {x : AD} (h : arrOk gG gB gR gC x = true) (h2 : atOk gG gB gR gC n = false) : btw n 0 (lineN gG gB gR gC - 1) = false := by
  have hg := (arrOk_facts h).1
  simpa [atOk, hg] using h2
theorem line_rng {gG gB gR gC : Int} : 0 ≤ lineN gG gB gR gC ∧ lineN gG gB gR gC ≤ 1024 := by
  cases h : geoB gG gB gR gC
  · rw [(line_not h).1]; omega
  · have := (geo_row h).2
    simp only [lineN, h, if_true]
    omega
theorem slIP_T (x : AD) (O A H : Option Addr) (C D E : Nat) (so : Nat → Option Addr) (sc : Nat → Nat) (gG gB gR gC : Int) (n : Int) (p : Nat → Bool) (gx gc : Int) : (exFn Try.prog {tb := [(53, sCpA), (52, sArrOk), (67, sAdAt), (109, sFet)]} 400 Try.f86 ([.a (.agg [.int gG, .int gB, .int gR, .int gC]), .a (arrS 0 x O A H C D E), .a (.c (.int n))]) (arrR 0 x O A H so sc) (fun v ch => ∃ (Oq Aq Hq : Option Addr) (Cq Dq Ee : Nat) (soq : Nat → Option Addr) (scq : Nat → Nat), v.den = .tuple #[arrV (poA x p) Oq Aq Hq Cq Dq Ee, .int .i64 gc] ∧ SelS ch (idsArr v ch) (arrO 0 (poA x p) Oq Aq Hq Cq Dq Ee soq scq))) = (
  (∀ b0 : Nat,
 (∀ b1 : Nat,
 (∀ b2 : Nat,
 (b1 = b1 ∧
 (∃ t3 : Nat, (∃ y4 : CD, (∃ so5 : (Nat →
 (Option Addr)), (∃ sc6 : (Nat →
 Nat), (∃ sd7 : (Nat →
 Nat), (∃ ag8 : (Nat →
 Int), (∃ hg9 : (Nat →
 Int), (((symRows false 0 x.1 so (fun x10 => 0)) = (symRows false t3 y4 so5 sd7) ∧
 ([(fun i11 => (Cs 3 (so i11) (x.1.2 i11) (sc i11))), (fun i12 => (Cb (x.1.4 i12)))] = [(fun i13 => (Cs 3 (so5 i13) (y4.2 i13) (sc6 i13))), (fun i14 => (Cb (y4.4 i14)))] ∧
 (O = O ∧
 (x.1.1 = x.1.1 ∧
 (x.1.1 = y4.1 ∧
 (A = A ∧
 (x.2 = x.2 ∧
 ([(fun i15 => (Ci (x.3 i15)))] = [(fun i16 => (Ci (ag8 i16)))] ∧
 (H = H ∧
 (x.4 = x.4 ∧
 [(fun i17 => (Ci (x.5 i17)))] = [(fun i18 => (Ci (hg9 i18)))])))))))))) ∧
 ((capA (AD.mk y4 x.2 ag8 x.4 hg9)) ∧
 (∀ Oq19 : (Option Addr),
 (∀ Aq20 : (Option Addr),
 (∀ Hq21 : (Option Addr),
 (∀ Cq22 : Nat,
 (∀ Dq23 : Nat,
 (∀ Ee24 : Nat,
 (∀ soq25 : (Nat →
 (Option Addr)),
 (∀ scq26 : (Nat →
 Nat),
 (∀ b27 : Nat,
 (b27 = b27 ∧
 (b0 = b0 ∧
 (∀ b28 : Nat,
 (b28 = b28 ∧
 (((!(atOk gG gB gR gC n)) = false →
 (b0 = b0 ∧
 (b1 = b1 ∧
 (∃ t29 : Nat, (∃ y30 : CD, (∃ so31 : (Nat →
 (Option Addr)), (∃ sc32 : (Nat →
 Nat), (∃ sd33 : (Nat →
 Nat), (∃ ag34 : (Nat →
 Int), (∃ hg35 : (Nat →
 Int), (((symRows false 0 x.1 so (fun x36 => 0)) = (symRows false t29 y30 so31 sd33) ∧
 ([(fun i37 => (Cs 3 (so i37) (x.1.2 i37) (sc i37))), (fun i38 => (Cb (x.1.4 i38)))] = [(fun i39 => (Cs 3 (so31 i39) (y30.2 i39) (sc32 i39))), (fun i40 => (Cb (y30.4 i40)))] ∧
 (O = O ∧
 (x.1.1 = x.1.1 ∧
 (x.1.1 = y30.1 ∧
 (A = A ∧
 (x.2 = x.2 ∧
 ([(fun i41 => (Ci (x.3 i41)))] = [(fun i42 => (Ci (ag34 i42)))] ∧
 (H = H ∧
 (x.4 = x.4 ∧
 [(fun i43 => (Ci (x.5 i43)))] = [(fun i44 => (Ci (hg35 i44)))])))))))))) ∧
 ((lenA (AD.mk y30 x.2 ag34 x.4 hg35)) ∧
 (((!(arrOk gG gB gR gC (AD.mk y30 x.2 ag34 x.4 hg35))) = true →
 (b27 = b27 ∧
 (b2 = b2 ∧
 (b2 = b2 ∧
 (∃ Oq45 : (Option Addr), (∃ Aq46 : (Option Addr), (∃ Hq47 : (Option Addr), (∃ Cq48 : Nat, (∃ Dq49 : Nat, (∃ Ee50 : Nat, (∃ soq51 : (Nat →
 (Option Addr)), (∃ scq52 : (Nat →
 Nat), ((Wu [(Wa [(Ws Oq19 y4.1 Cq22), (Ws Aq20 x.2 Dq23), (Ws Hq21 x.4 Ee24)]), (Wi 2)]) = (Wu [(Wa [(Ws Oq45 ((poA x p)).1.1 Cq48), (Ws Aq46 ((poA x p)).2 Dq49), (Ws Hq47 ((poA x p)).4 Ee50)]), (Wi gc)]) ∧
 (SelS [(Hr false O 0 2 x.1.1 0 [(fun i53 => (Cs 3 (so i53) (x.1.2 i53) (sc i53))), (fun i54 => (Cb (x.1.4 i54)))]), (Hr false A 0 1 x.2 0 [(fun i55 => (Ci (x.3 i55)))]), (Hr false H 0 1 x.4 0 [(fun i56 => (Ci (x.5 i56)))]), (Ho false (symRows false 0 x.1 so (fun x57 => 0))), (Hc b0 37 [(Ci gG), (Ci gB), (Ci gR), (Ci gC)]), (Hc b1 33 [(Cs 0 O x.1.1 C), (Cs 1 A x.2 D), (Cs 2 H x.4 E)]), (Hc b2 33 [(Cs 7 Oq19 y4.1 Cq22), (Cs 8 Aq20 x.2 Dq23), (Cs 9 Hq21 x.4 Ee24)]), (Hr true Oq19 52 2 y4.1 Cq22 [(fun i58 => (Cs 10 (soq25 i58) (y4.2 i58) (scq26 i58))), (fun i59 => (Cb (y4.4 i59)))]), (Hr true Aq20 3 1 x.2 Dq23 [(fun i60 => (Ci (ag8 i60)))]), (Hr true Hq21 3 1 x.4 Ee24 [(fun i61 => (Ci (hg9 i61)))]), (Ho true (symRows true 3 y4 soq25 scq26)), (Hc b27 33 [(Cs 7 Oq19 y4.1 Cq22), (Cs 8 Aq20 x.2 Dq23), (Cs 9 Hq21 x.4 Ee24)]), (Hc b28 70 [(Ci (atB gG gB gR gC n)), (Ci (atR gG gB gR gC n)), (Ci (atC gG gB gR gC n))])] [7, 8, 9, 10] [(Hr true Oq45 52 2 ((poA x p)).1.1 Cq48 [(fun i62 => (Cs 3 (soq51 i62) (((poA x p)).1.2 i62) (scq52 i62))), (fun i63 => (Cb (((poA x p)).1.4 i63)))]), (Hr true Aq46 3 1 ((poA x p)).2 Dq49 [(fun i64 => (Ci (((poA x p)).3 i64)))]), (Hr true Hq47 3 1 ((poA x p)).4 Ee50 [(fun i65 => (Ci (((poA x p)).5 i65)))]), (Ho true (symRows true 3 ((poA x p)).1 soq51 scq52))])))))))))))))) ∧
 ((!(arrOk gG gB gR gC (AD.mk y30 x.2 ag34 x.4 hg35))) = false →
 (b27 = b27 ∧
 (Oq19 = Oq19 ∧
 (y4.1 = y4.1 ∧
 ((0 ≤ n ∧ n < ((y4.1 : Nat) : Int)) ∧
 ((Oq19 = Oq19 ∧
 (Int.toNat n) < y4.1) ∧
 (Oq19 = Oq19 ∧
 ((Int.toNat n) < y4.1 ∧
 (Oq19 = Oq19 ∧
 ((Int.toNat n) < y4.1 ∧
 (((y4.4 (Int.toNat n)) = true →
 (b27 = b27 ∧
 (b2 = b2 ∧
 (b2 = b2 ∧
 (∃ Oq66 : (Option Addr), (∃ Aq67 : (Option Addr), (∃ Hq68 : (Option Addr), (∃ Cq69 : Nat, (∃ Dq70 : Nat, (∃ Ee71 : Nat, (∃ soq72 : (Nat →
 (Option Addr)), (∃ scq73 : (Nat →
 Nat), ((Wu [(Wa [(Ws Oq19 y4.1 Cq22), (Ws Aq20 x.2 Dq23), (Ws Hq21 x.4 Ee24)]), (Wi 2)]) = (Wu [(Wa [(Ws Oq66 ((poA x p)).1.1 Cq69), (Ws Aq67 ((poA x p)).2 Dq70), (Ws Hq68 ((poA x p)).4 Ee71)]), (Wi gc)]) ∧
 (SelS [(Hr false O 0 2 x.1.1 0 [(fun i74 => (Cs 3 (so i74) (x.1.2 i74) (sc i74))), (fun i75 => (Cb (x.1.4 i75)))]), (Hr false A 0 1 x.2 0 [(fun i76 => (Ci (x.3 i76)))]), (Hr false H 0 1 x.4 0 [(fun i77 => (Ci (x.5 i77)))]), (Ho false (symRows false 0 x.1 so (fun x78 => 0))), (Hc b0 37 [(Ci gG), (Ci gB), (Ci gR), (Ci gC)]), (Hc b1 33 [(Cs 0 O x.1.1 C), (Cs 1 A x.2 D), (Cs 2 H x.4 E)]), (Hc b2 33 [(Cs 7 Oq19 y4.1 Cq22), (Cs 8 Aq20 x.2 Dq23), (Cs 9 Hq21 x.4 Ee24)]), (Hr true Oq19 52 2 y4.1 Cq22 [(fun i79 => (Cs 10 (soq25 i79) (y4.2 i79) (scq26 i79))), (fun i80 => (Cb (y4.4 i80)))]), (Hr true Aq20 3 1 x.2 Dq23 [(fun i81 => (Ci (ag8 i81)))]), (Hr true Hq21 3 1 x.4 Ee24 [(fun i82 => (Ci (hg9 i82)))]), (Ho true (symRows true 3 y4 soq25 scq26)), (Hc b27 33 [(Cs 7 Oq19 y4.1 Cq22), (Cs 8 Aq20 x.2 Dq23), (Cs 9 Hq21 x.4 Ee24)]), (Hc b28 70 [(Ci (atB gG gB gR gC n)), (Ci (atR gG gB gR gC n)), (Ci (atC gG gB gR gC n))])] [7, 8, 9, 10] [(Hr true Oq66 52 2 ((poA x p)).1.1 Cq69 [(fun i83 => (Cs 3 (soq72 i83) (((poA x p)).1.2 i83) (scq73 i83))), (fun i84 => (Cb (((poA x p)).1.4 i84)))]), (Hr true Aq67 3 1 ((poA x p)).2 Dq70 [(fun i85 => (Ci (((poA x p)).3 i85)))]), (Hr true Hq68 3 1 ((poA x p)).4 Ee71 [(fun i86 => (Ci (((poA x p)).5 i86)))]), (Ho true (symRows true 3 ((poA x p)).1 soq72 scq73))])))))))))))))) ∧
 ((y4.4 (Int.toNat n)) = false →
 ((Oq19 = Oq19 ∧
 (Int.toNat n) < y4.1) ∧
 (Oq19 = Oq19 ∧
 ((Int.toNat n) < y4.1 ∧
 (Oq19 = Oq19 ∧
 ((Int.toNat n) < y4.1 ∧
 (∃ t87 : Nat, (∃ y88 : CD, (∃ so89 : (Nat →
 (Option Addr)), (∃ sc90 : (Nat →
 Nat), (∃ i91 : Nat, (((symRows true 3 y4 soq25 scq26) = (symRows true t87 y88 so89 sc90) ∧
 ((soq25 (Int.toNat n)) = (so89 i91) ∧
 ((y4.2 (Int.toNat n)) = (y88.2 i91) ∧
 i91 < y88.1))) ∧
 (((y4.2 (Int.toNat n)) = 11 ∧
 (symB 11 (y88.3 i91) (11 : Int)) = true) ∧
 (∀ ro92 : (Option Addr),
 (∀ rc93 : Nat,
 ((Oq19 = Oq19 ∧
 (Int.toNat n) < y4.1) ∧
 (Oq19 = Oq19 ∧
 ((Int.toNat n) < y4.1 ∧
 (Oq19 = Oq19 ∧
 ((Int.toNat n) < y4.1 ∧
 (∃ t94 : Nat, (∃ y95 : CD, (∃ so96 : (Nat →
 (Option Addr)), (∃ sc97 : (Nat →
 Nat), (∃ i98 : Nat, (((symRows true 3 y4 soq25 scq26) = (symRows true t94 y95 so96 sc97) ∧
 ((soq25 (Int.toNat n)) = (so96 i98) ∧
 ((y4.2 (Int.toNat n)) = (y95.2 i98) ∧
 i98 < y95.1))) ∧
 (((y4.2 (Int.toNat n)) = 11 ∧
 (symB 11 (y95.3 i98) (11 : Int)) = true) ∧
 ((((corC (y95.3 i98)) == (1 : Int)) = true →
 ((Oq19 = Oq19 ∧
 (Int.toNat n) < y4.1) ∧
 (Oq19 = Oq19 ∧
 ((Int.toNat n) < y4.1 ∧
 (Oq19 = Oq19 ∧
 ((Int.toNat n) < y4.1 ∧
 (b27 = b27 ∧
 (b2 = b2 ∧
 (b2 = b2 ∧
 (∃ Oq99 : (Option Addr), (∃ Aq100 : (Option Addr), (∃ Hq101 : (Option Addr), (∃ Cq102 : Nat, (∃ Dq103 : Nat, (∃ Ee104 : Nat, (∃ soq105 : (Nat →
 (Option Addr)), (∃ scq106 : (Nat →
 Nat), ((Wu [(Wa [(Ws Oq19 y4.1 Cq22), (Ws Aq20 x.2 Dq23), (Ws Hq21 x.4 Ee24)]), (Wi (corC (y95.3 i98)))]) = (Wu [(Wa [(Ws Oq99 ((poA x p)).1.1 Cq102), (Ws Aq100 ((poA x p)).2 Dq103), (Ws Hq101 ((poA x p)).4 Ee104)]), (Wi gc)]) ∧
 (SelS [(Hr false O 0 2 x.1.1 0 [(fun i107 => (Cs 3 (so i107) (x.1.2 i107) (sc i107))), (fun i108 => (Cb (x.1.4 i108)))]), (Hr false A 0 1 x.2 0 [(fun i109 => (Ci (x.3 i109)))]), (Hr false H 0 1 x.4 0 [(fun i110 => (Ci (x.5 i110)))]), (Ho false (symRows false 0 x.1 so (fun x111 => 0))), (Hc b0 37 [(Ci gG), (Ci gB), (Ci gR), (Ci gC)]), (Hc b1 33 [(Cs 0 O x.1.1 C), (Cs 1 A x.2 D), (Cs 2 H x.4 E)]), (Hc b2 33 [(Cs 7 Oq19 y4.1 Cq22), (Cs 8 Aq20 x.2 Dq23), (Cs 9 Hq21 x.4 Ee24)]), (Hr true Oq19 52 2 y4.1 Cq22 [(fun j112 => (Cv (if j112 = (Int.toNat n) then (Ws ro92 11 rc93) else (Ws (soq25 j112) (y4.2 j112) (scq26 j112))))), (fun i113 => (Cb (y4.4 i113)))]), (Hr true Aq20 3 1 x.2 Dq23 [(fun i114 => (Ci (ag8 i114)))]), (Hr true Hq21 3 1 x.4 Ee24 [(fun i115 => (Ci (hg9 i115)))]), (Ho true (symRows true 3 y4 soq25 scq26)), (Hc b27 33 [(Cs 7 Oq19 y4.1 Cq22), (Cs 8 Aq20 x.2 Dq23), (Cs 9 Hq21 x.4 Ee24)]), (Hc b28 70 [(Ci (atB gG gB gR gC n)), (Ci (atR gG gB gR gC n)), (Ci (atC gG gB gR gC n))]), (Hr true ro92 3 1 11 rc93 [(fun i116 => (Ci (corW (y88.3 i91) i116)))])] [7, 8, 9, 1000003] [(Hr true Oq99 52 2 ((poA x p)).1.1 Cq102 [(fun i117 => (Cs 3 (soq105 i117) (((poA x p)).1.2 i117) (scq106 i117))), (fun i118 => (Cb (((poA x p)).1.4 i118)))]), (Hr true Aq100 3 1 ((poA x p)).2 Dq103 [(fun i119 => (Ci (((poA x p)).3 i119)))]), (Hr true Hq101 3 1 ((poA x p)).4 Ee104 [(fun i120 => (Ci (((poA x p)).5 i120)))]), (Ho true (symRows true 3 ((poA x p)).1 soq105 scq106))]))))))))))))))))))) ∧
 (((corC (y95.3 i98)) == (1 : Int)) = false →
 ((((corC (y95.3 i98)) == (2 : Int)) = true →
 ((Oq19 = Oq19 ∧
 (Int.toNat n) < y4.1) ∧
 (Oq19 = Oq19 ∧
 ((Int.toNat n) < y4.1 ∧
 (Oq19 = Oq19 ∧
 ((Int.toNat n) < y4.1 ∧
 (b27 = b27 ∧
 (b2 = b2 ∧
 (b2 = b2 ∧
 (∃ Oq121 : (Option Addr), (∃ Aq122 : (Option Addr), (∃ Hq123 : (Option Addr), (∃ Cq124 : Nat, (∃ Dq125 : Nat, (∃ Ee126 : Nat, (∃ soq127 : (Nat →
 (Option Addr)), (∃ scq128 : (Nat →
 Nat), ((Wu [(Wa [(Ws Oq19 y4.1 Cq22), (Ws Aq20 x.2 Dq23), (Ws Hq21 x.4 Ee24)]), (Wi (corC (y95.3 i98)))]) = (Wu [(Wa [(Ws Oq121 ((poA x p)).1.1 Cq124), (Ws Aq122 ((poA x p)).2 Dq125), (Ws Hq123 ((poA x p)).4 Ee126)]), (Wi gc)]) ∧
 (SelS [(Hr false O 0 2 x.1.1 0 [(fun i129 => (Cs 3 (so i129) (x.1.2 i129) (sc i129))), (fun i130 => (Cb (x.1.4 i130)))]), (Hr false A 0 1 x.2 0 [(fun i131 => (Ci (x.3 i131)))]), (Hr false H 0 1 x.4 0 [(fun i132 => (Ci (x.5 i132)))]), (Ho false (symRows false 0 x.1 so (fun x133 => 0))), (Hc b0 37 [(Ci gG), (Ci gB), (Ci gR), (Ci gC)]), (Hc b1 33 [(Cs 0 O x.1.1 C), (Cs 1 A x.2 D), (Cs 2 H x.4 E)]), (Hc b2 33 [(Cs 7 Oq19 y4.1 Cq22), (Cs 8 Aq20 x.2 Dq23), (Cs 9 Hq21 x.4 Ee24)]), (Hr true Oq19 52 2 y4.1 Cq22 [(fun i134 => (Cs 10 (soq25 i134) (y4.2 i134) (scq26 i134))), (fun j135 => (Cb (if j135 = (Int.toNat n) then true else (y4.4 j135))))]), (Hr true Aq20 3 1 x.2 Dq23 [(fun i136 => (Ci (ag8 i136)))]), (Hr true Hq21 3 1 x.4 Ee24 [(fun i137 => (Ci (hg9 i137)))]), (Ho true (symRows true 3 y4 soq25 scq26)), (Hc b27 33 [(Cs 7 Oq19 y4.1 Cq22), (Cs 8 Aq20 x.2 Dq23), (Cs 9 Hq21 x.4 Ee24)]), (Hc b28 70 [(Ci (atB gG gB gR gC n)), (Ci (atR gG gB gR gC n)), (Ci (atC gG gB gR gC n))]), (Hr true ro92 3 1 11 rc93 [(fun i138 => (Ci (corW (y88.3 i91) i138)))])] [7, 8, 9, 10] [(Hr true Oq121 52 2 ((poA x p)).1.1 Cq124 [(fun i139 => (Cs 3 (soq127 i139) (((poA x p)).1.2 i139) (scq128 i139))), (fun i140 => (Cb (((poA x p)).1.4 i140)))]), (Hr true Aq122 3 1 ((poA x p)).2 Dq125 [(fun i141 => (Ci (((poA x p)).3 i141)))]), (Hr true Hq123 3 1 ((poA x p)).4 Ee126 [(fun i142 => (Ci (((poA x p)).5 i142)))]), (Ho true (symRows true 3 ((poA x p)).1 soq127 scq128))]))))))))))))))))))) ∧
 (((corC (y95.3 i98)) == (2 : Int)) = false →
 (b27 = b27 ∧
 (b2 = b2 ∧
 (b2 = b2 ∧
 (∃ Oq143 : (Option Addr), (∃ Aq144 : (Option Addr), (∃ Hq145 : (Option Addr), (∃ Cq146 : Nat, (∃ Dq147 : Nat, (∃ Ee148 : Nat, (∃ soq149 : (Nat →
 (Option Addr)), (∃ scq150 : (Nat →
 Nat), ((Wu [(Wa [(Ws Oq19 y4.1 Cq22), (Ws Aq20 x.2 Dq23), (Ws Hq21 x.4 Ee24)]), (Wi (corC (y95.3 i98)))]) = (Wu [(Wa [(Ws Oq143 ((poA x p)).1.1 Cq146), (Ws Aq144 ((poA x p)).2 Dq147), (Ws Hq145 ((poA x p)).4 Ee148)]), (Wi gc)]) ∧
 (SelS [(Hr false O 0 2 x.1.1 0 [(fun i151 => (Cs 3 (so i151) (x.1.2 i151) (sc i151))), (fun i152 => (Cb (x.1.4 i152)))]), (Hr false A 0 1 x.2 0 [(fun i153 => (Ci (x.3 i153)))]), (Hr false H 0 1 x.4 0 [(fun i154 => (Ci (x.5 i154)))]), (Ho false (symRows false 0 x.1 so (fun x155 => 0))), (Hc b0 37 [(Ci gG), (Ci gB), (Ci gR), (Ci gC)]), (Hc b1 33 [(Cs 0 O x.1.1 C), (Cs 1 A x.2 D), (Cs 2 H x.4 E)]), (Hc b2 33 [(Cs 7 Oq19 y4.1 Cq22), (Cs 8 Aq20 x.2 Dq23), (Cs 9 Hq21 x.4 Ee24)]), (Hr true Oq19 52 2 y4.1 Cq22 [(fun i156 => (Cs 10 (soq25 i156) (y4.2 i156) (scq26 i156))), (fun i157 => (Cb (y4.4 i157)))]), (Hr true Aq20 3 1 x.2 Dq23 [(fun i158 => (Ci (ag8 i158)))]), (Hr true Hq21 3 1 x.4 Ee24 [(fun i159 => (Ci (hg9 i159)))]), (Ho true (symRows true 3 y4 soq25 scq26)), (Hc b27 33 [(Cs 7 Oq19 y4.1 Cq22), (Cs 8 Aq20 x.2 Dq23), (Cs 9 Hq21 x.4 Ee24)]), (Hc b28 70 [(Ci (atB gG gB gR gC n)), (Ci (atR gG gB gR gC n)), (Ci (atC gG gB gR gC n))]), (Hr true ro92 3 1 11 rc93 [(fun i160 => (Ci (corW (y88.3 i91) i160)))])] [7, 8, 9, 10] [(Hr true Oq143 52 2 ((poA x p)).1.1 Cq146 [(fun i161 => (Cs 3 (soq149 i161) (((poA x p)).1.2 i161) (scq150 i161))), (fun i162 => (Cb (((poA x p)).1.4 i162)))]), (Hr true Aq144 3 1 ((poA x p)).2 Dq147 [(fun i163 => (Ci (((poA x p)).3 i163)))]), (Hr true Hq145 3 1 ((poA x p)).4 Ee148 [(fun i164 => (Ci (((poA x p)).5 i164)))]), (Ho true (symRows true 3 ((poA x p)).1 soq149 scq150))])))))))))))))))))))))))))))))))))))))))))))))))))))))))))))))))))))) ∧
 ((!(atOk gG gB gR gC n)) = true →
 (b27 = b27 ∧
 (b2 = b2 ∧
 (b2 = b2 ∧
 (∃ Oq165 : (Option Addr), (∃ Aq166 : (Option Addr), (∃ Hq167 : (Option Addr), (∃ Cq168 : Nat, (∃ Dq169 : Nat, (∃ Ee170 : Nat, (∃ soq171 : (Nat →
 (Option Addr)), (∃ scq172 : (Nat →
 Nat), ((Wu [(Wa [(Ws Oq19 y4.1 Cq22), (Ws Aq20 x.2 Dq23), (Ws Hq21 x.4 Ee24)]), (Wi 2)]) = (Wu [(Wa [(Ws Oq165 ((poA x p)).1.1 Cq168), (Ws Aq166 ((poA x p)).2 Dq169), (Ws Hq167 ((poA x p)).4 Ee170)]), (Wi gc)]) ∧
 (SelS [(Hr false O 0 2 x.1.1 0 [(fun i173 => (Cs 3 (so i173) (x.1.2 i173) (sc i173))), (fun i174 => (Cb (x.1.4 i174)))]), (Hr false A 0 1 x.2 0 [(fun i175 => (Ci (x.3 i175)))]), (Hr false H 0 1 x.4 0 [(fun i176 => (Ci (x.5 i176)))]), (Ho false (symRows false 0 x.1 so (fun x177 => 0))), (Hc b0 37 [(Ci gG), (Ci gB), (Ci gR), (Ci gC)]), (Hc b1 33 [(Cs 0 O x.1.1 C), (Cs 1 A x.2 D), (Cs 2 H x.4 E)]), (Hc b2 33 [(Cs 7 Oq19 y4.1 Cq22), (Cs 8 Aq20 x.2 Dq23), (Cs 9 Hq21 x.4 Ee24)]), (Hr true Oq19 52 2 y4.1 Cq22 [(fun i178 => (Cs 10 (soq25 i178) (y4.2 i178) (scq26 i178))), (fun i179 => (Cb (y4.4 i179)))]), (Hr true Aq20 3 1 x.2 Dq23 [(fun i180 => (Ci (ag8 i180)))]), (Hr true Hq21 3 1 x.4 Ee24 [(fun i181 => (Ci (hg9 i181)))]), (Ho true (symRows true 3 y4 soq25 scq26)), (Hc b27 33 [(Cs 7 Oq19 y4.1 Cq22), (Cs 8 Aq20 x.2 Dq23), (Cs 9 Hq21 x.4 Ee24)]), (Hc b28 70 [(Ci (atB gG gB gR gC n)), (Ci (atR gG gB gR gC n)), (Ci (atC gG gB gR gC n))])] [7, 8, 9, 10] [(Hr true Oq165 52 2 ((poA x p)).1.1 Cq168 [(fun i182 => (Cs 3 (soq171 i182) (((poA x p)).1.2 i182) (scq172 i182))), (fun i183 => (Cb (((poA x p)).1.4 i183)))]), (Hr true Aq166 3 1 ((poA x p)).2 Dq169 [(fun i184 => (Ci (((poA x p)).3 i184)))]), (Hr true Hq167 3 1 ((poA x p)).4 Ee170 [(fun i185 => (Ci (((poA x p)).5 i185)))]), (Ho true (symRows true 3 ((poA x p)).1 soq171 scq172))])))))))))))))))))))))))))))))))))))))))))) := by kernel_rfl
theorem slIP_any (x : AD) (O A H : Option Addr) (C D E : Nat) (so : Nat → Option Addr) (sc : Nat → Nat) (gG gB gR gC : Int) (n : Int) (p : Nat → Bool) (gx gc : Int) (w : World) (hA : SeenA w x O A H so sc) (hcap : capA x) (hN : slOk gG gB gR gC n x = false → p = x.c.po ∧ gx = 0 ∧ gc = 2) (hP : slOk gG gB gR gC n x = true → x.c.po n.toNat = true → p = x.c.po ∧ gx = 0 ∧ gc = 2) (hQ : slOk gG gB gR gC n x = true → x.c.po n.toNat = false → ¬ corC (x.c.sy n.toNat) = 1 ∧ gx = decX (x.c.sy n.toNat) ∧ gc = corC (x.c.sy n.toNat) ∧ (corC (x.c.sy n.toNat) = 0 → p = x.c.po) ∧ (corC (x.c.sy n.toNat) = 2 → p = fun i => if i = n.toNat then true else x.c.po i)) : Calls Try.prog 86 #[.agg #[.int .i64 gG, .int .i64 gB, .int .i64 gR, .int .i64 gC], arrV x O A H C D E, .int .i64 n] w fun e w' => ∃ (Oq Aq Hq : Option Addr) (Cq Dq Ee : Nat) (soq : Nat → Option Addr) (scq : Nat → Nat), e = .returned (.tuple #[arrV (poA x p) Oq Aq Hq Cq Dq Ee, .int .i64 gc]) ∧ HS ⟨w, fun _ => False⟩ (arrO 0 (poA x p) Oq Aq Hq Cq Dq Ee soq scq) w' := by
  refine fnB (tb := [(53, sCpA), (52, sArrOk), (67, sAdAt), (109, sFet)]) ⟨sCpA_I, sArrOk_I, sAdAt_I, sFet_ok, trivial⟩ Try.func86 (@Eq.mpr _ _ (slIP_T x O A H C D E so sc gG gB gR gC n p gx gc) ?_) (HS.seenAll (fun _ => False) _ (hA.all 0 seenC_nil)) (fun v ch' w' ⟨Oq, Aq, Hq, Cq, Dq, Ee, soq, scq, hv, hc⟩ hs => ⟨Oq, Aq, Hq, Cq, Dq, Ee, soq, scq, by rw [hv], hc.hs hs⟩)
  clear hA
  have hl := lenA_of hcap
  have hln := @line_rng gG gB gR gC
  cases hok : arrOk gG gB gR gC x
  · obtain ⟨rfl, rfl, rfl⟩ := hN (by simp [slOk, hok])
    repeat' (first
      | with_reducible exact rfl
      | exact True.intro
      | with_reducible assumption
      | exact hl
      | exact hcap
      | (intro h; exfalso; rw [hok] at h; simp at h; done)
      | (show rng _; simp only [rng]; omega)
      | exact (by refine ⟨?_, rfl⟩; repeat' (first | exact True.intro | exact symRows_push | exact rfl | refine And.intro ?_ ?_ | (intro i hi; show _ = _; with_reducible rfl) | (intro i hi; show _ = _; rfl) | (intro i hi; show _ = _; simp only [SC.den]; split <;> rfl)))
      | refine And.intro ?_ ?_
      | apply Exists.intro
      | (intro h; exfalso; simp at h; done)
      | (intro h; replace h := of_decide_eq_true h; first | (exfalso; omega) | skip)
      | (intro h; replace h := of_decide_eq_false h; first | (exfalso; omega) | skip)
      | (intro i hi; with_reducible exact rfl)
      | intro _
      | omega
      | exact rfl)
  · cases had : atOk gG gB gR gC n
    · obtain ⟨rfl, rfl, rfl⟩ := hN (by simp [slOk, had])
      have hbt := at_no hok had
      repeat' (first
        | with_reducible exact rfl
        | exact True.intro
        | with_reducible assumption
        | exact hl
        | exact hcap
        | (intro h; exfalso; rw [hok] at h; simp at h; done)
        | (intro h; exfalso; rw [had] at h; simp at h; done)
        | (intro h; exfalso; rw [hbt] at h; simp at h; done)
        | (show rng _; simp only [rng]; omega)
        | exact (by refine ⟨?_, rfl⟩; repeat' (first | exact True.intro | exact symRows_push | exact rfl | refine And.intro ?_ ?_ | (intro i hi; show _ = _; with_reducible rfl) | (intro i hi; show _ = _; rfl) | (intro i hi; show _ = _; simp only [SC.den]; split <;> rfl)))
        | refine And.intro ?_ ?_
        | apply Exists.intro
        | (intro h; exfalso; simp at h; done)
        | (intro h; replace h := of_decide_eq_true h; first | (exfalso; omega) | skip)
        | (intro h; replace h := of_decide_eq_false h; first | (exfalso; omega) | skip)
        | (intro i hi; with_reducible exact rfl)
        | intro _
        | omega
        | exact rfl)
    · have hin := at_in hok had
      have hi1 := hin.1.1
      have hi2 := hin.1.2
      have hi3 : ltN (tn n) x.c.n := hin.2.1
      have hbt := hin.2.2
      have hsy : symB (x.c.sn n.toNat) (x.c.sy n.toNat) 11 = true := (arrOk_facts hok).2.2.2.2 _ hi3
      have hn11 : x.c.sn n.toNat = 11 := by have := symB_n hsy; omega
      have hs11 : symB 11 (x.c.sy n.toNat) 11 = true := by rw [hn11] at hsy; exact hsy
      have hel := symB_el hs11
      have hcp := hcap.2.2.2 _ hi3
      have hokk : slOk gG gB gR gC n x = true := by simp [slOk, hok, had]
      cases hpo : x.c.po n.toNat
      · obtain ⟨c1, rfl, rfl, c0, c2⟩ := hQ hokk hpo
        have b1 : (corC (x.c.sy n.toNat) == 1) = false := by simpa using c1
        rcases corC_cases (x.c.sy n.toNat) with e | e | e
        · obtain rfl := c0 e
          have b2 : (corC (x.c.sy n.toNat) == 2) = false := by rw [e]; rfl
          repeat' (first
            | with_reducible exact rfl
            | exact True.intro
            | with_reducible assumption
            | exact hl
            | exact hcap
            | with_reducible exact hs11
            | with_reducible exact hn11
            | (intro h; exfalso; rw [hok] at h; simp at h; done)
            | (intro h; exfalso; rw [had] at h; simp at h; done)
            | (intro h; exfalso; rw [b1] at h; simp at h; done)
            | (intro h; exfalso; rw [b2] at h; simp at h; done)
            | (intro h; exfalso; rw [hbt] at h; simp at h; done)
            | (intro h; exfalso; rw [hpo] at h; cases h; done)
            | (show rng _; simp only [rng]; omega)
            | (refine ⟨_, _, _, _, _, ⟨rfl, rfl, rfl, ?_⟩, ?_⟩)
            | exact (by refine ⟨?_, rfl⟩; repeat' (first | exact True.intro | exact symRows_push | exact rfl | refine And.intro ?_ ?_ | (intro i hi; show _ = _; with_reducible rfl) | (intro i hi; show _ = _; rfl) | (intro i hi; show _ = _; simp only [SC.den]; split <;> rfl)))
            | refine And.intro ?_ ?_
            | apply Exists.intro
            | (intro h; exfalso; simp at h; done)
            | (intro h; replace h := of_decide_eq_true h; first | (exfalso; omega) | skip)
            | (intro h; replace h := of_decide_eq_false h; first | (exfalso; omega) | skip)
            | (intro i hi; with_reducible exact rfl)
            | intro _
            | omega
            | exact rfl)
        · exact absurd e c1
        · obtain rfl := c2 e
          have b2 : (corC (x.c.sy n.toNat) == 2) = true := by rw [e]; rfl
          repeat' (first
            | with_reducible exact rfl
            | exact True.intro
            | with_reducible assumption
            | exact hl
            | exact hcap
            | with_reducible exact hs11
            | with_reducible exact hn11
            | (intro h; exfalso; rw [hok] at h; simp at h; done)
            | (intro h; exfalso; rw [had] at h; simp at h; done)
            | (intro h; exfalso; rw [b1] at h; simp at h; done)
            | (intro h; exfalso; rw [b2] at h; simp at h; done)
            | (intro h; exfalso; rw [hbt] at h; simp at h; done)
            | (intro h; exfalso; rw [hpo] at h; cases h; done)
            | (show rng _; simp only [rng]; omega)
            | (refine ⟨_, _, _, _, _, ⟨rfl, rfl, rfl, ?_⟩, ?_⟩)
            | exact (by refine ⟨?_, rfl⟩; repeat' (first | exact True.intro | exact symRows_push | exact rfl | refine And.intro ?_ ?_ | (intro i hi; show _ = _; with_reducible rfl) | (intro i hi; show _ = _; rfl) | (intro i hi; show _ = _; simp only [SC.den]; split <;> rfl)))
            | refine And.intro ?_ ?_
            | apply Exists.intro
            | (intro h; exfalso; simp at h; done)
            | (intro h; replace h := of_decide_eq_true h; first | (exfalso; omega) | skip)
            | (intro h; replace h := of_decide_eq_false h; first | (exfalso; omega) | skip)
            | (intro i hi; with_reducible exact rfl)
            | intro _
            | omega
            | exact rfl)
      · obtain ⟨rfl, rfl, rfl⟩ := hP hokk hpo
        repeat' (first
          | with_reducible exact rfl
          | exact True.intro
          | with_reducible assumption
          | exact hl
          | exact hcap
          | with_reducible exact hs11
          | with_reducible exact hn11
          | (intro h; exfalso; rw [hok] at h; simp at h; done)
          | (intro h; exfalso; rw [had] at h; simp at h; done)
          | (intro h; exfalso; rw [hbt] at h; simp at h; done)
          | (intro h; exfalso; rw [hpo] at h; cases h; done)
          | (show rng _; simp only [rng]; omega)
          | (refine ⟨_, _, _, _, _, ⟨rfl, rfl, rfl, ?_⟩, ?_⟩)
          | exact (by refine ⟨?_, rfl⟩; repeat' (first | exact True.intro | exact symRows_push | exact rfl | refine And.intro ?_ ?_ | (intro i hi; show _ = _; with_reducible rfl) | (intro i hi; show _ = _; rfl) | (intro i hi; show _ = _; simp only [SC.den]; split <;> rfl)))
          | refine And.intro ?_ ?_
          | apply Exists.intro
          | (intro h; exfalso; simp at h; done)
          | (intro h; replace h := of_decide_eq_true h; first | (exfalso; omega) | skip)
          | (intro h; replace h := of_decide_eq_false h; first | (exfalso; omega) | skip)
          | (intro i hi; with_reducible exact rfl)
          | intro _
          | omega
          | exact rfl)
theorem slIF_T (x : AD) (O A H : Option Addr) (C D E : Nat) (so : Nat → Option Addr) (sc : Nat → Nat) (gG gB gR gC : Int) (n : Int) : (exFn Try.prog {tb := [(53, sCpA), (52, sArrOk), (67, sAdAt), (109, sFet)]} 400 Try.f86 ([.a (.agg [.int gG, .int gB, .int gR, .int gC]), .a (arrS 0 x O A H C D E), .a (.c (.int n))]) (arrR 0 x O A H so sc) (fun v ch => ∃ (Oq Aq Hq : Option Addr) (Cq Dq Ee : Nat) (soq : Nat → Option Addr) (scq : Nat → Nat) (ro : Option Addr) (rc : Nat), v.den = .tuple #[arrV x Oq Aq Hq Cq Dq Ee, .int .i64 1] ∧ SelS ch (idsSt v ch) (storedCh x (tn n) 11 (fun i => corW (x.c.sy (tn n)) i) (x.c.po (tn n)) Oq Aq Hq Cq Dq Ee soq scq ro rc))) = (
  (∀ b0 : Nat,
 (∀ b1 : Nat,
 (∀ b2 : Nat,
 (b1 = b1 ∧
 (∃ t3 : Nat, (∃ y4 : CD, (∃ so5 : (Nat →
 (Option Addr)), (∃ sc6 : (Nat →
 Nat), (∃ sd7 : (Nat →
 Nat), (∃ ag8 : (Nat →
 Int), (∃ hg9 : (Nat →
 Int), (((symRows false 0 x.1 so (fun x10 => 0)) = (symRows false t3 y4 so5 sd7) ∧
 ([(fun i11 => (Cs 3 (so i11) (x.1.2 i11) (sc i11))), (fun i12 => (Cb (x.1.4 i12)))] = [(fun i13 => (Cs 3 (so5 i13) (y4.2 i13) (sc6 i13))), (fun i14 => (Cb (y4.4 i14)))] ∧
 (O = O ∧
 (x.1.1 = x.1.1 ∧
 (x.1.1 = y4.1 ∧
 (A = A ∧
 (x.2 = x.2 ∧
 ([(fun i15 => (Ci (x.3 i15)))] = [(fun i16 => (Ci (ag8 i16)))] ∧
 (H = H ∧
 (x.4 = x.4 ∧
 [(fun i17 => (Ci (x.5 i17)))] = [(fun i18 => (Ci (hg9 i18)))])))))))))) ∧
 ((capA (AD.mk y4 x.2 ag8 x.4 hg9)) ∧
 (∀ Oq19 : (Option Addr),
 (∀ Aq20 : (Option Addr),
 (∀ Hq21 : (Option Addr),
 (∀ Cq22 : Nat,
 (∀ Dq23 : Nat,
 (∀ Ee24 : Nat,
 (∀ soq25 : (Nat →
 (Option Addr)),
 (∀ scq26 : (Nat →
 Nat),
 (∀ b27 : Nat,
 (b27 = b27 ∧
 (b0 = b0 ∧
 (∀ b28 : Nat,
 (b28 = b28 ∧
 (((!(atOk gG gB gR gC n)) = false →
 (b0 = b0 ∧
 (b1 = b1 ∧
 (∃ t29 : Nat, (∃ y30 : CD, (∃ so31 : (Nat →
 (Option Addr)), (∃ sc32 : (Nat →
 Nat), (∃ sd33 : (Nat →
 Nat), (∃ ag34 : (Nat →
 Int), (∃ hg35 : (Nat →
 Int), (((symRows false 0 x.1 so (fun x36 => 0)) = (symRows false t29 y30 so31 sd33) ∧
 ([(fun i37 => (Cs 3 (so i37) (x.1.2 i37) (sc i37))), (fun i38 => (Cb (x.1.4 i38)))] = [(fun i39 => (Cs 3 (so31 i39) (y30.2 i39) (sc32 i39))), (fun i40 => (Cb (y30.4 i40)))] ∧
 (O = O ∧
 (x.1.1 = x.1.1 ∧
 (x.1.1 = y30.1 ∧
 (A = A ∧
 (x.2 = x.2 ∧
 ([(fun i41 => (Ci (x.3 i41)))] = [(fun i42 => (Ci (ag34 i42)))] ∧
 (H = H ∧
 (x.4 = x.4 ∧
 [(fun i43 => (Ci (x.5 i43)))] = [(fun i44 => (Ci (hg35 i44)))])))))))))) ∧
 ((lenA (AD.mk y30 x.2 ag34 x.4 hg35)) ∧
 (((!(arrOk gG gB gR gC (AD.mk y30 x.2 ag34 x.4 hg35))) = true →
 (b27 = b27 ∧
 (b2 = b2 ∧
 (b2 = b2 ∧
 (∃ Oq45 : (Option Addr), (∃ Aq46 : (Option Addr), (∃ Hq47 : (Option Addr), (∃ Cq48 : Nat, (∃ Dq49 : Nat, (∃ Ee50 : Nat, (∃ soq51 : (Nat →
 (Option Addr)), (∃ scq52 : (Nat →
 Nat), (∃ ro53 : (Option Addr), (∃ rc54 : Nat, ((Wu [(Wa [(Ws Oq19 y4.1 Cq22), (Ws Aq20 x.2 Dq23), (Ws Hq21 x.4 Ee24)]), (Wi 2)]) = (Wu [(Wa [(Ws Oq45 x.1.1 Cq48), (Ws Aq46 x.2 Dq49), (Ws Hq47 x.4 Ee50)]), (Wi 1)]) ∧
 (SelS [(Hr false O 0 2 x.1.1 0 [(fun i55 => (Cs 3 (so i55) (x.1.2 i55) (sc i55))), (fun i56 => (Cb (x.1.4 i56)))]), (Hr false A 0 1 x.2 0 [(fun i57 => (Ci (x.3 i57)))]), (Hr false H 0 1 x.4 0 [(fun i58 => (Ci (x.5 i58)))]), (Ho false (symRows false 0 x.1 so (fun x59 => 0))), (Hc b0 37 [(Ci gG), (Ci gB), (Ci gR), (Ci gC)]), (Hc b1 33 [(Cs 0 O x.1.1 C), (Cs 1 A x.2 D), (Cs 2 H x.4 E)]), (Hc b2 33 [(Cs 7 Oq19 y4.1 Cq22), (Cs 8 Aq20 x.2 Dq23), (Cs 9 Hq21 x.4 Ee24)]), (Hr true Oq19 52 2 y4.1 Cq22 [(fun i60 => (Cs 10 (soq25 i60) (y4.2 i60) (scq26 i60))), (fun i61 => (Cb (y4.4 i61)))]), (Hr true Aq20 3 1 x.2 Dq23 [(fun i62 => (Ci (ag8 i62)))]), (Hr true Hq21 3 1 x.4 Ee24 [(fun i63 => (Ci (hg9 i63)))]), (Ho true (symRows true 3 y4 soq25 scq26)), (Hc b27 33 [(Cs 7 Oq19 y4.1 Cq22), (Cs 8 Aq20 x.2 Dq23), (Cs 9 Hq21 x.4 Ee24)]), (Hc b28 70 [(Ci (atB gG gB gR gC n)), (Ci (atR gG gB gR gC n)), (Ci (atC gG gB gR gC n))])] [7, 8, 9, 10, 12] [(Hr true Oq45 52 2 x.1.1 Cq48 [(fun i64 => (Cv (if i64 = (Int.toNat n) then (Ws ro53 11 rc54) else (Ws (soq51 i64) (x.1.2 i64) (scq52 i64))))), (fun i65 => (Cb (if i65 = (Int.toNat n) then (x.1.4 (Int.toNat n)) else (x.1.4 i65))))]), (Hr true Aq46 3 1 x.2 Dq49 [(fun i66 => (Ci (x.3 i66)))]), (Hr true Hq47 3 1 x.4 Ee50 [(fun i67 => (Ci (x.5 i67)))]), (Ho true (symRows true 3 x.1 soq51 scq52)), (Hr true ro53 3 1 11 rc54 [(fun i68 => (Ci (corW (x.1.3 (Int.toNat n)) i68)))])])))))))))))))))) ∧
 ((!(arrOk gG gB gR gC (AD.mk y30 x.2 ag34 x.4 hg35))) = false →
 (b27 = b27 ∧
 (Oq19 = Oq19 ∧
 (y4.1 = y4.1 ∧
 ((0 ≤ n ∧ n < ((y4.1 : Nat) : Int)) ∧
 ((Oq19 = Oq19 ∧
 (Int.toNat n) < y4.1) ∧
 (Oq19 = Oq19 ∧
 ((Int.toNat n) < y4.1 ∧
 (Oq19 = Oq19 ∧
 ((Int.toNat n) < y4.1 ∧
 (((y4.4 (Int.toNat n)) = true →
 (b27 = b27 ∧
 (b2 = b2 ∧
 (b2 = b2 ∧
 (∃ Oq69 : (Option Addr), (∃ Aq70 : (Option Addr), (∃ Hq71 : (Option Addr), (∃ Cq72 : Nat, (∃ Dq73 : Nat, (∃ Ee74 : Nat, (∃ soq75 : (Nat →
 (Option Addr)), (∃ scq76 : (Nat →
 Nat), (∃ ro77 : (Option Addr), (∃ rc78 : Nat, ((Wu [(Wa [(Ws Oq19 y4.1 Cq22), (Ws Aq20 x.2 Dq23), (Ws Hq21 x.4 Ee24)]), (Wi 2)]) = (Wu [(Wa [(Ws Oq69 x.1.1 Cq72), (Ws Aq70 x.2 Dq73), (Ws Hq71 x.4 Ee74)]), (Wi 1)]) ∧
 (SelS [(Hr false O 0 2 x.1.1 0 [(fun i79 => (Cs 3 (so i79) (x.1.2 i79) (sc i79))), (fun i80 => (Cb (x.1.4 i80)))]), (Hr false A 0 1 x.2 0 [(fun i81 => (Ci (x.3 i81)))]), (Hr false H 0 1 x.4 0 [(fun i82 => (Ci (x.5 i82)))]), (Ho false (symRows false 0 x.1 so (fun x83 => 0))), (Hc b0 37 [(Ci gG), (Ci gB), (Ci gR), (Ci gC)]), (Hc b1 33 [(Cs 0 O x.1.1 C), (Cs 1 A x.2 D), (Cs 2 H x.4 E)]), (Hc b2 33 [(Cs 7 Oq19 y4.1 Cq22), (Cs 8 Aq20 x.2 Dq23), (Cs 9 Hq21 x.4 Ee24)]), (Hr true Oq19 52 2 y4.1 Cq22 [(fun i84 => (Cs 10 (soq25 i84) (y4.2 i84) (scq26 i84))), (fun i85 => (Cb (y4.4 i85)))]), (Hr true Aq20 3 1 x.2 Dq23 [(fun i86 => (Ci (ag8 i86)))]), (Hr true Hq21 3 1 x.4 Ee24 [(fun i87 => (Ci (hg9 i87)))]), (Ho true (symRows true 3 y4 soq25 scq26)), (Hc b27 33 [(Cs 7 Oq19 y4.1 Cq22), (Cs 8 Aq20 x.2 Dq23), (Cs 9 Hq21 x.4 Ee24)]), (Hc b28 70 [(Ci (atB gG gB gR gC n)), (Ci (atR gG gB gR gC n)), (Ci (atC gG gB gR gC n))])] [7, 8, 9, 10, 12] [(Hr true Oq69 52 2 x.1.1 Cq72 [(fun i88 => (Cv (if i88 = (Int.toNat n) then (Ws ro77 11 rc78) else (Ws (soq75 i88) (x.1.2 i88) (scq76 i88))))), (fun i89 => (Cb (if i89 = (Int.toNat n) then (x.1.4 (Int.toNat n)) else (x.1.4 i89))))]), (Hr true Aq70 3 1 x.2 Dq73 [(fun i90 => (Ci (x.3 i90)))]), (Hr true Hq71 3 1 x.4 Ee74 [(fun i91 => (Ci (x.5 i91)))]), (Ho true (symRows true 3 x.1 soq75 scq76)), (Hr true ro77 3 1 11 rc78 [(fun i92 => (Ci (corW (x.1.3 (Int.toNat n)) i92)))])])))))))))))))))) ∧
 ((y4.4 (Int.toNat n)) = false →
 ((Oq19 = Oq19 ∧
 (Int.toNat n) < y4.1) ∧
 (Oq19 = Oq19 ∧
 ((Int.toNat n) < y4.1 ∧
 (Oq19 = Oq19 ∧
 ((Int.toNat n) < y4.1 ∧
 (∃ t93 : Nat, (∃ y94 : CD, (∃ so95 : (Nat →
 (Option Addr)), (∃ sc96 : (Nat →
 Nat), (∃ i97 : Nat, (((symRows true 3 y4 soq25 scq26) = (symRows true t93 y94 so95 sc96) ∧
 ((soq25 (Int.toNat n)) = (so95 i97) ∧
 ((y4.2 (Int.toNat n)) = (y94.2 i97) ∧
 i97 < y94.1))) ∧
 (((y4.2 (Int.toNat n)) = 11 ∧
 (symB 11 (y94.3 i97) (11 : Int)) = true) ∧
 (∀ ro98 : (Option Addr),
 (∀ rc99 : Nat,
 ((Oq19 = Oq19 ∧
 (Int.toNat n) < y4.1) ∧
 (Oq19 = Oq19 ∧
 ((Int.toNat n) < y4.1 ∧
 (Oq19 = Oq19 ∧
 ((Int.toNat n) < y4.1 ∧
 (∃ t100 : Nat, (∃ y101 : CD, (∃ so102 : (Nat →
 (Option Addr)), (∃ sc103 : (Nat →
 Nat), (∃ i104 : Nat, (((symRows true 3 y4 soq25 scq26) = (symRows true t100 y101 so102 sc103) ∧
 ((soq25 (Int.toNat n)) = (so102 i104) ∧
 ((y4.2 (Int.toNat n)) = (y101.2 i104) ∧
 i104 < y101.1))) ∧
 (((y4.2 (Int.toNat n)) = 11 ∧
 (symB 11 (y101.3 i104) (11 : Int)) = true) ∧
 ((((corC (y101.3 i104)) == (1 : Int)) = true →
 ((Oq19 = Oq19 ∧
 (Int.toNat n) < y4.1) ∧
 (Oq19 = Oq19 ∧
 ((Int.toNat n) < y4.1 ∧
 (Oq19 = Oq19 ∧
 ((Int.toNat n) < y4.1 ∧
 (b27 = b27 ∧
 (b2 = b2 ∧
 (b2 = b2 ∧
 (∃ Oq105 : (Option Addr), (∃ Aq106 : (Option Addr), (∃ Hq107 : (Option Addr), (∃ Cq108 : Nat, (∃ Dq109 : Nat, (∃ Ee110 : Nat, (∃ soq111 : (Nat →
 (Option Addr)), (∃ scq112 : (Nat →
 Nat), (∃ ro113 : (Option Addr), (∃ rc114 : Nat, ((Wu [(Wa [(Ws Oq19 y4.1 Cq22), (Ws Aq20 x.2 Dq23), (Ws Hq21 x.4 Ee24)]), (Wi (corC (y101.3 i104)))]) = (Wu [(Wa [(Ws Oq105 x.1.1 Cq108), (Ws Aq106 x.2 Dq109), (Ws Hq107 x.4 Ee110)]), (Wi 1)]) ∧
 (SelS [(Hr false O 0 2 x.1.1 0 [(fun i115 => (Cs 3 (so i115) (x.1.2 i115) (sc i115))), (fun i116 => (Cb (x.1.4 i116)))]), (Hr false A 0 1 x.2 0 [(fun i117 => (Ci (x.3 i117)))]), (Hr false H 0 1 x.4 0 [(fun i118 => (Ci (x.5 i118)))]), (Ho false (symRows false 0 x.1 so (fun x119 => 0))), (Hc b0 37 [(Ci gG), (Ci gB), (Ci gR), (Ci gC)]), (Hc b1 33 [(Cs 0 O x.1.1 C), (Cs 1 A x.2 D), (Cs 2 H x.4 E)]), (Hc b2 33 [(Cs 7 Oq19 y4.1 Cq22), (Cs 8 Aq20 x.2 Dq23), (Cs 9 Hq21 x.4 Ee24)]), (Hr true Oq19 52 2 y4.1 Cq22 [(fun j120 => (Cv (if j120 = (Int.toNat n) then (Ws ro98 11 rc99) else (Ws (soq25 j120) (y4.2 j120) (scq26 j120))))), (fun i121 => (Cb (y4.4 i121)))]), (Hr true Aq20 3 1 x.2 Dq23 [(fun i122 => (Ci (ag8 i122)))]), (Hr true Hq21 3 1 x.4 Ee24 [(fun i123 => (Ci (hg9 i123)))]), (Ho true (symRows true 3 y4 soq25 scq26)), (Hc b27 33 [(Cs 7 Oq19 y4.1 Cq22), (Cs 8 Aq20 x.2 Dq23), (Cs 9 Hq21 x.4 Ee24)]), (Hc b28 70 [(Ci (atB gG gB gR gC n)), (Ci (atR gG gB gR gC n)), (Ci (atC gG gB gR gC n))]), (Hr true ro98 3 1 11 rc99 [(fun i124 => (Ci (corW (y94.3 i97) i124)))])] [7, 8, 9, 10, 13] [(Hr true Oq105 52 2 x.1.1 Cq108 [(fun i125 => (Cv (if i125 = (Int.toNat n) then (Ws ro113 11 rc114) else (Ws (soq111 i125) (x.1.2 i125) (scq112 i125))))), (fun i126 => (Cb (if i126 = (Int.toNat n) then (x.1.4 (Int.toNat n)) else (x.1.4 i126))))]), (Hr true Aq106 3 1 x.2 Dq109 [(fun i127 => (Ci (x.3 i127)))]), (Hr true Hq107 3 1 x.4 Ee110 [(fun i128 => (Ci (x.5 i128)))]), (Ho true (symRows true 3 x.1 soq111 scq112)), (Hr true ro113 3 1 11 rc114 [(fun i129 => (Ci (corW (x.1.3 (Int.toNat n)) i129)))])]))))))))))))))))))))) ∧
 (((corC (y101.3 i104)) == (1 : Int)) = false →
 ((((corC (y101.3 i104)) == (2 : Int)) = true →
 ((Oq19 = Oq19 ∧
 (Int.toNat n) < y4.1) ∧
 (Oq19 = Oq19 ∧
 ((Int.toNat n) < y4.1 ∧
 (Oq19 = Oq19 ∧
 ((Int.toNat n) < y4.1 ∧
 (b27 = b27 ∧
 (b2 = b2 ∧
 (b2 = b2 ∧
 (∃ Oq130 : (Option Addr), (∃ Aq131 : (Option Addr), (∃ Hq132 : (Option Addr), (∃ Cq133 : Nat, (∃ Dq134 : Nat, (∃ Ee135 : Nat, (∃ soq136 : (Nat →
 (Option Addr)), (∃ scq137 : (Nat →
 Nat), (∃ ro138 : (Option Addr), (∃ rc139 : Nat, ((Wu [(Wa [(Ws Oq19 y4.1 Cq22), (Ws Aq20 x.2 Dq23), (Ws Hq21 x.4 Ee24)]), (Wi (corC (y101.3 i104)))]) = (Wu [(Wa [(Ws Oq130 x.1.1 Cq133), (Ws Aq131 x.2 Dq134), (Ws Hq132 x.4 Ee135)]), (Wi 1)]) ∧
 (SelS [(Hr false O 0 2 x.1.1 0 [(fun i140 => (Cs 3 (so i140) (x.1.2 i140) (sc i140))), (fun i141 => (Cb (x.1.4 i141)))]), (Hr false A 0 1 x.2 0 [(fun i142 => (Ci (x.3 i142)))]), (Hr false H 0 1 x.4 0 [(fun i143 => (Ci (x.5 i143)))]), (Ho false (symRows false 0 x.1 so (fun x144 => 0))), (Hc b0 37 [(Ci gG), (Ci gB), (Ci gR), (Ci gC)]), (Hc b1 33 [(Cs 0 O x.1.1 C), (Cs 1 A x.2 D), (Cs 2 H x.4 E)]), (Hc b2 33 [(Cs 7 Oq19 y4.1 Cq22), (Cs 8 Aq20 x.2 Dq23), (Cs 9 Hq21 x.4 Ee24)]), (Hr true Oq19 52 2 y4.1 Cq22 [(fun i145 => (Cs 10 (soq25 i145) (y4.2 i145) (scq26 i145))), (fun j146 => (Cb (if j146 = (Int.toNat n) then true else (y4.4 j146))))]), (Hr true Aq20 3 1 x.2 Dq23 [(fun i147 => (Ci (ag8 i147)))]), (Hr true Hq21 3 1 x.4 Ee24 [(fun i148 => (Ci (hg9 i148)))]), (Ho true (symRows true 3 y4 soq25 scq26)), (Hc b27 33 [(Cs 7 Oq19 y4.1 Cq22), (Cs 8 Aq20 x.2 Dq23), (Cs 9 Hq21 x.4 Ee24)]), (Hc b28 70 [(Ci (atB gG gB gR gC n)), (Ci (atR gG gB gR gC n)), (Ci (atC gG gB gR gC n))]), (Hr true ro98 3 1 11 rc99 [(fun i149 => (Ci (corW (y94.3 i97) i149)))])] [7, 8, 9, 10, 13] [(Hr true Oq130 52 2 x.1.1 Cq133 [(fun i150 => (Cv (if i150 = (Int.toNat n) then (Ws ro138 11 rc139) else (Ws (soq136 i150) (x.1.2 i150) (scq137 i150))))), (fun i151 => (Cb (if i151 = (Int.toNat n) then (x.1.4 (Int.toNat n)) else (x.1.4 i151))))]), (Hr true Aq131 3 1 x.2 Dq134 [(fun i152 => (Ci (x.3 i152)))]), (Hr true Hq132 3 1 x.4 Ee135 [(fun i153 => (Ci (x.5 i153)))]), (Ho true (symRows true 3 x.1 soq136 scq137)), (Hr true ro138 3 1 11 rc139 [(fun i154 => (Ci (corW (x.1.3 (Int.toNat n)) i154)))])]))))))))))))))))))))) ∧
 (((corC (y101.3 i104)) == (2 : Int)) = false →
 (b27 = b27 ∧
 (b2 = b2 ∧
 (b2 = b2 ∧
 (∃ Oq155 : (Option Addr), (∃ Aq156 : (Option Addr), (∃ Hq157 : (Option Addr), (∃ Cq158 : Nat, (∃ Dq159 : Nat, (∃ Ee160 : Nat, (∃ soq161 : (Nat →
 (Option Addr)), (∃ scq162 : (Nat →
 Nat), (∃ ro163 : (Option Addr), (∃ rc164 : Nat, ((Wu [(Wa [(Ws Oq19 y4.1 Cq22), (Ws Aq20 x.2 Dq23), (Ws Hq21 x.4 Ee24)]), (Wi (corC (y101.3 i104)))]) = (Wu [(Wa [(Ws Oq155 x.1.1 Cq158), (Ws Aq156 x.2 Dq159), (Ws Hq157 x.4 Ee160)]), (Wi 1)]) ∧
 (SelS [(Hr false O 0 2 x.1.1 0 [(fun i165 => (Cs 3 (so i165) (x.1.2 i165) (sc i165))), (fun i166 => (Cb (x.1.4 i166)))]), (Hr false A 0 1 x.2 0 [(fun i167 => (Ci (x.3 i167)))]), (Hr false H 0 1 x.4 0 [(fun i168 => (Ci (x.5 i168)))]), (Ho false (symRows false 0 x.1 so (fun x169 => 0))), (Hc b0 37 [(Ci gG), (Ci gB), (Ci gR), (Ci gC)]), (Hc b1 33 [(Cs 0 O x.1.1 C), (Cs 1 A x.2 D), (Cs 2 H x.4 E)]), (Hc b2 33 [(Cs 7 Oq19 y4.1 Cq22), (Cs 8 Aq20 x.2 Dq23), (Cs 9 Hq21 x.4 Ee24)]), (Hr true Oq19 52 2 y4.1 Cq22 [(fun i170 => (Cs 10 (soq25 i170) (y4.2 i170) (scq26 i170))), (fun i171 => (Cb (y4.4 i171)))]), (Hr true Aq20 3 1 x.2 Dq23 [(fun i172 => (Ci (ag8 i172)))]), (Hr true Hq21 3 1 x.4 Ee24 [(fun i173 => (Ci (hg9 i173)))]), (Ho true (symRows true 3 y4 soq25 scq26)), (Hc b27 33 [(Cs 7 Oq19 y4.1 Cq22), (Cs 8 Aq20 x.2 Dq23), (Cs 9 Hq21 x.4 Ee24)]), (Hc b28 70 [(Ci (atB gG gB gR gC n)), (Ci (atR gG gB gR gC n)), (Ci (atC gG gB gR gC n))]), (Hr true ro98 3 1 11 rc99 [(fun i174 => (Ci (corW (y94.3 i97) i174)))])] [7, 8, 9, 10, 13] [(Hr true Oq155 52 2 x.1.1 Cq158 [(fun i175 => (Cv (if i175 = (Int.toNat n) then (Ws ro163 11 rc164) else (Ws (soq161 i175) (x.1.2 i175) (scq162 i175))))), (fun i176 => (Cb (if i176 = (Int.toNat n) then (x.1.4 (Int.toNat n)) else (x.1.4 i176))))]), (Hr true Aq156 3 1 x.2 Dq159 [(fun i177 => (Ci (x.3 i177)))]), (Hr true Hq157 3 1 x.4 Ee160 [(fun i178 => (Ci (x.5 i178)))]), (Ho true (symRows true 3 x.1 soq161 scq162)), (Hr true ro163 3 1 11 rc164 [(fun i179 => (Ci (corW (x.1.3 (Int.toNat n)) i179)))])])))))))))))))))))))))))))))))))))))))))))))))))))))))))))))))))))))))) ∧
 ((!(atOk gG gB gR gC n)) = true →
 (b27 = b27 ∧
 (b2 = b2 ∧
 (b2 = b2 ∧
 (∃ Oq180 : (Option Addr), (∃ Aq181 : (Option Addr), (∃ Hq182 : (Option Addr), (∃ Cq183 : Nat, (∃ Dq184 : Nat, (∃ Ee185 : Nat, (∃ soq186 : (Nat →
 (Option Addr)), (∃ scq187 : (Nat →
 Nat), (∃ ro188 : (Option Addr), (∃ rc189 : Nat, ((Wu [(Wa [(Ws Oq19 y4.1 Cq22), (Ws Aq20 x.2 Dq23), (Ws Hq21 x.4 Ee24)]), (Wi 2)]) = (Wu [(Wa [(Ws Oq180 x.1.1 Cq183), (Ws Aq181 x.2 Dq184), (Ws Hq182 x.4 Ee185)]), (Wi 1)]) ∧
 (SelS [(Hr false O 0 2 x.1.1 0 [(fun i190 => (Cs 3 (so i190) (x.1.2 i190) (sc i190))), (fun i191 => (Cb (x.1.4 i191)))]), (Hr false A 0 1 x.2 0 [(fun i192 => (Ci (x.3 i192)))]), (Hr false H 0 1 x.4 0 [(fun i193 => (Ci (x.5 i193)))]), (Ho false (symRows false 0 x.1 so (fun x194 => 0))), (Hc b0 37 [(Ci gG), (Ci gB), (Ci gR), (Ci gC)]), (Hc b1 33 [(Cs 0 O x.1.1 C), (Cs 1 A x.2 D), (Cs 2 H x.4 E)]), (Hc b2 33 [(Cs 7 Oq19 y4.1 Cq22), (Cs 8 Aq20 x.2 Dq23), (Cs 9 Hq21 x.4 Ee24)]), (Hr true Oq19 52 2 y4.1 Cq22 [(fun i195 => (Cs 10 (soq25 i195) (y4.2 i195) (scq26 i195))), (fun i196 => (Cb (y4.4 i196)))]), (Hr true Aq20 3 1 x.2 Dq23 [(fun i197 => (Ci (ag8 i197)))]), (Hr true Hq21 3 1 x.4 Ee24 [(fun i198 => (Ci (hg9 i198)))]), (Ho true (symRows true 3 y4 soq25 scq26)), (Hc b27 33 [(Cs 7 Oq19 y4.1 Cq22), (Cs 8 Aq20 x.2 Dq23), (Cs 9 Hq21 x.4 Ee24)]), (Hc b28 70 [(Ci (atB gG gB gR gC n)), (Ci (atR gG gB gR gC n)), (Ci (atC gG gB gR gC n))])] [7, 8, 9, 10, 12] [(Hr true Oq180 52 2 x.1.1 Cq183 [(fun i199 => (Cv (if i199 = (Int.toNat n) then (Ws ro188 11 rc189) else (Ws (soq186 i199) (x.1.2 i199) (scq187 i199))))), (fun i200 => (Cb (if i200 = (Int.toNat n) then (x.1.4 (Int.toNat n)) else (x.1.4 i200))))]), (Hr true Aq181 3 1 x.2 Dq184 [(fun i201 => (Ci (x.3 i201)))]), (Hr true Hq182 3 1 x.4 Ee185 [(fun i202 => (Ci (x.5 i202)))]), (Ho true (symRows true 3 x.1 soq186 scq187)), (Hr true ro188 3 1 11 rc189 [(fun i203 => (Ci (corW (x.1.3 (Int.toNat n)) i203)))])])))))))))))))))))))))))))))))))))))))))))))) := by kernel_rfl
theorem slIF_any (x : AD) (O A H : Option Addr) (C D E : Nat) (so : Nat → Option Addr) (sc : Nat → Nat) (gG gB gR gC : Int) (n : Int) (w : World) (hA : SeenA w x O A H so sc) (hcap : capA x) (hokk : slOk gG gB gR gC n x = true) (hpo : x.c.po n.toNat = false) (hc1 : corC (x.c.sy n.toNat) = 1) : Calls Try.prog 86 #[.agg #[.int .i64 gG, .int .i64 gB, .int .i64 gR, .int .i64 gC], arrV x O A H C D E, .int .i64 n] w fun e w' => ∃ (Oq Aq Hq : Option Addr) (Cq Dq Ee : Nat) (soq : Nat → Option Addr) (scq : Nat → Nat), e = .returned (.tuple #[arrV (setA x (tn n) 11 (fun i => corW (x.c.sy (tn n)) i) (x.c.po (tn n))) Oq Aq Hq Cq Dq Ee, .int .i64 1]) ∧ HS ⟨w, fun _ => False⟩ (arrO 0 (setA x (tn n) 11 (fun i => corW (x.c.sy (tn n)) i) (x.c.po (tn n))) Oq Aq Hq Cq Dq Ee soq scq) w' := by
  refine fnB (tb := [(53, sCpA), (52, sArrOk), (67, sAdAt), (109, sFet)]) ⟨sCpA_I, sArrOk_I, sAdAt_I, sFet_ok, trivial⟩ Try.func86 (@Eq.mpr _ _ (slIF_T x O A H C D E so sc gG gB gR gC n) ?_) (HS.seenAll (fun _ => False) _ (hA.all 0 seenC_nil)) (fun v ch' w' ⟨Oq, Aq, Hq, Cq, Dq, Ee, soq, scq, ro, rc, hv, hc⟩ hs => ⟨Oq, Aq, Hq, Cq, Dq, Ee, _, _, by rw [hv]; rfl, (hc.hs hs).stored⟩)
  clear hA
  have hl := lenA_of hcap
  have hln := @line_rng gG gB gR gC
  have hok : arrOk gG gB gR gC x = true := by simp only [slOk, Bool.and_eq_true] at hokk; exact hokk.1
  have had : atOk gG gB gR gC n = true := by simp only [slOk, Bool.and_eq_true] at hokk; exact hokk.2
  have hin := at_in hok had
  have hi1 := hin.1.1
  have hi2 := hin.1.2
  have hi3 : ltN (tn n) x.c.n := hin.2.1
  have hbt := hin.2.2
  have hsy : symB (x.c.sn n.toNat) (x.c.sy n.toNat) 11 = true := (arrOk_facts hok).2.2.2.2 _ hi3
  have hn11 : x.c.sn n.toNat = 11 := by have := symB_n hsy; omega
  have hs11 : symB 11 (x.c.sy n.toNat) 11 = true := by rw [hn11] at hsy; exact hsy
  have hel := symB_el hs11
  have hcp := hcap.2.2.2 _ hi3
  have b1 : (corC (x.c.sy n.toNat) == 1) = true := by rw [hc1]; rfl
  have b2 : (corC (x.c.sy n.toNat) == 2) = false := by rw [hc1]; rfl
  have hdw := dec_word hel hc1
  have hcw : ∀ i, i < 11 → cw (decX (x.c.sy n.toNat)) i = corW (x.c.sy n.toNat) i := fun i hi => dec_cw hel hc1 hi
  repeat' (first
    | with_reducible exact rfl
    | exact True.intro
    | with_reducible assumption
    | exact hl
    | exact hcap
    | with_reducible exact hs11
    | with_reducible exact hn11
    | (intro h; exfalso; rw [hok] at h; simp at h; done)
    | (intro h; exfalso; rw [had] at h; simp at h; done)
    | (intro h; exfalso; rw [b1] at h; simp at h; done)
    | (intro h; exfalso; rw [b2] at h; simp at h; done)
    | (intro h; exfalso; rw [hbt] at h; simp at h; done)
    | (intro h; exfalso; rw [hpo] at h; cases h; done)
    | (show rng _; simp only [rng]; omega)
    | (refine ⟨_, _, _, _, _, ⟨rfl, rfl, rfl, ?_⟩, ?_⟩)
    | with_reducible exact hdw
    | (show (_ : Value) = _; rw [hc1]; try with_reducible rfl)
    | exact (by refine ⟨?_, rfl⟩; repeat' (first | exact True.intro | exact symRows_push | exact rfl | refine And.intro ?_ ?_ | (intro i hi; show _ = _; with_reducible rfl) | (intro i hi; show _ = _; rfl) | (intro i hi; exact congrArg (fun z => Value.int .i64 z) (hcw i hi)) | (intro i hi; simp only [SC.den, selB]; split <;> simp_all) | (intro i hi; show _ = _; simp only [SC.den]; split <;> rfl)))
    | refine And.intro ?_ ?_
    | apply Exists.intro
    | (intro h; exfalso; simp at h; done)
    | (intro h; replace h := of_decide_eq_true h; first | (exfalso; omega) | skip)
    | (intro h; replace h := of_decide_eq_false h; first | (exfalso; omega) | skip)
    | (intro i hi; with_reducible exact rfl)
    | intro _
    | omega
    | exact rfl)
theorem slI_all (x : AD) (O A H : Option Addr) (C D E : Nat) (so : Nat → Option Addr) (sc : Nat → Nat) (gG gB gR gC : Int) (n : Int) (w : World) (hA : SeenA w x O A H so sc) (hcap : capA x) : Calls Try.prog 86 #[.agg #[.int .i64 gG, .int .i64 gB, .int .i64 gR, .int .i64 gC], arrV x O A H C D E, .int .i64 n] w fun e w' => ∃ (Oq Aq Hq : Option Addr) (Cq Dq Ee : Nat) (soq : Nat → Option Addr) (scq : Nat → Nat), e = .returned (.tuple #[arrV (slA gG gB gR gC n x) Oq Aq Hq Cq Dq Ee, .int .i64 (slC gG gB gR gC n x)]) ∧ HS ⟨w, fun _ => False⟩ (arrO 0 (slA gG gB gR gC n x) Oq Aq Hq Cq Dq Ee soq scq) w' := by
  cases hokk : slOk gG gB gR gC n x
  · have e1 : (slA gG gB gR gC n x) = poA x x.c.po := by simp [slA, hokk, poA]
    have e2 : slX gG gB gR gC n x = 0 := by simp [slX, hokk]
    have e3 : slC gG gB gR gC n x = 2 := by simp [slC, hokk]
    rw [e1, e3]
    exact slIP_any x O A H C D E so sc gG gB gR gC n x.c.po 0 2 w hA hcap (fun _ => ⟨rfl, rfl, rfl⟩) (fun h => by rw [hokk] at h; cases h) (fun h => by rw [hokk] at h; cases h)
  · cases hpo : x.c.po n.toNat
    · have hpo' : x.c.po (tn n) = false := hpo
      by_cases hc1 : corC (x.c.sy n.toNat) = 1
      · have hc1' : corC (x.c.sy (tn n)) = 1 := hc1
        have e1 : (slA gG gB gR gC n x) = setA x (tn n) 11 (fun i => corW (x.c.sy (tn n)) i) (x.c.po (tn n)) := by simp [slA, hokk, getN, hpo', hc1']
        have e2 : slX gG gB gR gC n x = decX (x.c.sy (tn n)) := by simp [slX, hokk, getX, hpo']
        have e3 : slC gG gB gR gC n x = 1 := by simp [slC, hokk, getC, hpo', hc1']
        rw [e1, e3]
        exact slIF_any x O A H C D E so sc gG gB gR gC n w hA hcap hokk hpo hc1
      · have hc1' : ¬ corC (x.c.sy (tn n)) = 1 := hc1
        have e2 : slX gG gB gR gC n x = decX (x.c.sy (tn n)) := by simp [slX, hokk, getX, hpo']
        have e3 : slC gG gB gR gC n x = corC (x.c.sy (tn n)) := by simp [slC, hokk, getC, hpo']
        rw [e3]
        by_cases hc2 : corC (x.c.sy (tn n)) = 2
        · have e1 : (slA gG gB gR gC n x) = poA x (fun i => if i = (tn n) then true else x.c.po i) := by simp [slA, hokk, getN, hpo', hc2]
          rw [e1]
          exact slIP_any x O A H C D E so sc gG gB gR gC n _ _ _ w hA hcap (fun h => by rw [hokk] at h; cases h) (fun _ h => by rw [hpo] at h; cases h) (fun _ _ => ⟨hc1, rfl, rfl, fun h => absurd (hc2.symm.trans h) (by decide), fun _ => rfl⟩)
        · have e1 : (slA gG gB gR gC n x) = poA x x.c.po := by simp [slA, hokk, getN, hpo', hc1', hc2, poA]
          rw [e1]
          exact slIP_any x O A H C D E so sc gG gB gR gC n _ _ _ w hA hcap (fun h => by rw [hokk] at h; cases h) (fun _ h => by rw [hpo] at h; cases h) (fun _ _ => ⟨hc1, rfl, rfl, fun _ => rfl, fun h => absurd h hc2⟩)
    · have hpo' : x.c.po (tn n) = true := hpo
      have e1 : (slA gG gB gR gC n x) = poA x x.c.po := by simp [slA, hokk, getN, hpo', poA]
      have e2 : slX gG gB gR gC n x = 0 := by simp [slX, hokk, getX, hpo']
      have e3 : slC gG gB gR gC n x = 2 := by simp [slC, hokk, getC, hpo']
      rw [e1, e3]
      exact slIP_any x O A H C D E so sc gG gB gR gC n x.c.po 0 2 w hA hcap (fun h => by rw [hokk] at h; cases h) (fun _ _ => ⟨rfl, rfl, rfl⟩) (fun _ h => by rw [hpo] at h; cases h)
end Go.Proofs.Ytddeinpnadfgmaa

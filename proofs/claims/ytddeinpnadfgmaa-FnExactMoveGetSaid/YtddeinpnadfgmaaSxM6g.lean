/-
  Words got.
-/
import Derived.Test.YtddeinpnadfgmaaSxM6
namespace Go.Proofs.Ytddeinpnadfgmaa
set_option linter.unusedVariables false
set_option linter.unusedSimpArgs false
open Go.RowKit
set_option maxRecDepth 100000
set_option maxHeartbeats 8000000

def gwOk (gG gB gR gC : Int) (dB dR dC : Int) (x : AD) : Bool := arrOk gG gB gR gC x && adOk gG gB gR gC dB dR dC
def gwA (gG gB gR gC : Int) (dB dR dC : Int) (x : AD) : AD := if gwOk gG gB gR gC dB dR dC x = true then getN x (ixN gG gB gR gC dB dR dC) else x
def gwX (gG gB gR gC : Int) (dB dR dC : Int) (x : AD) : Int := if gwOk gG gB gR gC dB dR dC x = true then getX x (ixN gG gB gR gC dB dR dC) else 0
def gwC (gG gB gR gC : Int) (dB dR dC : Int) (x : AD) : Int := if gwOk gG gB gR gC dB dR dC x = true then getC x (ixN gG gB gR gC dB dR dC) else 2
theorem gwIP_T (x : AD) (O A H : Option Addr) (C D E : Nat) (so : Nat → Option Addr) (sc : Nat → Nat) (gG gB gR gC : Int) (dB dR dC : Int) (p : Nat → Bool) (gx gc : Int) : (exFn Try.prog {tb := [(53, sCpA), (52, sArrOk), (95, sAdOk), (69, sAdIx), (109, sFet)]} 400 Try.f90 ([.a (.agg [.int gG, .int gB, .int gR, .int gC]), .a (arrS 0 x O A H C D E), .a (.agg [.int dB, .int dR, .int dC])]) (arrR 0 x O A H so sc) (fun v ch => ∃ (Oq Aq Hq : Option Addr) (Cq Dq Ee : Nat) (soq : Nat → Option Addr) (scq : Nat → Nat), v.den = .tuple #[arrV (poA x p) Oq Aq Hq Cq Dq Ee, .int .i64 gx, .int .i64 gc] ∧ SelS ch (idsArr v ch) (arrO 0 (poA x p) Oq Aq Hq Cq Dq Ee soq scq))) = (
  (∀ b0 : Nat,
 (∀ b1 : Nat,
 (∀ b2 : Nat,
 (∀ b3 : Nat,
 (b1 = b1 ∧
 (∃ t4 : Nat, (∃ y5 : CD, (∃ so6 : (Nat →
 (Option Addr)), (∃ sc7 : (Nat →
 Nat), (∃ sd8 : (Nat →
 Nat), (∃ ag9 : (Nat →
 Int), (∃ hg10 : (Nat →
 Int), (((symRows false 0 x.1 so (fun x11 => 0)) = (symRows false t4 y5 so6 sd8) ∧
 ([(fun i12 => (Cs 3 (so i12) (x.1.2 i12) (sc i12))), (fun i13 => (Cb (x.1.4 i13)))] = [(fun i14 => (Cs 3 (so6 i14) (y5.2 i14) (sc7 i14))), (fun i15 => (Cb (y5.4 i15)))] ∧
 (O = O ∧
 (x.1.1 = x.1.1 ∧
 (x.1.1 = y5.1 ∧
 (A = A ∧
 (x.2 = x.2 ∧
 ([(fun i16 => (Ci (x.3 i16)))] = [(fun i17 => (Ci (ag9 i17)))] ∧
 (H = H ∧
 (x.4 = x.4 ∧
 [(fun i18 => (Ci (x.5 i18)))] = [(fun i19 => (Ci (hg10 i19)))])))))))))) ∧
 ((capA (AD.mk y5 x.2 ag9 x.4 hg10)) ∧
 (∀ Oq20 : (Option Addr),
 (∀ Aq21 : (Option Addr),
 (∀ Hq22 : (Option Addr),
 (∀ Cq23 : Nat,
 (∀ Dq24 : Nat,
 (∀ Ee25 : Nat,
 (∀ soq26 : (Nat →
 (Option Addr)),
 (∀ scq27 : (Nat →
 Nat),
 (∀ b28 : Nat,
 (b28 = b28 ∧
 (b0 = b0 ∧
 (b1 = b1 ∧
 (∃ t29 : Nat, (∃ y30 : CD, (∃ so31 : (Nat →
 (Option Addr)), (∃ sc32 : (Nat →
 Nat), (∃ sd33 : (Nat →
 Nat), (∃ ag34 : (Nat →
 Int), (∃ hg35 : (Nat →
 Int), (((symRows false 0 x.1 so (fun x36 => 0)) = (symRows false t29 y30 so31 sd33) ∧
 ([(fun i37 => (Cs 3 (so i37) (x.1.2 i37) (sc i37))), (fun i38 => (Cb (x.1.4 i38)))] = [(fun i39 => (Cs 3 (so31 i39) (y30.2 i39) (sc32 i39))), (fun i40 => (Cb (y30.4 i40)))] ∧
 (O = O ∧
 (x.1.1 = x.1.1 ∧
 (x.1.1 = y30.1 ∧
 (A = A ∧
 (x.2 = x.2 ∧
 ([(fun i41 => (Ci (x.3 i41)))] = [(fun i42 => (Ci (ag34 i42)))] ∧
 (H = H ∧
 (x.4 = x.4 ∧
 [(fun i43 => (Ci (x.5 i43)))] = [(fun i44 => (Ci (hg35 i44)))])))))))))) ∧
 ((lenA (AD.mk y30 x.2 ag34 x.4 hg35)) ∧
 (((!(arrOk gG gB gR gC (AD.mk y30 x.2 ag34 x.4 hg35))) = false →
 (b0 = b0 ∧
 (b2 = b2 ∧
 (((!(adOk gG gB gR gC dB dR dC)) = true →
 (b28 = b28 ∧
 (b3 = b3 ∧
 (b3 = b3 ∧
 (∃ Oq45 : (Option Addr), (∃ Aq46 : (Option Addr), (∃ Hq47 : (Option Addr), (∃ Cq48 : Nat, (∃ Dq49 : Nat, (∃ Ee50 : Nat, (∃ soq51 : (Nat →
 (Option Addr)), (∃ scq52 : (Nat →
 Nat), ((Wu [(Wa [(Ws Oq20 y5.1 Cq23), (Ws Aq21 x.2 Dq24), (Ws Hq22 x.4 Ee25)]), (Wi 0), (Wi 2)]) = (Wu [(Wa [(Ws Oq45 ((poA x p)).1.1 Cq48), (Ws Aq46 ((poA x p)).2 Dq49), (Ws Hq47 ((poA x p)).4 Ee50)]), (Wi gx), (Wi gc)]) ∧
 (SelS [(Hr false O 0 2 x.1.1 0 [(fun i53 => (Cs 3 (so i53) (x.1.2 i53) (sc i53))), (fun i54 => (Cb (x.1.4 i54)))]), (Hr false A 0 1 x.2 0 [(fun i55 => (Ci (x.3 i55)))]), (Hr false H 0 1 x.4 0 [(fun i56 => (Ci (x.5 i56)))]), (Ho false (symRows false 0 x.1 so (fun x57 => 0))), (Hc b0 37 [(Ci gG), (Ci gB), (Ci gR), (Ci gC)]), (Hc b1 33 [(Cs 0 O x.1.1 C), (Cs 1 A x.2 D), (Cs 2 H x.4 E)]), (Hc b2 70 [(Ci dB), (Ci dR), (Ci dC)]), (Hc b3 33 [(Cs 8 Oq20 y5.1 Cq23), (Cs 9 Aq21 x.2 Dq24), (Cs 10 Hq22 x.4 Ee25)]), (Hr true Oq20 52 2 y5.1 Cq23 [(fun i58 => (Cs 11 (soq26 i58) (y5.2 i58) (scq27 i58))), (fun i59 => (Cb (y5.4 i59)))]), (Hr true Aq21 3 1 x.2 Dq24 [(fun i60 => (Ci (ag9 i60)))]), (Hr true Hq22 3 1 x.4 Ee25 [(fun i61 => (Ci (hg10 i61)))]), (Ho true (symRows true 3 y5 soq26 scq27)), (Hc b28 33 [(Cs 8 Oq20 y5.1 Cq23), (Cs 9 Aq21 x.2 Dq24), (Cs 10 Hq22 x.4 Ee25)])] [8, 9, 10, 11] [(Hr true Oq45 52 2 ((poA x p)).1.1 Cq48 [(fun i62 => (Cs 3 (soq51 i62) (((poA x p)).1.2 i62) (scq52 i62))), (fun i63 => (Cb (((poA x p)).1.4 i63)))]), (Hr true Aq46 3 1 ((poA x p)).2 Dq49 [(fun i64 => (Ci (((poA x p)).3 i64)))]), (Hr true Hq47 3 1 ((poA x p)).4 Ee50 [(fun i65 => (Ci (((poA x p)).5 i65)))]), (Ho true (symRows true 3 ((poA x p)).1 soq51 scq52))])))))))))))))) ∧
 ((!(adOk gG gB gR gC dB dR dC)) = false →
 (b0 = b0 ∧
 (b2 = b2 ∧
 (b28 = b28 ∧
 (Oq20 = Oq20 ∧
 (y5.1 = y5.1 ∧
 ((0 ≤ (adIx gG gB gR gC dB dR dC) ∧ (adIx gG gB gR gC dB dR dC) < ((y5.1 : Nat) : Int)) ∧
 ((Oq20 = Oq20 ∧
 (Int.toNat (adIx gG gB gR gC dB dR dC)) < y5.1) ∧
 (Oq20 = Oq20 ∧
 ((Int.toNat (adIx gG gB gR gC dB dR dC)) < y5.1 ∧
 (Oq20 = Oq20 ∧
 ((Int.toNat (adIx gG gB gR gC dB dR dC)) < y5.1 ∧
 (((y5.4 (Int.toNat (adIx gG gB gR gC dB dR dC))) = true →
 (b28 = b28 ∧
 (b3 = b3 ∧
 (b3 = b3 ∧
 (∃ Oq66 : (Option Addr), (∃ Aq67 : (Option Addr), (∃ Hq68 : (Option Addr), (∃ Cq69 : Nat, (∃ Dq70 : Nat, (∃ Ee71 : Nat, (∃ soq72 : (Nat →
 (Option Addr)), (∃ scq73 : (Nat →
 Nat), ((Wu [(Wa [(Ws Oq20 y5.1 Cq23), (Ws Aq21 x.2 Dq24), (Ws Hq22 x.4 Ee25)]), (Wi 0), (Wi 2)]) = (Wu [(Wa [(Ws Oq66 ((poA x p)).1.1 Cq69), (Ws Aq67 ((poA x p)).2 Dq70), (Ws Hq68 ((poA x p)).4 Ee71)]), (Wi gx), (Wi gc)]) ∧
 (SelS [(Hr false O 0 2 x.1.1 0 [(fun i74 => (Cs 3 (so i74) (x.1.2 i74) (sc i74))), (fun i75 => (Cb (x.1.4 i75)))]), (Hr false A 0 1 x.2 0 [(fun i76 => (Ci (x.3 i76)))]), (Hr false H 0 1 x.4 0 [(fun i77 => (Ci (x.5 i77)))]), (Ho false (symRows false 0 x.1 so (fun x78 => 0))), (Hc b0 37 [(Ci gG), (Ci gB), (Ci gR), (Ci gC)]), (Hc b1 33 [(Cs 0 O x.1.1 C), (Cs 1 A x.2 D), (Cs 2 H x.4 E)]), (Hc b2 70 [(Ci dB), (Ci dR), (Ci dC)]), (Hc b3 33 [(Cs 8 Oq20 y5.1 Cq23), (Cs 9 Aq21 x.2 Dq24), (Cs 10 Hq22 x.4 Ee25)]), (Hr true Oq20 52 2 y5.1 Cq23 [(fun i79 => (Cs 11 (soq26 i79) (y5.2 i79) (scq27 i79))), (fun i80 => (Cb (y5.4 i80)))]), (Hr true Aq21 3 1 x.2 Dq24 [(fun i81 => (Ci (ag9 i81)))]), (Hr true Hq22 3 1 x.4 Ee25 [(fun i82 => (Ci (hg10 i82)))]), (Ho true (symRows true 3 y5 soq26 scq27)), (Hc b28 33 [(Cs 8 Oq20 y5.1 Cq23), (Cs 9 Aq21 x.2 Dq24), (Cs 10 Hq22 x.4 Ee25)])] [8, 9, 10, 11] [(Hr true Oq66 52 2 ((poA x p)).1.1 Cq69 [(fun i83 => (Cs 3 (soq72 i83) (((poA x p)).1.2 i83) (scq73 i83))), (fun i84 => (Cb (((poA x p)).1.4 i84)))]), (Hr true Aq67 3 1 ((poA x p)).2 Dq70 [(fun i85 => (Ci (((poA x p)).3 i85)))]), (Hr true Hq68 3 1 ((poA x p)).4 Ee71 [(fun i86 => (Ci (((poA x p)).5 i86)))]), (Ho true (symRows true 3 ((poA x p)).1 soq72 scq73))])))))))))))))) ∧
 ((y5.4 (Int.toNat (adIx gG gB gR gC dB dR dC))) = false →
 ((Oq20 = Oq20 ∧
 (Int.toNat (adIx gG gB gR gC dB dR dC)) < y5.1) ∧
 (Oq20 = Oq20 ∧
 ((Int.toNat (adIx gG gB gR gC dB dR dC)) < y5.1 ∧
 (Oq20 = Oq20 ∧
 ((Int.toNat (adIx gG gB gR gC dB dR dC)) < y5.1 ∧
 (∃ t87 : Nat, (∃ y88 : CD, (∃ so89 : (Nat →
 (Option Addr)), (∃ sc90 : (Nat →
 Nat), (∃ i91 : Nat, (((symRows true 3 y5 soq26 scq27) = (symRows true t87 y88 so89 sc90) ∧
 ((soq26 (Int.toNat (adIx gG gB gR gC dB dR dC))) = (so89 i91) ∧
 ((y5.2 (Int.toNat (adIx gG gB gR gC dB dR dC))) = (y88.2 i91) ∧
 i91 < y88.1))) ∧
 (((y5.2 (Int.toNat (adIx gG gB gR gC dB dR dC))) = 11 ∧
 (symB 11 (y88.3 i91) (11 : Int)) = true) ∧
 (∀ ro92 : (Option Addr),
 (∀ rc93 : Nat,
 ((Oq20 = Oq20 ∧
 (Int.toNat (adIx gG gB gR gC dB dR dC)) < y5.1) ∧
 (Oq20 = Oq20 ∧
 ((Int.toNat (adIx gG gB gR gC dB dR dC)) < y5.1 ∧
 (Oq20 = Oq20 ∧
 ((Int.toNat (adIx gG gB gR gC dB dR dC)) < y5.1 ∧
 (∃ t94 : Nat, (∃ y95 : CD, (∃ so96 : (Nat →
 (Option Addr)), (∃ sc97 : (Nat →
 Nat), (∃ i98 : Nat, (((symRows true 3 y5 soq26 scq27) = (symRows true t94 y95 so96 sc97) ∧
 ((soq26 (Int.toNat (adIx gG gB gR gC dB dR dC))) = (so96 i98) ∧
 ((y5.2 (Int.toNat (adIx gG gB gR gC dB dR dC))) = (y95.2 i98) ∧
 i98 < y95.1))) ∧
 (((y5.2 (Int.toNat (adIx gG gB gR gC dB dR dC))) = 11 ∧
 (symB 11 (y95.3 i98) (11 : Int)) = true) ∧
 ((((corC (y95.3 i98)) == (1 : Int)) = true →
 ((Oq20 = Oq20 ∧
 (Int.toNat (adIx gG gB gR gC dB dR dC)) < y5.1) ∧
 (Oq20 = Oq20 ∧
 ((Int.toNat (adIx gG gB gR gC dB dR dC)) < y5.1 ∧
 (Oq20 = Oq20 ∧
 ((Int.toNat (adIx gG gB gR gC dB dR dC)) < y5.1 ∧
 (b28 = b28 ∧
 (b3 = b3 ∧
 (b3 = b3 ∧
 (∃ Oq99 : (Option Addr), (∃ Aq100 : (Option Addr), (∃ Hq101 : (Option Addr), (∃ Cq102 : Nat, (∃ Dq103 : Nat, (∃ Ee104 : Nat, (∃ soq105 : (Nat →
 (Option Addr)), (∃ scq106 : (Nat →
 Nat), ((Wu [(Wa [(Ws Oq20 y5.1 Cq23), (Ws Aq21 x.2 Dq24), (Ws Hq22 x.4 Ee25)]), (Wi (decX (y95.3 i98))), (Wi (corC (y95.3 i98)))]) = (Wu [(Wa [(Ws Oq99 ((poA x p)).1.1 Cq102), (Ws Aq100 ((poA x p)).2 Dq103), (Ws Hq101 ((poA x p)).4 Ee104)]), (Wi gx), (Wi gc)]) ∧
 (SelS [(Hr false O 0 2 x.1.1 0 [(fun i107 => (Cs 3 (so i107) (x.1.2 i107) (sc i107))), (fun i108 => (Cb (x.1.4 i108)))]), (Hr false A 0 1 x.2 0 [(fun i109 => (Ci (x.3 i109)))]), (Hr false H 0 1 x.4 0 [(fun i110 => (Ci (x.5 i110)))]), (Ho false (symRows false 0 x.1 so (fun x111 => 0))), (Hc b0 37 [(Ci gG), (Ci gB), (Ci gR), (Ci gC)]), (Hc b1 33 [(Cs 0 O x.1.1 C), (Cs 1 A x.2 D), (Cs 2 H x.4 E)]), (Hc b2 70 [(Ci dB), (Ci dR), (Ci dC)]), (Hc b3 33 [(Cs 8 Oq20 y5.1 Cq23), (Cs 9 Aq21 x.2 Dq24), (Cs 10 Hq22 x.4 Ee25)]), (Hr true Oq20 52 2 y5.1 Cq23 [(fun j112 => (Cv (if j112 = (Int.toNat (adIx gG gB gR gC dB dR dC)) then (Ws ro92 11 rc93) else (Ws (soq26 j112) (y5.2 j112) (scq27 j112))))), (fun i113 => (Cb (y5.4 i113)))]), (Hr true Aq21 3 1 x.2 Dq24 [(fun i114 => (Ci (ag9 i114)))]), (Hr true Hq22 3 1 x.4 Ee25 [(fun i115 => (Ci (hg10 i115)))]), (Ho true (symRows true 3 y5 soq26 scq27)), (Hc b28 33 [(Cs 8 Oq20 y5.1 Cq23), (Cs 9 Aq21 x.2 Dq24), (Cs 10 Hq22 x.4 Ee25)]), (Hr true ro92 3 1 11 rc93 [(fun i116 => (Ci (corW (y88.3 i91) i116)))])] [8, 9, 10, 1000003] [(Hr true Oq99 52 2 ((poA x p)).1.1 Cq102 [(fun i117 => (Cs 3 (soq105 i117) (((poA x p)).1.2 i117) (scq106 i117))), (fun i118 => (Cb (((poA x p)).1.4 i118)))]), (Hr true Aq100 3 1 ((poA x p)).2 Dq103 [(fun i119 => (Ci (((poA x p)).3 i119)))]), (Hr true Hq101 3 1 ((poA x p)).4 Ee104 [(fun i120 => (Ci (((poA x p)).5 i120)))]), (Ho true (symRows true 3 ((poA x p)).1 soq105 scq106))]))))))))))))))))))) ∧
 (((corC (y95.3 i98)) == (1 : Int)) = false →
 ((((corC (y95.3 i98)) == (2 : Int)) = true →
 ((Oq20 = Oq20 ∧
 (Int.toNat (adIx gG gB gR gC dB dR dC)) < y5.1) ∧
 (Oq20 = Oq20 ∧
 ((Int.toNat (adIx gG gB gR gC dB dR dC)) < y5.1 ∧
 (Oq20 = Oq20 ∧
 ((Int.toNat (adIx gG gB gR gC dB dR dC)) < y5.1 ∧
 (b28 = b28 ∧
 (b3 = b3 ∧
 (b3 = b3 ∧
 (∃ Oq121 : (Option Addr), (∃ Aq122 : (Option Addr), (∃ Hq123 : (Option Addr), (∃ Cq124 : Nat, (∃ Dq125 : Nat, (∃ Ee126 : Nat, (∃ soq127 : (Nat →
 (Option Addr)), (∃ scq128 : (Nat →
 Nat), ((Wu [(Wa [(Ws Oq20 y5.1 Cq23), (Ws Aq21 x.2 Dq24), (Ws Hq22 x.4 Ee25)]), (Wi (decX (y95.3 i98))), (Wi (corC (y95.3 i98)))]) = (Wu [(Wa [(Ws Oq121 ((poA x p)).1.1 Cq124), (Ws Aq122 ((poA x p)).2 Dq125), (Ws Hq123 ((poA x p)).4 Ee126)]), (Wi gx), (Wi gc)]) ∧
 (SelS [(Hr false O 0 2 x.1.1 0 [(fun i129 => (Cs 3 (so i129) (x.1.2 i129) (sc i129))), (fun i130 => (Cb (x.1.4 i130)))]), (Hr false A 0 1 x.2 0 [(fun i131 => (Ci (x.3 i131)))]), (Hr false H 0 1 x.4 0 [(fun i132 => (Ci (x.5 i132)))]), (Ho false (symRows false 0 x.1 so (fun x133 => 0))), (Hc b0 37 [(Ci gG), (Ci gB), (Ci gR), (Ci gC)]), (Hc b1 33 [(Cs 0 O x.1.1 C), (Cs 1 A x.2 D), (Cs 2 H x.4 E)]), (Hc b2 70 [(Ci dB), (Ci dR), (Ci dC)]), (Hc b3 33 [(Cs 8 Oq20 y5.1 Cq23), (Cs 9 Aq21 x.2 Dq24), (Cs 10 Hq22 x.4 Ee25)]), (Hr true Oq20 52 2 y5.1 Cq23 [(fun i134 => (Cs 11 (soq26 i134) (y5.2 i134) (scq27 i134))), (fun j135 => (Cb (if j135 = (Int.toNat (adIx gG gB gR gC dB dR dC)) then true else (y5.4 j135))))]), (Hr true Aq21 3 1 x.2 Dq24 [(fun i136 => (Ci (ag9 i136)))]), (Hr true Hq22 3 1 x.4 Ee25 [(fun i137 => (Ci (hg10 i137)))]), (Ho true (symRows true 3 y5 soq26 scq27)), (Hc b28 33 [(Cs 8 Oq20 y5.1 Cq23), (Cs 9 Aq21 x.2 Dq24), (Cs 10 Hq22 x.4 Ee25)]), (Hr true ro92 3 1 11 rc93 [(fun i138 => (Ci (corW (y88.3 i91) i138)))])] [8, 9, 10, 11] [(Hr true Oq121 52 2 ((poA x p)).1.1 Cq124 [(fun i139 => (Cs 3 (soq127 i139) (((poA x p)).1.2 i139) (scq128 i139))), (fun i140 => (Cb (((poA x p)).1.4 i140)))]), (Hr true Aq122 3 1 ((poA x p)).2 Dq125 [(fun i141 => (Ci (((poA x p)).3 i141)))]), (Hr true Hq123 3 1 ((poA x p)).4 Ee126 [(fun i142 => (Ci (((poA x p)).5 i142)))]), (Ho true (symRows true 3 ((poA x p)).1 soq127 scq128))]))))))))))))))))))) ∧
 (((corC (y95.3 i98)) == (2 : Int)) = false →
 (b28 = b28 ∧
 (b3 = b3 ∧
 (b3 = b3 ∧
 (∃ Oq143 : (Option Addr), (∃ Aq144 : (Option Addr), (∃ Hq145 : (Option Addr), (∃ Cq146 : Nat, (∃ Dq147 : Nat, (∃ Ee148 : Nat, (∃ soq149 : (Nat →
 (Option Addr)), (∃ scq150 : (Nat →
 Nat), ((Wu [(Wa [(Ws Oq20 y5.1 Cq23), (Ws Aq21 x.2 Dq24), (Ws Hq22 x.4 Ee25)]), (Wi (decX (y95.3 i98))), (Wi (corC (y95.3 i98)))]) = (Wu [(Wa [(Ws Oq143 ((poA x p)).1.1 Cq146), (Ws Aq144 ((poA x p)).2 Dq147), (Ws Hq145 ((poA x p)).4 Ee148)]), (Wi gx), (Wi gc)]) ∧
 (SelS [(Hr false O 0 2 x.1.1 0 [(fun i151 => (Cs 3 (so i151) (x.1.2 i151) (sc i151))), (fun i152 => (Cb (x.1.4 i152)))]), (Hr false A 0 1 x.2 0 [(fun i153 => (Ci (x.3 i153)))]), (Hr false H 0 1 x.4 0 [(fun i154 => (Ci (x.5 i154)))]), (Ho false (symRows false 0 x.1 so (fun x155 => 0))), (Hc b0 37 [(Ci gG), (Ci gB), (Ci gR), (Ci gC)]), (Hc b1 33 [(Cs 0 O x.1.1 C), (Cs 1 A x.2 D), (Cs 2 H x.4 E)]), (Hc b2 70 [(Ci dB), (Ci dR), (Ci dC)]), (Hc b3 33 [(Cs 8 Oq20 y5.1 Cq23), (Cs 9 Aq21 x.2 Dq24), (Cs 10 Hq22 x.4 Ee25)]), (Hr true Oq20 52 2 y5.1 Cq23 [(fun i156 => (Cs 11 (soq26 i156) (y5.2 i156) (scq27 i156))), (fun i157 => (Cb (y5.4 i157)))]), (Hr true Aq21 3 1 x.2 Dq24 [(fun i158 => (Ci (ag9 i158)))]), (Hr true Hq22 3 1 x.4 Ee25 [(fun i159 => (Ci (hg10 i159)))]), (Ho true (symRows true 3 y5 soq26 scq27)), (Hc b28 33 [(Cs 8 Oq20 y5.1 Cq23), (Cs 9 Aq21 x.2 Dq24), (Cs 10 Hq22 x.4 Ee25)]), (Hr true ro92 3 1 11 rc93 [(fun i160 => (Ci (corW (y88.3 i91) i160)))])] [8, 9, 10, 11] [(Hr true Oq143 52 2 ((poA x p)).1.1 Cq146 [(fun i161 => (Cs 3 (soq149 i161) (((poA x p)).1.2 i161) (scq150 i161))), (fun i162 => (Cb (((poA x p)).1.4 i162)))]), (Hr true Aq144 3 1 ((poA x p)).2 Dq147 [(fun i163 => (Ci (((poA x p)).3 i163)))]), (Hr true Hq145 3 1 ((poA x p)).4 Ee148 [(fun i164 => (Ci (((poA x p)).5 i164)))]), (Ho true (symRows true 3 ((poA x p)).1 soq149 scq150))]))))))))))))))))))))))))))))))))))))))))))))))))))))))))))))) ∧
 ((!(arrOk gG gB gR gC (AD.mk y30 x.2 ag34 x.4 hg35))) = true →
 (b28 = b28 ∧
 (b3 = b3 ∧
 (b3 = b3 ∧
 (∃ Oq165 : (Option Addr), (∃ Aq166 : (Option Addr), (∃ Hq167 : (Option Addr), (∃ Cq168 : Nat, (∃ Dq169 : Nat, (∃ Ee170 : Nat, (∃ soq171 : (Nat →
 (Option Addr)), (∃ scq172 : (Nat →
 Nat), ((Wu [(Wa [(Ws Oq20 y5.1 Cq23), (Ws Aq21 x.2 Dq24), (Ws Hq22 x.4 Ee25)]), (Wi 0), (Wi 2)]) = (Wu [(Wa [(Ws Oq165 ((poA x p)).1.1 Cq168), (Ws Aq166 ((poA x p)).2 Dq169), (Ws Hq167 ((poA x p)).4 Ee170)]), (Wi gx), (Wi gc)]) ∧
 (SelS [(Hr false O 0 2 x.1.1 0 [(fun i173 => (Cs 3 (so i173) (x.1.2 i173) (sc i173))), (fun i174 => (Cb (x.1.4 i174)))]), (Hr false A 0 1 x.2 0 [(fun i175 => (Ci (x.3 i175)))]), (Hr false H 0 1 x.4 0 [(fun i176 => (Ci (x.5 i176)))]), (Ho false (symRows false 0 x.1 so (fun x177 => 0))), (Hc b0 37 [(Ci gG), (Ci gB), (Ci gR), (Ci gC)]), (Hc b1 33 [(Cs 0 O x.1.1 C), (Cs 1 A x.2 D), (Cs 2 H x.4 E)]), (Hc b2 70 [(Ci dB), (Ci dR), (Ci dC)]), (Hc b3 33 [(Cs 8 Oq20 y5.1 Cq23), (Cs 9 Aq21 x.2 Dq24), (Cs 10 Hq22 x.4 Ee25)]), (Hr true Oq20 52 2 y5.1 Cq23 [(fun i178 => (Cs 11 (soq26 i178) (y5.2 i178) (scq27 i178))), (fun i179 => (Cb (y5.4 i179)))]), (Hr true Aq21 3 1 x.2 Dq24 [(fun i180 => (Ci (ag9 i180)))]), (Hr true Hq22 3 1 x.4 Ee25 [(fun i181 => (Ci (hg10 i181)))]), (Ho true (symRows true 3 y5 soq26 scq27)), (Hc b28 33 [(Cs 8 Oq20 y5.1 Cq23), (Cs 9 Aq21 x.2 Dq24), (Cs 10 Hq22 x.4 Ee25)])] [8, 9, 10, 11] [(Hr true Oq165 52 2 ((poA x p)).1.1 Cq168 [(fun i182 => (Cs 3 (soq171 i182) (((poA x p)).1.2 i182) (scq172 i182))), (fun i183 => (Cb (((poA x p)).1.4 i183)))]), (Hr true Aq166 3 1 ((poA x p)).2 Dq169 [(fun i184 => (Ci (((poA x p)).3 i184)))]), (Hr true Hq167 3 1 ((poA x p)).4 Ee170 [(fun i185 => (Ci (((poA x p)).5 i185)))]), (Ho true (symRows true 3 ((poA x p)).1 soq171 scq172))]))))))))))))))))))))))))))))))))))))))))))))))))))) := by kernel_rfl
theorem gwIP_any (x : AD) (O A H : Option Addr) (C D E : Nat) (so : Nat → Option Addr) (sc : Nat → Nat) (gG gB gR gC : Int) (dB dR dC : Int) (p : Nat → Bool) (gx gc : Int) (w : World) (hA : SeenA w x O A H so sc) (hcap : capA x) (hN : gwOk gG gB gR gC dB dR dC x = false → p = x.c.po ∧ gx = 0 ∧ gc = 2) (hP : gwOk gG gB gR gC dB dR dC x = true → x.c.po (adIx gG gB gR gC dB dR dC).toNat = true → p = x.c.po ∧ gx = 0 ∧ gc = 2) (hQ : gwOk gG gB gR gC dB dR dC x = true → x.c.po (adIx gG gB gR gC dB dR dC).toNat = false → ¬ corC (x.c.sy (adIx gG gB gR gC dB dR dC).toNat) = 1 ∧ gx = decX (x.c.sy (adIx gG gB gR gC dB dR dC).toNat) ∧ gc = corC (x.c.sy (adIx gG gB gR gC dB dR dC).toNat) ∧ (corC (x.c.sy (adIx gG gB gR gC dB dR dC).toNat) = 0 → p = x.c.po) ∧ (corC (x.c.sy (adIx gG gB gR gC dB dR dC).toNat) = 2 → p = fun i => if i = (adIx gG gB gR gC dB dR dC).toNat then true else x.c.po i)) : Calls Try.prog 90 #[.agg #[.int .i64 gG, .int .i64 gB, .int .i64 gR, .int .i64 gC], arrV x O A H C D E, .agg #[.int .i64 dB, .int .i64 dR, .int .i64 dC]] w fun e w' => ∃ (Oq Aq Hq : Option Addr) (Cq Dq Ee : Nat) (soq : Nat → Option Addr) (scq : Nat → Nat), e = .returned (.tuple #[arrV (poA x p) Oq Aq Hq Cq Dq Ee, .int .i64 gx, .int .i64 gc]) ∧ HS ⟨w, fun _ => False⟩ (arrO 0 (poA x p) Oq Aq Hq Cq Dq Ee soq scq) w' := by
  refine fnB (tb := [(53, sCpA), (52, sArrOk), (95, sAdOk), (69, sAdIx), (109, sFet)]) ⟨sCpA_I, sArrOk_I, sAdOk_I, sAdIx_I, sFet_ok, trivial⟩ Try.func90 (@Eq.mpr _ _ (gwIP_T x O A H C D E so sc gG gB gR gC dB dR dC p gx gc) ?_) (HS.seenAll (fun _ => False) _ (hA.all 0 seenC_nil)) (fun v ch' w' ⟨Oq, Aq, Hq, Cq, Dq, Ee, soq, scq, hv, hc⟩ hs => ⟨Oq, Aq, Hq, Cq, Dq, Ee, soq, scq, by rw [hv], hc.hs hs⟩)
  clear hA
  have hl := lenA_of hcap
  cases hok : arrOk gG gB gR gC x
  · obtain ⟨rfl, rfl, rfl⟩ := hN (by simp [gwOk, hok])
    repeat' (first
      | with_reducible exact rfl
      | exact True.intro
      | with_reducible assumption
      | exact hl
      | exact hcap
      | (intro h; exfalso; rw [hok] at h; simp at h; done)
      | exact (by refine ⟨?_, rfl⟩; repeat' (first | exact True.intro | exact symRows_push | exact rfl | refine And.intro ?_ ?_ | (intro i hi; show _ = _; with_reducible rfl) | (intro i hi; show _ = _; rfl) | (intro i hi; show _ = _; simp only [SC.den]; split <;> rfl)))
      | refine And.intro ?_ ?_
      | apply Exists.intro
      | (intro h; exfalso; simp at h; done)
      | (intro h; replace h := of_decide_eq_true h; first | (exfalso; omega) | skip)
      | (intro h; replace h := of_decide_eq_false h; first | (exfalso; omega) | skip)
      | (intro i hi; with_reducible exact rfl)
      | intro _
      | omega
      | exact rfl)
  · cases had : adOk gG gB gR gC dB dR dC
    · obtain ⟨rfl, rfl, rfl⟩ := hN (by simp [gwOk, had])
      repeat' (first
        | with_reducible exact rfl
        | exact True.intro
        | with_reducible assumption
        | exact hl
        | exact hcap
        | (intro h; exfalso; rw [hok] at h; simp at h; done)
        | (intro h; exfalso; rw [had] at h; simp at h; done)
        | exact (by refine ⟨?_, rfl⟩; repeat' (first | exact True.intro | exact symRows_push | exact rfl | refine And.intro ?_ ?_ | (intro i hi; show _ = _; with_reducible rfl) | (intro i hi; show _ = _; rfl) | (intro i hi; show _ = _; simp only [SC.den]; split <;> rfl)))
        | refine And.intro ?_ ?_
        | apply Exists.intro
        | (intro h; exfalso; simp at h; done)
        | (intro h; replace h := of_decide_eq_true h; first | (exfalso; omega) | skip)
        | (intro h; replace h := of_decide_eq_false h; first | (exfalso; omega) | skip)
        | (intro i hi; with_reducible exact rfl)
        | intro _
        | omega
        | exact rfl)
    · have hin := arr_in hok had
      have hi1 := hin.1
      have hi2 := hin.2.1
      have hi3 : ltN (tn (adIx gG gB gR gC dB dR dC)) x.c.n := hin.2.2
      have hsy : symB (x.c.sn (adIx gG gB gR gC dB dR dC).toNat) (x.c.sy (adIx gG gB gR gC dB dR dC).toNat) 11 = true := (arrOk_facts hok).2.2.2.2 _ hi3
      have hn11 : x.c.sn (adIx gG gB gR gC dB dR dC).toNat = 11 := by have := symB_n hsy; omega
      have hs11 : symB 11 (x.c.sy (adIx gG gB gR gC dB dR dC).toNat) 11 = true := by rw [hn11] at hsy; exact hsy
      have hel := symB_el hs11
      have hcp := hcap.2.2.2 _ hi3
      have hokk : gwOk gG gB gR gC dB dR dC x = true := by simp [gwOk, hok, had]
      cases hpo : x.c.po (adIx gG gB gR gC dB dR dC).toNat
      · obtain ⟨c1, rfl, rfl, c0, c2⟩ := hQ hokk hpo
        have b1 : (corC (x.c.sy (adIx gG gB gR gC dB dR dC).toNat) == 1) = false := by simpa using c1
        rcases corC_cases (x.c.sy (adIx gG gB gR gC dB dR dC).toNat) with e | e | e
        · obtain rfl := c0 e
          have b2 : (corC (x.c.sy (adIx gG gB gR gC dB dR dC).toNat) == 2) = false := by rw [e]; rfl
          repeat' (first
            | with_reducible exact rfl
            | exact True.intro
            | with_reducible assumption
            | exact hl
            | exact hcap
            | with_reducible exact hs11
            | with_reducible exact hn11
            | (intro h; exfalso; rw [hok] at h; simp at h; done)
            | (intro h; exfalso; rw [had] at h; simp at h; done)
            | (intro h; exfalso; rw [b1] at h; simp at h; done)
            | (intro h; exfalso; rw [b2] at h; simp at h; done)
            | (intro h; exfalso; rw [hpo] at h; cases h; done)
            | (refine ⟨_, _, _, _, _, ⟨rfl, rfl, rfl, ?_⟩, ?_⟩)
            | exact (by refine ⟨?_, rfl⟩; repeat' (first | exact True.intro | exact symRows_push | exact rfl | refine And.intro ?_ ?_ | (intro i hi; show _ = _; with_reducible rfl) | (intro i hi; show _ = _; rfl) | (intro i hi; show _ = _; simp only [SC.den]; split <;> rfl)))
            | refine And.intro ?_ ?_
            | apply Exists.intro
            | (intro h; exfalso; simp at h; done)
            | (intro h; replace h := of_decide_eq_true h; first | (exfalso; omega) | skip)
            | (intro h; replace h := of_decide_eq_false h; first | (exfalso; omega) | skip)
            | (intro i hi; with_reducible exact rfl)
            | intro _
            | omega
            | exact rfl)
        · exact absurd e c1
        · obtain rfl := c2 e
          have b2 : (corC (x.c.sy (adIx gG gB gR gC dB dR dC).toNat) == 2) = true := by rw [e]; rfl
          repeat' (first
            | with_reducible exact rfl
            | exact True.intro
            | with_reducible assumption
            | exact hl
            | exact hcap
            | with_reducible exact hs11
            | with_reducible exact hn11
            | (intro h; exfalso; rw [hok] at h; simp at h; done)
            | (intro h; exfalso; rw [had] at h; simp at h; done)
            | (intro h; exfalso; rw [b1] at h; simp at h; done)
            | (intro h; exfalso; rw [b2] at h; simp at h; done)
            | (intro h; exfalso; rw [hpo] at h; cases h; done)
            | (refine ⟨_, _, _, _, _, ⟨rfl, rfl, rfl, ?_⟩, ?_⟩)
            | exact (by refine ⟨?_, rfl⟩; repeat' (first | exact True.intro | exact symRows_push | exact rfl | refine And.intro ?_ ?_ | (intro i hi; show _ = _; with_reducible rfl) | (intro i hi; show _ = _; rfl) | (intro i hi; show _ = _; simp only [SC.den]; split <;> rfl)))
            | refine And.intro ?_ ?_
            | apply Exists.intro
            | (intro h; exfalso; simp at h; done)
            | (intro h; replace h := of_decide_eq_true h; first | (exfalso; omega) | skip)
            | (intro h; replace h := of_decide_eq_false h; first | (exfalso; omega) | skip)
            | (intro i hi; with_reducible exact rfl)
            | intro _
            | omega
            | exact rfl)
      · obtain ⟨rfl, rfl, rfl⟩ := hP hokk hpo
        repeat' (first
          | with_reducible exact rfl
          | exact True.intro
          | with_reducible assumption
          | exact hl
          | exact hcap
          | with_reducible exact hs11
          | with_reducible exact hn11
          | (intro h; exfalso; rw [hok] at h; simp at h; done)
          | (intro h; exfalso; rw [had] at h; simp at h; done)
          | (intro h; exfalso; rw [hpo] at h; cases h; done)
          | (refine ⟨_, _, _, _, _, ⟨rfl, rfl, rfl, ?_⟩, ?_⟩)
          | exact (by refine ⟨?_, rfl⟩; repeat' (first | exact True.intro | exact symRows_push | exact rfl | refine And.intro ?_ ?_ | (intro i hi; show _ = _; with_reducible rfl) | (intro i hi; show _ = _; rfl) | (intro i hi; show _ = _; simp only [SC.den]; split <;> rfl)))
          | refine And.intro ?_ ?_
          | apply Exists.intro
          | (intro h; exfalso; simp at h; done)
          | (intro h; replace h := of_decide_eq_true h; first | (exfalso; omega) | skip)
          | (intro h; replace h := of_decide_eq_false h; first | (exfalso; omega) | skip)
          | (intro i hi; with_reducible exact rfl)
          | intro _
          | omega
          | exact rfl)
theorem gwIF_T (x : AD) (O A H : Option Addr) (C D E : Nat) (so : Nat → Option Addr) (sc : Nat → Nat) (gG gB gR gC : Int) (dB dR dC : Int) : (exFn Try.prog {tb := [(53, sCpA), (52, sArrOk), (95, sAdOk), (69, sAdIx), (109, sFet)]} 400 Try.f90 ([.a (.agg [.int gG, .int gB, .int gR, .int gC]), .a (arrS 0 x O A H C D E), .a (.agg [.int dB, .int dR, .int dC])]) (arrR 0 x O A H so sc) (fun v ch => ∃ (Oq Aq Hq : Option Addr) (Cq Dq Ee : Nat) (soq : Nat → Option Addr) (scq : Nat → Nat) (ro : Option Addr) (rc : Nat), v.den = .tuple #[arrV x Oq Aq Hq Cq Dq Ee, .int .i64 (decX (x.c.sy (ixN gG gB gR gC dB dR dC))), .int .i64 1] ∧ SelS ch (idsSt v ch) (storedCh x (ixN gG gB gR gC dB dR dC) 11 (fun i => corW (x.c.sy (ixN gG gB gR gC dB dR dC)) i) (x.c.po (ixN gG gB gR gC dB dR dC)) Oq Aq Hq Cq Dq Ee soq scq ro rc))) = (
  (∀ b0 : Nat,
 (∀ b1 : Nat,
 (∀ b2 : Nat,
 (∀ b3 : Nat,
 (b1 = b1 ∧
 (∃ t4 : Nat, (∃ y5 : CD, (∃ so6 : (Nat →
 (Option Addr)), (∃ sc7 : (Nat →
 Nat), (∃ sd8 : (Nat →
 Nat), (∃ ag9 : (Nat →
 Int), (∃ hg10 : (Nat →
 Int), (((symRows false 0 x.1 so (fun x11 => 0)) = (symRows false t4 y5 so6 sd8) ∧
 ([(fun i12 => (Cs 3 (so i12) (x.1.2 i12) (sc i12))), (fun i13 => (Cb (x.1.4 i13)))] = [(fun i14 => (Cs 3 (so6 i14) (y5.2 i14) (sc7 i14))), (fun i15 => (Cb (y5.4 i15)))] ∧
 (O = O ∧
 (x.1.1 = x.1.1 ∧
 (x.1.1 = y5.1 ∧
 (A = A ∧
 (x.2 = x.2 ∧
 ([(fun i16 => (Ci (x.3 i16)))] = [(fun i17 => (Ci (ag9 i17)))] ∧
 (H = H ∧
 (x.4 = x.4 ∧
 [(fun i18 => (Ci (x.5 i18)))] = [(fun i19 => (Ci (hg10 i19)))])))))))))) ∧
 ((capA (AD.mk y5 x.2 ag9 x.4 hg10)) ∧
 (∀ Oq20 : (Option Addr),
 (∀ Aq21 : (Option Addr),
 (∀ Hq22 : (Option Addr),
 (∀ Cq23 : Nat,
 (∀ Dq24 : Nat,
 (∀ Ee25 : Nat,
 (∀ soq26 : (Nat →
 (Option Addr)),
 (∀ scq27 : (Nat →
 Nat),
 (∀ b28 : Nat,
 (b28 = b28 ∧
 (b0 = b0 ∧
 (b1 = b1 ∧
 (∃ t29 : Nat, (∃ y30 : CD, (∃ so31 : (Nat →
 (Option Addr)), (∃ sc32 : (Nat →
 Nat), (∃ sd33 : (Nat →
 Nat), (∃ ag34 : (Nat →
 Int), (∃ hg35 : (Nat →
 Int), (((symRows false 0 x.1 so (fun x36 => 0)) = (symRows false t29 y30 so31 sd33) ∧
 ([(fun i37 => (Cs 3 (so i37) (x.1.2 i37) (sc i37))), (fun i38 => (Cb (x.1.4 i38)))] = [(fun i39 => (Cs 3 (so31 i39) (y30.2 i39) (sc32 i39))), (fun i40 => (Cb (y30.4 i40)))] ∧
 (O = O ∧
 (x.1.1 = x.1.1 ∧
 (x.1.1 = y30.1 ∧
 (A = A ∧
 (x.2 = x.2 ∧
 ([(fun i41 => (Ci (x.3 i41)))] = [(fun i42 => (Ci (ag34 i42)))] ∧
 (H = H ∧
 (x.4 = x.4 ∧
 [(fun i43 => (Ci (x.5 i43)))] = [(fun i44 => (Ci (hg35 i44)))])))))))))) ∧
 ((lenA (AD.mk y30 x.2 ag34 x.4 hg35)) ∧
 (((!(arrOk gG gB gR gC (AD.mk y30 x.2 ag34 x.4 hg35))) = false →
 (b0 = b0 ∧
 (b2 = b2 ∧
 (((!(adOk gG gB gR gC dB dR dC)) = true →
 (b28 = b28 ∧
 (b3 = b3 ∧
 (b3 = b3 ∧
 (∃ Oq45 : (Option Addr), (∃ Aq46 : (Option Addr), (∃ Hq47 : (Option Addr), (∃ Cq48 : Nat, (∃ Dq49 : Nat, (∃ Ee50 : Nat, (∃ soq51 : (Nat →
 (Option Addr)), (∃ scq52 : (Nat →
 Nat), (∃ ro53 : (Option Addr), (∃ rc54 : Nat, ((Wu [(Wa [(Ws Oq20 y5.1 Cq23), (Ws Aq21 x.2 Dq24), (Ws Hq22 x.4 Ee25)]), (Wi 0), (Wi 2)]) = (Wu [(Wa [(Ws Oq45 x.1.1 Cq48), (Ws Aq46 x.2 Dq49), (Ws Hq47 x.4 Ee50)]), (Wi (decX (x.1.3 (ixN gG gB gR gC dB dR dC)))), (Wi 1)]) ∧
 (SelS [(Hr false O 0 2 x.1.1 0 [(fun i55 => (Cs 3 (so i55) (x.1.2 i55) (sc i55))), (fun i56 => (Cb (x.1.4 i56)))]), (Hr false A 0 1 x.2 0 [(fun i57 => (Ci (x.3 i57)))]), (Hr false H 0 1 x.4 0 [(fun i58 => (Ci (x.5 i58)))]), (Ho false (symRows false 0 x.1 so (fun x59 => 0))), (Hc b0 37 [(Ci gG), (Ci gB), (Ci gR), (Ci gC)]), (Hc b1 33 [(Cs 0 O x.1.1 C), (Cs 1 A x.2 D), (Cs 2 H x.4 E)]), (Hc b2 70 [(Ci dB), (Ci dR), (Ci dC)]), (Hc b3 33 [(Cs 8 Oq20 y5.1 Cq23), (Cs 9 Aq21 x.2 Dq24), (Cs 10 Hq22 x.4 Ee25)]), (Hr true Oq20 52 2 y5.1 Cq23 [(fun i60 => (Cs 11 (soq26 i60) (y5.2 i60) (scq27 i60))), (fun i61 => (Cb (y5.4 i61)))]), (Hr true Aq21 3 1 x.2 Dq24 [(fun i62 => (Ci (ag9 i62)))]), (Hr true Hq22 3 1 x.4 Ee25 [(fun i63 => (Ci (hg10 i63)))]), (Ho true (symRows true 3 y5 soq26 scq27)), (Hc b28 33 [(Cs 8 Oq20 y5.1 Cq23), (Cs 9 Aq21 x.2 Dq24), (Cs 10 Hq22 x.4 Ee25)])] [8, 9, 10, 11, 12] [(Hr true Oq45 52 2 x.1.1 Cq48 [(fun i64 => (Cv (if i64 = (ixN gG gB gR gC dB dR dC) then (Ws ro53 11 rc54) else (Ws (soq51 i64) (x.1.2 i64) (scq52 i64))))), (fun i65 => (Cb (if i65 = (ixN gG gB gR gC dB dR dC) then (x.1.4 (ixN gG gB gR gC dB dR dC)) else (x.1.4 i65))))]), (Hr true Aq46 3 1 x.2 Dq49 [(fun i66 => (Ci (x.3 i66)))]), (Hr true Hq47 3 1 x.4 Ee50 [(fun i67 => (Ci (x.5 i67)))]), (Ho true (symRows true 3 x.1 soq51 scq52)), (Hr true ro53 3 1 11 rc54 [(fun i68 => (Ci (corW (x.1.3 (ixN gG gB gR gC dB dR dC)) i68)))])])))))))))))))))) ∧
 ((!(adOk gG gB gR gC dB dR dC)) = false →
 (b0 = b0 ∧
 (b2 = b2 ∧
 (b28 = b28 ∧
 (Oq20 = Oq20 ∧
 (y5.1 = y5.1 ∧
 ((0 ≤ (adIx gG gB gR gC dB dR dC) ∧ (adIx gG gB gR gC dB dR dC) < ((y5.1 : Nat) : Int)) ∧
 ((Oq20 = Oq20 ∧
 (Int.toNat (adIx gG gB gR gC dB dR dC)) < y5.1) ∧
 (Oq20 = Oq20 ∧
 ((Int.toNat (adIx gG gB gR gC dB dR dC)) < y5.1 ∧
 (Oq20 = Oq20 ∧
 ((Int.toNat (adIx gG gB gR gC dB dR dC)) < y5.1 ∧
 (((y5.4 (Int.toNat (adIx gG gB gR gC dB dR dC))) = true →
 (b28 = b28 ∧
 (b3 = b3 ∧
 (b3 = b3 ∧
 (∃ Oq69 : (Option Addr), (∃ Aq70 : (Option Addr), (∃ Hq71 : (Option Addr), (∃ Cq72 : Nat, (∃ Dq73 : Nat, (∃ Ee74 : Nat, (∃ soq75 : (Nat →
 (Option Addr)), (∃ scq76 : (Nat →
 Nat), (∃ ro77 : (Option Addr), (∃ rc78 : Nat, ((Wu [(Wa [(Ws Oq20 y5.1 Cq23), (Ws Aq21 x.2 Dq24), (Ws Hq22 x.4 Ee25)]), (Wi 0), (Wi 2)]) = (Wu [(Wa [(Ws Oq69 x.1.1 Cq72), (Ws Aq70 x.2 Dq73), (Ws Hq71 x.4 Ee74)]), (Wi (decX (x.1.3 (ixN gG gB gR gC dB dR dC)))), (Wi 1)]) ∧
 (SelS [(Hr false O 0 2 x.1.1 0 [(fun i79 => (Cs 3 (so i79) (x.1.2 i79) (sc i79))), (fun i80 => (Cb (x.1.4 i80)))]), (Hr false A 0 1 x.2 0 [(fun i81 => (Ci (x.3 i81)))]), (Hr false H 0 1 x.4 0 [(fun i82 => (Ci (x.5 i82)))]), (Ho false (symRows false 0 x.1 so (fun x83 => 0))), (Hc b0 37 [(Ci gG), (Ci gB), (Ci gR), (Ci gC)]), (Hc b1 33 [(Cs 0 O x.1.1 C), (Cs 1 A x.2 D), (Cs 2 H x.4 E)]), (Hc b2 70 [(Ci dB), (Ci dR), (Ci dC)]), (Hc b3 33 [(Cs 8 Oq20 y5.1 Cq23), (Cs 9 Aq21 x.2 Dq24), (Cs 10 Hq22 x.4 Ee25)]), (Hr true Oq20 52 2 y5.1 Cq23 [(fun i84 => (Cs 11 (soq26 i84) (y5.2 i84) (scq27 i84))), (fun i85 => (Cb (y5.4 i85)))]), (Hr true Aq21 3 1 x.2 Dq24 [(fun i86 => (Ci (ag9 i86)))]), (Hr true Hq22 3 1 x.4 Ee25 [(fun i87 => (Ci (hg10 i87)))]), (Ho true (symRows true 3 y5 soq26 scq27)), (Hc b28 33 [(Cs 8 Oq20 y5.1 Cq23), (Cs 9 Aq21 x.2 Dq24), (Cs 10 Hq22 x.4 Ee25)])] [8, 9, 10, 11, 12] [(Hr true Oq69 52 2 x.1.1 Cq72 [(fun i88 => (Cv (if i88 = (ixN gG gB gR gC dB dR dC) then (Ws ro77 11 rc78) else (Ws (soq75 i88) (x.1.2 i88) (scq76 i88))))), (fun i89 => (Cb (if i89 = (ixN gG gB gR gC dB dR dC) then (x.1.4 (ixN gG gB gR gC dB dR dC)) else (x.1.4 i89))))]), (Hr true Aq70 3 1 x.2 Dq73 [(fun i90 => (Ci (x.3 i90)))]), (Hr true Hq71 3 1 x.4 Ee74 [(fun i91 => (Ci (x.5 i91)))]), (Ho true (symRows true 3 x.1 soq75 scq76)), (Hr true ro77 3 1 11 rc78 [(fun i92 => (Ci (corW (x.1.3 (ixN gG gB gR gC dB dR dC)) i92)))])])))))))))))))))) ∧
 ((y5.4 (Int.toNat (adIx gG gB gR gC dB dR dC))) = false →
 ((Oq20 = Oq20 ∧
 (Int.toNat (adIx gG gB gR gC dB dR dC)) < y5.1) ∧
 (Oq20 = Oq20 ∧
 ((Int.toNat (adIx gG gB gR gC dB dR dC)) < y5.1 ∧
 (Oq20 = Oq20 ∧
 ((Int.toNat (adIx gG gB gR gC dB dR dC)) < y5.1 ∧
 (∃ t93 : Nat, (∃ y94 : CD, (∃ so95 : (Nat →
 (Option Addr)), (∃ sc96 : (Nat →
 Nat), (∃ i97 : Nat, (((symRows true 3 y5 soq26 scq27) = (symRows true t93 y94 so95 sc96) ∧
 ((soq26 (Int.toNat (adIx gG gB gR gC dB dR dC))) = (so95 i97) ∧
 ((y5.2 (Int.toNat (adIx gG gB gR gC dB dR dC))) = (y94.2 i97) ∧
 i97 < y94.1))) ∧
 (((y5.2 (Int.toNat (adIx gG gB gR gC dB dR dC))) = 11 ∧
 (symB 11 (y94.3 i97) (11 : Int)) = true) ∧
 (∀ ro98 : (Option Addr),
 (∀ rc99 : Nat,
 ((Oq20 = Oq20 ∧
 (Int.toNat (adIx gG gB gR gC dB dR dC)) < y5.1) ∧
 (Oq20 = Oq20 ∧
 ((Int.toNat (adIx gG gB gR gC dB dR dC)) < y5.1 ∧
 (Oq20 = Oq20 ∧
 ((Int.toNat (adIx gG gB gR gC dB dR dC)) < y5.1 ∧
 (∃ t100 : Nat, (∃ y101 : CD, (∃ so102 : (Nat →
 (Option Addr)), (∃ sc103 : (Nat →
 Nat), (∃ i104 : Nat, (((symRows true 3 y5 soq26 scq27) = (symRows true t100 y101 so102 sc103) ∧
 ((soq26 (Int.toNat (adIx gG gB gR gC dB dR dC))) = (so102 i104) ∧
 ((y5.2 (Int.toNat (adIx gG gB gR gC dB dR dC))) = (y101.2 i104) ∧
 i104 < y101.1))) ∧
 (((y5.2 (Int.toNat (adIx gG gB gR gC dB dR dC))) = 11 ∧
 (symB 11 (y101.3 i104) (11 : Int)) = true) ∧
 ((((corC (y101.3 i104)) == (1 : Int)) = true →
 ((Oq20 = Oq20 ∧
 (Int.toNat (adIx gG gB gR gC dB dR dC)) < y5.1) ∧
 (Oq20 = Oq20 ∧
 ((Int.toNat (adIx gG gB gR gC dB dR dC)) < y5.1 ∧
 (Oq20 = Oq20 ∧
 ((Int.toNat (adIx gG gB gR gC dB dR dC)) < y5.1 ∧
 (b28 = b28 ∧
 (b3 = b3 ∧
 (b3 = b3 ∧
 (∃ Oq105 : (Option Addr), (∃ Aq106 : (Option Addr), (∃ Hq107 : (Option Addr), (∃ Cq108 : Nat, (∃ Dq109 : Nat, (∃ Ee110 : Nat, (∃ soq111 : (Nat →
 (Option Addr)), (∃ scq112 : (Nat →
 Nat), (∃ ro113 : (Option Addr), (∃ rc114 : Nat, ((Wu [(Wa [(Ws Oq20 y5.1 Cq23), (Ws Aq21 x.2 Dq24), (Ws Hq22 x.4 Ee25)]), (Wi (decX (y101.3 i104))), (Wi (corC (y101.3 i104)))]) = (Wu [(Wa [(Ws Oq105 x.1.1 Cq108), (Ws Aq106 x.2 Dq109), (Ws Hq107 x.4 Ee110)]), (Wi (decX (x.1.3 (ixN gG gB gR gC dB dR dC)))), (Wi 1)]) ∧
 (SelS [(Hr false O 0 2 x.1.1 0 [(fun i115 => (Cs 3 (so i115) (x.1.2 i115) (sc i115))), (fun i116 => (Cb (x.1.4 i116)))]), (Hr false A 0 1 x.2 0 [(fun i117 => (Ci (x.3 i117)))]), (Hr false H 0 1 x.4 0 [(fun i118 => (Ci (x.5 i118)))]), (Ho false (symRows false 0 x.1 so (fun x119 => 0))), (Hc b0 37 [(Ci gG), (Ci gB), (Ci gR), (Ci gC)]), (Hc b1 33 [(Cs 0 O x.1.1 C), (Cs 1 A x.2 D), (Cs 2 H x.4 E)]), (Hc b2 70 [(Ci dB), (Ci dR), (Ci dC)]), (Hc b3 33 [(Cs 8 Oq20 y5.1 Cq23), (Cs 9 Aq21 x.2 Dq24), (Cs 10 Hq22 x.4 Ee25)]), (Hr true Oq20 52 2 y5.1 Cq23 [(fun j120 => (Cv (if j120 = (Int.toNat (adIx gG gB gR gC dB dR dC)) then (Ws ro98 11 rc99) else (Ws (soq26 j120) (y5.2 j120) (scq27 j120))))), (fun i121 => (Cb (y5.4 i121)))]), (Hr true Aq21 3 1 x.2 Dq24 [(fun i122 => (Ci (ag9 i122)))]), (Hr true Hq22 3 1 x.4 Ee25 [(fun i123 => (Ci (hg10 i123)))]), (Ho true (symRows true 3 y5 soq26 scq27)), (Hc b28 33 [(Cs 8 Oq20 y5.1 Cq23), (Cs 9 Aq21 x.2 Dq24), (Cs 10 Hq22 x.4 Ee25)]), (Hr true ro98 3 1 11 rc99 [(fun i124 => (Ci (corW (y94.3 i97) i124)))])] [8, 9, 10, 11, 13] [(Hr true Oq105 52 2 x.1.1 Cq108 [(fun i125 => (Cv (if i125 = (ixN gG gB gR gC dB dR dC) then (Ws ro113 11 rc114) else (Ws (soq111 i125) (x.1.2 i125) (scq112 i125))))), (fun i126 => (Cb (if i126 = (ixN gG gB gR gC dB dR dC) then (x.1.4 (ixN gG gB gR gC dB dR dC)) else (x.1.4 i126))))]), (Hr true Aq106 3 1 x.2 Dq109 [(fun i127 => (Ci (x.3 i127)))]), (Hr true Hq107 3 1 x.4 Ee110 [(fun i128 => (Ci (x.5 i128)))]), (Ho true (symRows true 3 x.1 soq111 scq112)), (Hr true ro113 3 1 11 rc114 [(fun i129 => (Ci (corW (x.1.3 (ixN gG gB gR gC dB dR dC)) i129)))])]))))))))))))))))))))) ∧
 (((corC (y101.3 i104)) == (1 : Int)) = false →
 ((((corC (y101.3 i104)) == (2 : Int)) = true →
 ((Oq20 = Oq20 ∧
 (Int.toNat (adIx gG gB gR gC dB dR dC)) < y5.1) ∧
 (Oq20 = Oq20 ∧
 ((Int.toNat (adIx gG gB gR gC dB dR dC)) < y5.1 ∧
 (Oq20 = Oq20 ∧
 ((Int.toNat (adIx gG gB gR gC dB dR dC)) < y5.1 ∧
 (b28 = b28 ∧
 (b3 = b3 ∧
 (b3 = b3 ∧
 (∃ Oq130 : (Option Addr), (∃ Aq131 : (Option Addr), (∃ Hq132 : (Option Addr), (∃ Cq133 : Nat, (∃ Dq134 : Nat, (∃ Ee135 : Nat, (∃ soq136 : (Nat →
 (Option Addr)), (∃ scq137 : (Nat →
 Nat), (∃ ro138 : (Option Addr), (∃ rc139 : Nat, ((Wu [(Wa [(Ws Oq20 y5.1 Cq23), (Ws Aq21 x.2 Dq24), (Ws Hq22 x.4 Ee25)]), (Wi (decX (y101.3 i104))), (Wi (corC (y101.3 i104)))]) = (Wu [(Wa [(Ws Oq130 x.1.1 Cq133), (Ws Aq131 x.2 Dq134), (Ws Hq132 x.4 Ee135)]), (Wi (decX (x.1.3 (ixN gG gB gR gC dB dR dC)))), (Wi 1)]) ∧
 (SelS [(Hr false O 0 2 x.1.1 0 [(fun i140 => (Cs 3 (so i140) (x.1.2 i140) (sc i140))), (fun i141 => (Cb (x.1.4 i141)))]), (Hr false A 0 1 x.2 0 [(fun i142 => (Ci (x.3 i142)))]), (Hr false H 0 1 x.4 0 [(fun i143 => (Ci (x.5 i143)))]), (Ho false (symRows false 0 x.1 so (fun x144 => 0))), (Hc b0 37 [(Ci gG), (Ci gB), (Ci gR), (Ci gC)]), (Hc b1 33 [(Cs 0 O x.1.1 C), (Cs 1 A x.2 D), (Cs 2 H x.4 E)]), (Hc b2 70 [(Ci dB), (Ci dR), (Ci dC)]), (Hc b3 33 [(Cs 8 Oq20 y5.1 Cq23), (Cs 9 Aq21 x.2 Dq24), (Cs 10 Hq22 x.4 Ee25)]), (Hr true Oq20 52 2 y5.1 Cq23 [(fun i145 => (Cs 11 (soq26 i145) (y5.2 i145) (scq27 i145))), (fun j146 => (Cb (if j146 = (Int.toNat (adIx gG gB gR gC dB dR dC)) then true else (y5.4 j146))))]), (Hr true Aq21 3 1 x.2 Dq24 [(fun i147 => (Ci (ag9 i147)))]), (Hr true Hq22 3 1 x.4 Ee25 [(fun i148 => (Ci (hg10 i148)))]), (Ho true (symRows true 3 y5 soq26 scq27)), (Hc b28 33 [(Cs 8 Oq20 y5.1 Cq23), (Cs 9 Aq21 x.2 Dq24), (Cs 10 Hq22 x.4 Ee25)]), (Hr true ro98 3 1 11 rc99 [(fun i149 => (Ci (corW (y94.3 i97) i149)))])] [8, 9, 10, 11, 13] [(Hr true Oq130 52 2 x.1.1 Cq133 [(fun i150 => (Cv (if i150 = (ixN gG gB gR gC dB dR dC) then (Ws ro138 11 rc139) else (Ws (soq136 i150) (x.1.2 i150) (scq137 i150))))), (fun i151 => (Cb (if i151 = (ixN gG gB gR gC dB dR dC) then (x.1.4 (ixN gG gB gR gC dB dR dC)) else (x.1.4 i151))))]), (Hr true Aq131 3 1 x.2 Dq134 [(fun i152 => (Ci (x.3 i152)))]), (Hr true Hq132 3 1 x.4 Ee135 [(fun i153 => (Ci (x.5 i153)))]), (Ho true (symRows true 3 x.1 soq136 scq137)), (Hr true ro138 3 1 11 rc139 [(fun i154 => (Ci (corW (x.1.3 (ixN gG gB gR gC dB dR dC)) i154)))])]))))))))))))))))))))) ∧
 (((corC (y101.3 i104)) == (2 : Int)) = false →
 (b28 = b28 ∧
 (b3 = b3 ∧
 (b3 = b3 ∧
 (∃ Oq155 : (Option Addr), (∃ Aq156 : (Option Addr), (∃ Hq157 : (Option Addr), (∃ Cq158 : Nat, (∃ Dq159 : Nat, (∃ Ee160 : Nat, (∃ soq161 : (Nat →
 (Option Addr)), (∃ scq162 : (Nat →
 Nat), (∃ ro163 : (Option Addr), (∃ rc164 : Nat, ((Wu [(Wa [(Ws Oq20 y5.1 Cq23), (Ws Aq21 x.2 Dq24), (Ws Hq22 x.4 Ee25)]), (Wi (decX (y101.3 i104))), (Wi (corC (y101.3 i104)))]) = (Wu [(Wa [(Ws Oq155 x.1.1 Cq158), (Ws Aq156 x.2 Dq159), (Ws Hq157 x.4 Ee160)]), (Wi (decX (x.1.3 (ixN gG gB gR gC dB dR dC)))), (Wi 1)]) ∧
 (SelS [(Hr false O 0 2 x.1.1 0 [(fun i165 => (Cs 3 (so i165) (x.1.2 i165) (sc i165))), (fun i166 => (Cb (x.1.4 i166)))]), (Hr false A 0 1 x.2 0 [(fun i167 => (Ci (x.3 i167)))]), (Hr false H 0 1 x.4 0 [(fun i168 => (Ci (x.5 i168)))]), (Ho false (symRows false 0 x.1 so (fun x169 => 0))), (Hc b0 37 [(Ci gG), (Ci gB), (Ci gR), (Ci gC)]), (Hc b1 33 [(Cs 0 O x.1.1 C), (Cs 1 A x.2 D), (Cs 2 H x.4 E)]), (Hc b2 70 [(Ci dB), (Ci dR), (Ci dC)]), (Hc b3 33 [(Cs 8 Oq20 y5.1 Cq23), (Cs 9 Aq21 x.2 Dq24), (Cs 10 Hq22 x.4 Ee25)]), (Hr true Oq20 52 2 y5.1 Cq23 [(fun i170 => (Cs 11 (soq26 i170) (y5.2 i170) (scq27 i170))), (fun i171 => (Cb (y5.4 i171)))]), (Hr true Aq21 3 1 x.2 Dq24 [(fun i172 => (Ci (ag9 i172)))]), (Hr true Hq22 3 1 x.4 Ee25 [(fun i173 => (Ci (hg10 i173)))]), (Ho true (symRows true 3 y5 soq26 scq27)), (Hc b28 33 [(Cs 8 Oq20 y5.1 Cq23), (Cs 9 Aq21 x.2 Dq24), (Cs 10 Hq22 x.4 Ee25)]), (Hr true ro98 3 1 11 rc99 [(fun i174 => (Ci (corW (y94.3 i97) i174)))])] [8, 9, 10, 11, 13] [(Hr true Oq155 52 2 x.1.1 Cq158 [(fun i175 => (Cv (if i175 = (ixN gG gB gR gC dB dR dC) then (Ws ro163 11 rc164) else (Ws (soq161 i175) (x.1.2 i175) (scq162 i175))))), (fun i176 => (Cb (if i176 = (ixN gG gB gR gC dB dR dC) then (x.1.4 (ixN gG gB gR gC dB dR dC)) else (x.1.4 i176))))]), (Hr true Aq156 3 1 x.2 Dq159 [(fun i177 => (Ci (x.3 i177)))]), (Hr true Hq157 3 1 x.4 Ee160 [(fun i178 => (Ci (x.5 i178)))]), (Ho true (symRows true 3 x.1 soq161 scq162)), (Hr true ro163 3 1 11 rc164 [(fun i179 => (Ci (corW (x.1.3 (ixN gG gB gR gC dB dR dC)) i179)))])]))))))))))))))))))))))))))))))))))))))))))))))))))))))))))))))) ∧
 ((!(arrOk gG gB gR gC (AD.mk y30 x.2 ag34 x.4 hg35))) = true →
 (b28 = b28 ∧
 (b3 = b3 ∧
 (b3 = b3 ∧
 (∃ Oq180 : (Option Addr), (∃ Aq181 : (Option Addr), (∃ Hq182 : (Option Addr), (∃ Cq183 : Nat, (∃ Dq184 : Nat, (∃ Ee185 : Nat, (∃ soq186 : (Nat →
 (Option Addr)), (∃ scq187 : (Nat →
 Nat), (∃ ro188 : (Option Addr), (∃ rc189 : Nat, ((Wu [(Wa [(Ws Oq20 y5.1 Cq23), (Ws Aq21 x.2 Dq24), (Ws Hq22 x.4 Ee25)]), (Wi 0), (Wi 2)]) = (Wu [(Wa [(Ws Oq180 x.1.1 Cq183), (Ws Aq181 x.2 Dq184), (Ws Hq182 x.4 Ee185)]), (Wi (decX (x.1.3 (ixN gG gB gR gC dB dR dC)))), (Wi 1)]) ∧
 (SelS [(Hr false O 0 2 x.1.1 0 [(fun i190 => (Cs 3 (so i190) (x.1.2 i190) (sc i190))), (fun i191 => (Cb (x.1.4 i191)))]), (Hr false A 0 1 x.2 0 [(fun i192 => (Ci (x.3 i192)))]), (Hr false H 0 1 x.4 0 [(fun i193 => (Ci (x.5 i193)))]), (Ho false (symRows false 0 x.1 so (fun x194 => 0))), (Hc b0 37 [(Ci gG), (Ci gB), (Ci gR), (Ci gC)]), (Hc b1 33 [(Cs 0 O x.1.1 C), (Cs 1 A x.2 D), (Cs 2 H x.4 E)]), (Hc b2 70 [(Ci dB), (Ci dR), (Ci dC)]), (Hc b3 33 [(Cs 8 Oq20 y5.1 Cq23), (Cs 9 Aq21 x.2 Dq24), (Cs 10 Hq22 x.4 Ee25)]), (Hr true Oq20 52 2 y5.1 Cq23 [(fun i195 => (Cs 11 (soq26 i195) (y5.2 i195) (scq27 i195))), (fun i196 => (Cb (y5.4 i196)))]), (Hr true Aq21 3 1 x.2 Dq24 [(fun i197 => (Ci (ag9 i197)))]), (Hr true Hq22 3 1 x.4 Ee25 [(fun i198 => (Ci (hg10 i198)))]), (Ho true (symRows true 3 y5 soq26 scq27)), (Hc b28 33 [(Cs 8 Oq20 y5.1 Cq23), (Cs 9 Aq21 x.2 Dq24), (Cs 10 Hq22 x.4 Ee25)])] [8, 9, 10, 11, 12] [(Hr true Oq180 52 2 x.1.1 Cq183 [(fun i199 => (Cv (if i199 = (ixN gG gB gR gC dB dR dC) then (Ws ro188 11 rc189) else (Ws (soq186 i199) (x.1.2 i199) (scq187 i199))))), (fun i200 => (Cb (if i200 = (ixN gG gB gR gC dB dR dC) then (x.1.4 (ixN gG gB gR gC dB dR dC)) else (x.1.4 i200))))]), (Hr true Aq181 3 1 x.2 Dq184 [(fun i201 => (Ci (x.3 i201)))]), (Hr true Hq182 3 1 x.4 Ee185 [(fun i202 => (Ci (x.5 i202)))]), (Ho true (symRows true 3 x.1 soq186 scq187)), (Hr true ro188 3 1 11 rc189 [(fun i203 => (Ci (corW (x.1.3 (ixN gG gB gR gC dB dR dC)) i203)))])]))))))))))))))))))))))))))))))))))))))))))))))))))))) := by kernel_rfl
theorem gwIF_any (x : AD) (O A H : Option Addr) (C D E : Nat) (so : Nat → Option Addr) (sc : Nat → Nat) (gG gB gR gC : Int) (dB dR dC : Int) (w : World) (hA : SeenA w x O A H so sc) (hcap : capA x) (hokk : gwOk gG gB gR gC dB dR dC x = true) (hpo : x.c.po (adIx gG gB gR gC dB dR dC).toNat = false) (hc1 : corC (x.c.sy (adIx gG gB gR gC dB dR dC).toNat) = 1) : Calls Try.prog 90 #[.agg #[.int .i64 gG, .int .i64 gB, .int .i64 gR, .int .i64 gC], arrV x O A H C D E, .agg #[.int .i64 dB, .int .i64 dR, .int .i64 dC]] w fun e w' => ∃ (Oq Aq Hq : Option Addr) (Cq Dq Ee : Nat) (soq : Nat → Option Addr) (scq : Nat → Nat), e = .returned (.tuple #[arrV (setA x (ixN gG gB gR gC dB dR dC) 11 (fun i => corW (x.c.sy (ixN gG gB gR gC dB dR dC)) i) (x.c.po (ixN gG gB gR gC dB dR dC))) Oq Aq Hq Cq Dq Ee, .int .i64 (decX (x.c.sy (ixN gG gB gR gC dB dR dC))), .int .i64 1]) ∧ HS ⟨w, fun _ => False⟩ (arrO 0 (setA x (ixN gG gB gR gC dB dR dC) 11 (fun i => corW (x.c.sy (ixN gG gB gR gC dB dR dC)) i) (x.c.po (ixN gG gB gR gC dB dR dC))) Oq Aq Hq Cq Dq Ee soq scq) w' := by
  refine fnB (tb := [(53, sCpA), (52, sArrOk), (95, sAdOk), (69, sAdIx), (109, sFet)]) ⟨sCpA_I, sArrOk_I, sAdOk_I, sAdIx_I, sFet_ok, trivial⟩ Try.func90 (@Eq.mpr _ _ (gwIF_T x O A H C D E so sc gG gB gR gC dB dR dC) ?_) (HS.seenAll (fun _ => False) _ (hA.all 0 seenC_nil)) (fun v ch' w' ⟨Oq, Aq, Hq, Cq, Dq, Ee, soq, scq, ro, rc, hv, hc⟩ hs => ⟨Oq, Aq, Hq, Cq, Dq, Ee, _, _, by rw [hv]; rfl, (hc.hs hs).stored⟩)
  clear hA
  have hl := lenA_of hcap
  have hok : arrOk gG gB gR gC x = true := by simp only [gwOk, Bool.and_eq_true] at hokk; exact hokk.1
  have had : adOk gG gB gR gC dB dR dC = true := by simp only [gwOk, Bool.and_eq_true] at hokk; exact hokk.2
  have hin := arr_in hok had
  have hi1 := hin.1
  have hi2 := hin.2.1
  have hi3 : ltN (tn (adIx gG gB gR gC dB dR dC)) x.c.n := hin.2.2
  have hsy : symB (x.c.sn (adIx gG gB gR gC dB dR dC).toNat) (x.c.sy (adIx gG gB gR gC dB dR dC).toNat) 11 = true := (arrOk_facts hok).2.2.2.2 _ hi3
  have hn11 : x.c.sn (adIx gG gB gR gC dB dR dC).toNat = 11 := by have := symB_n hsy; omega
  have hs11 : symB 11 (x.c.sy (adIx gG gB gR gC dB dR dC).toNat) 11 = true := by rw [hn11] at hsy; exact hsy
  have hel := symB_el hs11
  have hcp := hcap.2.2.2 _ hi3
  have b1 : (corC (x.c.sy (adIx gG gB gR gC dB dR dC).toNat) == 1) = true := by rw [hc1]; rfl
  have b2 : (corC (x.c.sy (adIx gG gB gR gC dB dR dC).toNat) == 2) = false := by rw [hc1]; rfl
  have hdw := dec_word hel hc1
  have hcw : ∀ i, i < 11 → cw (decX (x.c.sy (adIx gG gB gR gC dB dR dC).toNat)) i = corW (x.c.sy (adIx gG gB gR gC dB dR dC).toNat) i := fun i hi => dec_cw hel hc1 hi
  repeat' (first
    | with_reducible exact rfl
    | exact True.intro
    | with_reducible assumption
    | exact hl
    | exact hcap
    | with_reducible exact hs11
    | with_reducible exact hn11
    | (intro h; exfalso; rw [hok] at h; simp at h; done)
    | (intro h; exfalso; rw [had] at h; simp at h; done)
    | (intro h; exfalso; rw [b1] at h; simp at h; done)
    | (intro h; exfalso; rw [b2] at h; simp at h; done)
    | (intro h; exfalso; rw [hpo] at h; cases h; done)
    | (refine ⟨_, _, _, _, _, ⟨rfl, rfl, rfl, ?_⟩, ?_⟩)
    | with_reducible exact hdw
    | (show (_ : Value) = _; rw [hc1]; try with_reducible rfl)
    | exact (by refine ⟨?_, rfl⟩; repeat' (first | exact True.intro | exact symRows_push | exact rfl | refine And.intro ?_ ?_ | (intro i hi; show _ = _; with_reducible rfl) | (intro i hi; show _ = _; rfl) | (intro i hi; exact congrArg (fun z => Value.int .i64 z) (hcw i hi)) | (intro i hi; simp only [SC.den, selB]; split <;> simp_all) | (intro i hi; show _ = _; simp only [SC.den]; split <;> rfl)))
    | refine And.intro ?_ ?_
    | apply Exists.intro
    | (intro h; exfalso; simp at h; done)
    | (intro h; replace h := of_decide_eq_true h; first | (exfalso; omega) | skip)
    | (intro h; replace h := of_decide_eq_false h; first | (exfalso; omega) | skip)
    | (intro i hi; with_reducible exact rfl)
    | intro _
    | omega
    | exact rfl)
theorem gwSP_T (x : AD) (O A H : Option Addr) (C D E : Nat) (so : Nat → Option Addr) (sc : Nat → Nat) (gG gB gR gC : Int) (dB dR dC : Int) (p : Nat → Bool) (gx gc : Int) : (exFn Try.prog {tb := [(45, sCpA), (46, sArrOk), (83, sAdOk), (48, sAdIx), (87, sGet)]} 400 Try.f36 ([.a (.agg [.int gG, .int gB, .int gR, .int gC]), .a (arrS 0 x O A H C D E), .a (.agg [.int dB, .int dR, .int dC])]) (arrR 0 x O A H so sc) (fun v ch => ∃ (Oq Aq Hq : Option Addr) (Cq Dq Ee : Nat) (soq : Nat → Option Addr) (scq : Nat → Nat), v.den = .tuple #[arrV (poA x p) Oq Aq Hq Cq Dq Ee, .int .i64 gx, .int .i64 gc] ∧ SelS ch (idsArr v ch) (arrO 0 (poA x p) Oq Aq Hq Cq Dq Ee soq scq))) = (
  (∀ b0 : Nat,
 (∀ b1 : Nat,
 (∀ b2 : Nat,
 (∀ b3 : Nat,
 (b1 = b1 ∧
 (∃ t4 : Nat, (∃ y5 : CD, (∃ so6 : (Nat →
 (Option Addr)), (∃ sc7 : (Nat →
 Nat), (∃ sd8 : (Nat →
 Nat), (∃ ag9 : (Nat →
 Int), (∃ hg10 : (Nat →
 Int), (((symRows false 0 x.1 so (fun x11 => 0)) = (symRows false t4 y5 so6 sd8) ∧
 ([(fun i12 => (Cs 3 (so i12) (x.1.2 i12) (sc i12))), (fun i13 => (Cb (x.1.4 i13)))] = [(fun i14 => (Cs 3 (so6 i14) (y5.2 i14) (sc7 i14))), (fun i15 => (Cb (y5.4 i15)))] ∧
 (O = O ∧
 (x.1.1 = x.1.1 ∧
 (x.1.1 = y5.1 ∧
 (A = A ∧
 (x.2 = x.2 ∧
 ([(fun i16 => (Ci (x.3 i16)))] = [(fun i17 => (Ci (ag9 i17)))] ∧
 (H = H ∧
 (x.4 = x.4 ∧
 [(fun i18 => (Ci (x.5 i18)))] = [(fun i19 => (Ci (hg10 i19)))])))))))))) ∧
 ((capA (AD.mk y5 x.2 ag9 x.4 hg10)) ∧
 (∀ Oq20 : (Option Addr),
 (∀ Aq21 : (Option Addr),
 (∀ Hq22 : (Option Addr),
 (∀ Cq23 : Nat,
 (∀ Dq24 : Nat,
 (∀ Ee25 : Nat,
 (∀ soq26 : (Nat →
 (Option Addr)),
 (∀ scq27 : (Nat →
 Nat),
 (∀ b28 : Nat,
 (b28 = b28 ∧
 (b0 = b0 ∧
 (b1 = b1 ∧
 (∃ t29 : Nat, (∃ y30 : CD, (∃ so31 : (Nat →
 (Option Addr)), (∃ sc32 : (Nat →
 Nat), (∃ sd33 : (Nat →
 Nat), (∃ ag34 : (Nat →
 Int), (∃ hg35 : (Nat →
 Int), (((symRows false 0 x.1 so (fun x36 => 0)) = (symRows false t29 y30 so31 sd33) ∧
 ([(fun i37 => (Cs 3 (so i37) (x.1.2 i37) (sc i37))), (fun i38 => (Cb (x.1.4 i38)))] = [(fun i39 => (Cs 3 (so31 i39) (y30.2 i39) (sc32 i39))), (fun i40 => (Cb (y30.4 i40)))] ∧
 (O = O ∧
 (x.1.1 = x.1.1 ∧
 (x.1.1 = y30.1 ∧
 (A = A ∧
 (x.2 = x.2 ∧
 ([(fun i41 => (Ci (x.3 i41)))] = [(fun i42 => (Ci (ag34 i42)))] ∧
 (H = H ∧
 (x.4 = x.4 ∧
 [(fun i43 => (Ci (x.5 i43)))] = [(fun i44 => (Ci (hg35 i44)))])))))))))) ∧
 ((lenA (AD.mk y30 x.2 ag34 x.4 hg35)) ∧
 (((!(arrOk gG gB gR gC (AD.mk y30 x.2 ag34 x.4 hg35))) = false →
 (b0 = b0 ∧
 (b2 = b2 ∧
 (((!(adOk gG gB gR gC dB dR dC)) = true →
 (b28 = b28 ∧
 (b3 = b3 ∧
 (b3 = b3 ∧
 (∃ Oq45 : (Option Addr), (∃ Aq46 : (Option Addr), (∃ Hq47 : (Option Addr), (∃ Cq48 : Nat, (∃ Dq49 : Nat, (∃ Ee50 : Nat, (∃ soq51 : (Nat →
 (Option Addr)), (∃ scq52 : (Nat →
 Nat), ((Wu [(Wa [(Ws Oq20 y5.1 Cq23), (Ws Aq21 x.2 Dq24), (Ws Hq22 x.4 Ee25)]), (Wi 0), (Wi 2)]) = (Wu [(Wa [(Ws Oq45 ((poA x p)).1.1 Cq48), (Ws Aq46 ((poA x p)).2 Dq49), (Ws Hq47 ((poA x p)).4 Ee50)]), (Wi gx), (Wi gc)]) ∧
 (SelS [(Hr false O 0 2 x.1.1 0 [(fun i53 => (Cs 3 (so i53) (x.1.2 i53) (sc i53))), (fun i54 => (Cb (x.1.4 i54)))]), (Hr false A 0 1 x.2 0 [(fun i55 => (Ci (x.3 i55)))]), (Hr false H 0 1 x.4 0 [(fun i56 => (Ci (x.5 i56)))]), (Ho false (symRows false 0 x.1 so (fun x57 => 0))), (Hc b0 37 [(Ci gG), (Ci gB), (Ci gR), (Ci gC)]), (Hc b1 33 [(Cs 0 O x.1.1 C), (Cs 1 A x.2 D), (Cs 2 H x.4 E)]), (Hc b2 70 [(Ci dB), (Ci dR), (Ci dC)]), (Hc b3 33 [(Cs 8 Oq20 y5.1 Cq23), (Cs 9 Aq21 x.2 Dq24), (Cs 10 Hq22 x.4 Ee25)]), (Hr true Oq20 52 2 y5.1 Cq23 [(fun i58 => (Cs 11 (soq26 i58) (y5.2 i58) (scq27 i58))), (fun i59 => (Cb (y5.4 i59)))]), (Hr true Aq21 3 1 x.2 Dq24 [(fun i60 => (Ci (ag9 i60)))]), (Hr true Hq22 3 1 x.4 Ee25 [(fun i61 => (Ci (hg10 i61)))]), (Ho true (symRows true 3 y5 soq26 scq27)), (Hc b28 33 [(Cs 8 Oq20 y5.1 Cq23), (Cs 9 Aq21 x.2 Dq24), (Cs 10 Hq22 x.4 Ee25)])] [8, 9, 10, 11] [(Hr true Oq45 52 2 ((poA x p)).1.1 Cq48 [(fun i62 => (Cs 3 (soq51 i62) (((poA x p)).1.2 i62) (scq52 i62))), (fun i63 => (Cb (((poA x p)).1.4 i63)))]), (Hr true Aq46 3 1 ((poA x p)).2 Dq49 [(fun i64 => (Ci (((poA x p)).3 i64)))]), (Hr true Hq47 3 1 ((poA x p)).4 Ee50 [(fun i65 => (Ci (((poA x p)).5 i65)))]), (Ho true (symRows true 3 ((poA x p)).1 soq51 scq52))])))))))))))))) ∧
 ((!(adOk gG gB gR gC dB dR dC)) = false →
 (b0 = b0 ∧
 (b2 = b2 ∧
 (b28 = b28 ∧
 (Oq20 = Oq20 ∧
 (y5.1 = y5.1 ∧
 ((0 ≤ (adIx gG gB gR gC dB dR dC) ∧ (adIx gG gB gR gC dB dR dC) < ((y5.1 : Nat) : Int)) ∧
 (Oq20 = Oq20 ∧
 ((Int.toNat (adIx gG gB gR gC dB dR dC)) < y5.1 ∧
 (∀ b66 : Nat,
 (b66 = b66 ∧
 (b66 = b66 ∧
 (((y5.4 (Int.toNat (adIx gG gB gR gC dB dR dC))) = true →
 (b28 = b28 ∧
 (b3 = b3 ∧
 (b3 = b3 ∧
 (∃ Oq67 : (Option Addr), (∃ Aq68 : (Option Addr), (∃ Hq69 : (Option Addr), (∃ Cq70 : Nat, (∃ Dq71 : Nat, (∃ Ee72 : Nat, (∃ soq73 : (Nat →
 (Option Addr)), (∃ scq74 : (Nat →
 Nat), ((Wu [(Wa [(Ws Oq20 y5.1 Cq23), (Ws Aq21 x.2 Dq24), (Ws Hq22 x.4 Ee25)]), (Wi 0), (Wi 2)]) = (Wu [(Wa [(Ws Oq67 ((poA x p)).1.1 Cq70), (Ws Aq68 ((poA x p)).2 Dq71), (Ws Hq69 ((poA x p)).4 Ee72)]), (Wi gx), (Wi gc)]) ∧
 (SelS [(Hr false O 0 2 x.1.1 0 [(fun i75 => (Cs 3 (so i75) (x.1.2 i75) (sc i75))), (fun i76 => (Cb (x.1.4 i76)))]), (Hr false A 0 1 x.2 0 [(fun i77 => (Ci (x.3 i77)))]), (Hr false H 0 1 x.4 0 [(fun i78 => (Ci (x.5 i78)))]), (Ho false (symRows false 0 x.1 so (fun x79 => 0))), (Hc b0 37 [(Ci gG), (Ci gB), (Ci gR), (Ci gC)]), (Hc b1 33 [(Cs 0 O x.1.1 C), (Cs 1 A x.2 D), (Cs 2 H x.4 E)]), (Hc b2 70 [(Ci dB), (Ci dR), (Ci dC)]), (Hc b3 33 [(Cs 8 Oq20 y5.1 Cq23), (Cs 9 Aq21 x.2 Dq24), (Cs 10 Hq22 x.4 Ee25)]), (Hr true Oq20 52 2 y5.1 Cq23 [(fun i80 => (Cs 11 (soq26 i80) (y5.2 i80) (scq27 i80))), (fun i81 => (Cb (y5.4 i81)))]), (Hr true Aq21 3 1 x.2 Dq24 [(fun i82 => (Ci (ag9 i82)))]), (Hr true Hq22 3 1 x.4 Ee25 [(fun i83 => (Ci (hg10 i83)))]), (Ho true (symRows true 3 y5 soq26 scq27)), (Hc b28 33 [(Cs 8 Oq20 y5.1 Cq23), (Cs 9 Aq21 x.2 Dq24), (Cs 10 Hq22 x.4 Ee25)]), (Hc b66 52 [(Cs 11 (soq26 (Int.toNat (adIx gG gB gR gC dB dR dC))) (y5.2 (Int.toNat (adIx gG gB gR gC dB dR dC))) (scq27 (Int.toNat (adIx gG gB gR gC dB dR dC)))), (Cb (y5.4 (Int.toNat (adIx gG gB gR gC dB dR dC))))])] [8, 9, 10, 11] [(Hr true Oq67 52 2 ((poA x p)).1.1 Cq70 [(fun i84 => (Cs 3 (soq73 i84) (((poA x p)).1.2 i84) (scq74 i84))), (fun i85 => (Cb (((poA x p)).1.4 i85)))]), (Hr true Aq68 3 1 ((poA x p)).2 Dq71 [(fun i86 => (Ci (((poA x p)).3 i86)))]), (Hr true Hq69 3 1 ((poA x p)).4 Ee72 [(fun i87 => (Ci (((poA x p)).5 i87)))]), (Ho true (symRows true 3 ((poA x p)).1 soq73 scq74))])))))))))))))) ∧
 ((y5.4 (Int.toNat (adIx gG gB gR gC dB dR dC))) = false →
 (b66 = b66 ∧
 (∃ t88 : Nat, (∃ y89 : CD, (∃ so90 : (Nat →
 (Option Addr)), (∃ sc91 : (Nat →
 Nat), (∃ i92 : Nat, (((symRows true 3 y5 soq26 scq27) = (symRows true t88 y89 so90 sc91) ∧
 ((soq26 (Int.toNat (adIx gG gB gR gC dB dR dC))) = (so90 i92) ∧
 ((y5.2 (Int.toNat (adIx gG gB gR gC dB dR dC))) = (y89.2 i92) ∧
 i92 < y89.1))) ∧
 (((y5.2 (Int.toNat (adIx gG gB gR gC dB dR dC))) = 11 ∧
 (symB 11 (y89.3 i92) (11 : Int)) = true) ∧
 ((((corC (y89.3 i92)) == (1 : Int)) = true →
 (b28 = b28 ∧
 ((btw (decX (y89.3 i92)) (0 : Int) (4294967295 : Int)) = true ∧
 (∀ ro93 : (Option Addr),
 (∀ rc94 : Nat,
 (True ∧
 (Oq20 = Oq20 ∧
 (y5.1 = y5.1 ∧
 ((0 ≤ (adIx gG gB gR gC dB dR dC) ∧ (adIx gG gB gR gC dB dR dC) < ((y5.1 : Nat) : Int)) ∧
 (Oq20 = Oq20 ∧
 ((Int.toNat (adIx gG gB gR gC dB dR dC)) < y5.1 ∧
 (Oq20 = Oq20 ∧
 ((Int.toNat (adIx gG gB gR gC dB dR dC)) < y5.1 ∧
 (True ∧
 ((((corC (y89.3 i92)) == (2 : Int)) = true →
 (b28 = b28 ∧
 (Oq20 = Oq20 ∧
 (y5.1 = y5.1 ∧
 ((0 ≤ (adIx gG gB gR gC dB dR dC) ∧ (adIx gG gB gR gC dB dR dC) < ((y5.1 : Nat) : Int)) ∧
 (Oq20 = Oq20 ∧
 ((Int.toNat (adIx gG gB gR gC dB dR dC)) < y5.1 ∧
 (Oq20 = Oq20 ∧
 ((Int.toNat (adIx gG gB gR gC dB dR dC)) < y5.1 ∧
 (b28 = b28 ∧
 (b3 = b3 ∧
 (b3 = b3 ∧
 (∃ Oq95 : (Option Addr), (∃ Aq96 : (Option Addr), (∃ Hq97 : (Option Addr), (∃ Cq98 : Nat, (∃ Dq99 : Nat, (∃ Ee100 : Nat, (∃ soq101 : (Nat →
 (Option Addr)), (∃ scq102 : (Nat →
 Nat), ((Wu [(Wa [(Ws Oq20 y5.1 Cq23), (Ws Aq21 x.2 Dq24), (Ws Hq22 x.4 Ee25)]), (Wi (decX (y89.3 i92))), (Wi (corC (y89.3 i92)))]) = (Wu [(Wa [(Ws Oq95 ((poA x p)).1.1 Cq98), (Ws Aq96 ((poA x p)).2 Dq99), (Ws Hq97 ((poA x p)).4 Ee100)]), (Wi gx), (Wi gc)]) ∧
 (SelS [(Hr false O 0 2 x.1.1 0 [(fun i103 => (Cs 3 (so i103) (x.1.2 i103) (sc i103))), (fun i104 => (Cb (x.1.4 i104)))]), (Hr false A 0 1 x.2 0 [(fun i105 => (Ci (x.3 i105)))]), (Hr false H 0 1 x.4 0 [(fun i106 => (Ci (x.5 i106)))]), (Ho false (symRows false 0 x.1 so (fun x107 => 0))), (Hc b0 37 [(Ci gG), (Ci gB), (Ci gR), (Ci gC)]), (Hc b1 33 [(Cs 0 O x.1.1 C), (Cs 1 A x.2 D), (Cs 2 H x.4 E)]), (Hc b2 70 [(Ci dB), (Ci dR), (Ci dC)]), (Hc b3 33 [(Cs 8 Oq20 y5.1 Cq23), (Cs 9 Aq21 x.2 Dq24), (Cs 10 Hq22 x.4 Ee25)]), (Hr true Oq20 52 2 y5.1 Cq23 [(fun j108 => (Cv (if j108 = (Int.toNat (adIx gG gB gR gC dB dR dC)) then (Ws ro93 11 rc94) else (Ws (soq26 j108) (y5.2 j108) (scq27 j108))))), (fun j109 => (Cb (if j109 = (Int.toNat (adIx gG gB gR gC dB dR dC)) then true else (y5.4 j109))))]), (Hr true Aq21 3 1 x.2 Dq24 [(fun i110 => (Ci (ag9 i110)))]), (Hr true Hq22 3 1 x.4 Ee25 [(fun i111 => (Ci (hg10 i111)))]), (Ho true (symRows true 3 y5 soq26 scq27)), (Hc b28 33 [(Cs 8 Oq20 y5.1 Cq23), (Cs 9 Aq21 x.2 Dq24), (Cs 10 Hq22 x.4 Ee25)]), (Hc b66 52 [(Cs 11 (soq26 (Int.toNat (adIx gG gB gR gC dB dR dC))) (y5.2 (Int.toNat (adIx gG gB gR gC dB dR dC))) (scq27 (Int.toNat (adIx gG gB gR gC dB dR dC)))), (Cb (y5.4 (Int.toNat (adIx gG gB gR gC dB dR dC))))]), (Hr true ro93 3 1 11 rc94 [(fun i112 => (Ci (cw (decX (y89.3 i92)) i112)))])] [8, 9, 10, 1000003] [(Hr true Oq95 52 2 ((poA x p)).1.1 Cq98 [(fun i113 => (Cs 3 (soq101 i113) (((poA x p)).1.2 i113) (scq102 i113))), (fun i114 => (Cb (((poA x p)).1.4 i114)))]), (Hr true Aq96 3 1 ((poA x p)).2 Dq99 [(fun i115 => (Ci (((poA x p)).3 i115)))]), (Hr true Hq97 3 1 ((poA x p)).4 Ee100 [(fun i116 => (Ci (((poA x p)).5 i116)))]), (Ho true (symRows true 3 ((poA x p)).1 soq101 scq102))])))))))))))))))))))))) ∧
 (((corC (y89.3 i92)) == (2 : Int)) = false →
 (b28 = b28 ∧
 (b3 = b3 ∧
 (b3 = b3 ∧
 (∃ Oq117 : (Option Addr), (∃ Aq118 : (Option Addr), (∃ Hq119 : (Option Addr), (∃ Cq120 : Nat, (∃ Dq121 : Nat, (∃ Ee122 : Nat, (∃ soq123 : (Nat →
 (Option Addr)), (∃ scq124 : (Nat →
 Nat), ((Wu [(Wa [(Ws Oq20 y5.1 Cq23), (Ws Aq21 x.2 Dq24), (Ws Hq22 x.4 Ee25)]), (Wi (decX (y89.3 i92))), (Wi (corC (y89.3 i92)))]) = (Wu [(Wa [(Ws Oq117 ((poA x p)).1.1 Cq120), (Ws Aq118 ((poA x p)).2 Dq121), (Ws Hq119 ((poA x p)).4 Ee122)]), (Wi gx), (Wi gc)]) ∧
 (SelS [(Hr false O 0 2 x.1.1 0 [(fun i125 => (Cs 3 (so i125) (x.1.2 i125) (sc i125))), (fun i126 => (Cb (x.1.4 i126)))]), (Hr false A 0 1 x.2 0 [(fun i127 => (Ci (x.3 i127)))]), (Hr false H 0 1 x.4 0 [(fun i128 => (Ci (x.5 i128)))]), (Ho false (symRows false 0 x.1 so (fun x129 => 0))), (Hc b0 37 [(Ci gG), (Ci gB), (Ci gR), (Ci gC)]), (Hc b1 33 [(Cs 0 O x.1.1 C), (Cs 1 A x.2 D), (Cs 2 H x.4 E)]), (Hc b2 70 [(Ci dB), (Ci dR), (Ci dC)]), (Hc b3 33 [(Cs 8 Oq20 y5.1 Cq23), (Cs 9 Aq21 x.2 Dq24), (Cs 10 Hq22 x.4 Ee25)]), (Hr true Oq20 52 2 y5.1 Cq23 [(fun j130 => (Cv (if j130 = (Int.toNat (adIx gG gB gR gC dB dR dC)) then (Ws ro93 11 rc94) else (Ws (soq26 j130) (y5.2 j130) (scq27 j130))))), (fun i131 => (Cb (y5.4 i131)))]), (Hr true Aq21 3 1 x.2 Dq24 [(fun i132 => (Ci (ag9 i132)))]), (Hr true Hq22 3 1 x.4 Ee25 [(fun i133 => (Ci (hg10 i133)))]), (Ho true (symRows true 3 y5 soq26 scq27)), (Hc b28 33 [(Cs 8 Oq20 y5.1 Cq23), (Cs 9 Aq21 x.2 Dq24), (Cs 10 Hq22 x.4 Ee25)]), (Hc b66 52 [(Cs 11 (soq26 (Int.toNat (adIx gG gB gR gC dB dR dC))) (y5.2 (Int.toNat (adIx gG gB gR gC dB dR dC))) (scq27 (Int.toNat (adIx gG gB gR gC dB dR dC)))), (Cb (y5.4 (Int.toNat (adIx gG gB gR gC dB dR dC))))]), (Hr true ro93 3 1 11 rc94 [(fun i134 => (Ci (cw (decX (y89.3 i92)) i134)))])] [8, 9, 10, 1000003] [(Hr true Oq117 52 2 ((poA x p)).1.1 Cq120 [(fun i135 => (Cs 3 (soq123 i135) (((poA x p)).1.2 i135) (scq124 i135))), (fun i136 => (Cb (((poA x p)).1.4 i136)))]), (Hr true Aq118 3 1 ((poA x p)).2 Dq121 [(fun i137 => (Ci (((poA x p)).3 i137)))]), (Hr true Hq119 3 1 ((poA x p)).4 Ee122 [(fun i138 => (Ci (((poA x p)).5 i138)))]), (Ho true (symRows true 3 ((poA x p)).1 soq123 scq124))]))))))))))))))))))))))))))))) ∧
 (((corC (y89.3 i92)) == (1 : Int)) = false →
 ((((corC (y89.3 i92)) == (2 : Int)) = true →
 (b28 = b28 ∧
 (Oq20 = Oq20 ∧
 (y5.1 = y5.1 ∧
 ((0 ≤ (adIx gG gB gR gC dB dR dC) ∧ (adIx gG gB gR gC dB dR dC) < ((y5.1 : Nat) : Int)) ∧
 (Oq20 = Oq20 ∧
 ((Int.toNat (adIx gG gB gR gC dB dR dC)) < y5.1 ∧
 (Oq20 = Oq20 ∧
 ((Int.toNat (adIx gG gB gR gC dB dR dC)) < y5.1 ∧
 (b28 = b28 ∧
 (b3 = b3 ∧
 (b3 = b3 ∧
 (∃ Oq139 : (Option Addr), (∃ Aq140 : (Option Addr), (∃ Hq141 : (Option Addr), (∃ Cq142 : Nat, (∃ Dq143 : Nat, (∃ Ee144 : Nat, (∃ soq145 : (Nat →
 (Option Addr)), (∃ scq146 : (Nat →
 Nat), ((Wu [(Wa [(Ws Oq20 y5.1 Cq23), (Ws Aq21 x.2 Dq24), (Ws Hq22 x.4 Ee25)]), (Wi (decX (y89.3 i92))), (Wi (corC (y89.3 i92)))]) = (Wu [(Wa [(Ws Oq139 ((poA x p)).1.1 Cq142), (Ws Aq140 ((poA x p)).2 Dq143), (Ws Hq141 ((poA x p)).4 Ee144)]), (Wi gx), (Wi gc)]) ∧
 (SelS [(Hr false O 0 2 x.1.1 0 [(fun i147 => (Cs 3 (so i147) (x.1.2 i147) (sc i147))), (fun i148 => (Cb (x.1.4 i148)))]), (Hr false A 0 1 x.2 0 [(fun i149 => (Ci (x.3 i149)))]), (Hr false H 0 1 x.4 0 [(fun i150 => (Ci (x.5 i150)))]), (Ho false (symRows false 0 x.1 so (fun x151 => 0))), (Hc b0 37 [(Ci gG), (Ci gB), (Ci gR), (Ci gC)]), (Hc b1 33 [(Cs 0 O x.1.1 C), (Cs 1 A x.2 D), (Cs 2 H x.4 E)]), (Hc b2 70 [(Ci dB), (Ci dR), (Ci dC)]), (Hc b3 33 [(Cs 8 Oq20 y5.1 Cq23), (Cs 9 Aq21 x.2 Dq24), (Cs 10 Hq22 x.4 Ee25)]), (Hr true Oq20 52 2 y5.1 Cq23 [(fun i152 => (Cs 11 (soq26 i152) (y5.2 i152) (scq27 i152))), (fun j153 => (Cb (if j153 = (Int.toNat (adIx gG gB gR gC dB dR dC)) then true else (y5.4 j153))))]), (Hr true Aq21 3 1 x.2 Dq24 [(fun i154 => (Ci (ag9 i154)))]), (Hr true Hq22 3 1 x.4 Ee25 [(fun i155 => (Ci (hg10 i155)))]), (Ho true (symRows true 3 y5 soq26 scq27)), (Hc b28 33 [(Cs 8 Oq20 y5.1 Cq23), (Cs 9 Aq21 x.2 Dq24), (Cs 10 Hq22 x.4 Ee25)]), (Hc b66 52 [(Cs 11 (soq26 (Int.toNat (adIx gG gB gR gC dB dR dC))) (y5.2 (Int.toNat (adIx gG gB gR gC dB dR dC))) (scq27 (Int.toNat (adIx gG gB gR gC dB dR dC)))), (Cb (y5.4 (Int.toNat (adIx gG gB gR gC dB dR dC))))])] [8, 9, 10, 11] [(Hr true Oq139 52 2 ((poA x p)).1.1 Cq142 [(fun i156 => (Cs 3 (soq145 i156) (((poA x p)).1.2 i156) (scq146 i156))), (fun i157 => (Cb (((poA x p)).1.4 i157)))]), (Hr true Aq140 3 1 ((poA x p)).2 Dq143 [(fun i158 => (Ci (((poA x p)).3 i158)))]), (Hr true Hq141 3 1 ((poA x p)).4 Ee144 [(fun i159 => (Ci (((poA x p)).5 i159)))]), (Ho true (symRows true 3 ((poA x p)).1 soq145 scq146))])))))))))))))))))))))) ∧
 (((corC (y89.3 i92)) == (2 : Int)) = false →
 (b28 = b28 ∧
 (b3 = b3 ∧
 (b3 = b3 ∧
 (∃ Oq160 : (Option Addr), (∃ Aq161 : (Option Addr), (∃ Hq162 : (Option Addr), (∃ Cq163 : Nat, (∃ Dq164 : Nat, (∃ Ee165 : Nat, (∃ soq166 : (Nat →
 (Option Addr)), (∃ scq167 : (Nat →
 Nat), ((Wu [(Wa [(Ws Oq20 y5.1 Cq23), (Ws Aq21 x.2 Dq24), (Ws Hq22 x.4 Ee25)]), (Wi (decX (y89.3 i92))), (Wi (corC (y89.3 i92)))]) = (Wu [(Wa [(Ws Oq160 ((poA x p)).1.1 Cq163), (Ws Aq161 ((poA x p)).2 Dq164), (Ws Hq162 ((poA x p)).4 Ee165)]), (Wi gx), (Wi gc)]) ∧
 (SelS [(Hr false O 0 2 x.1.1 0 [(fun i168 => (Cs 3 (so i168) (x.1.2 i168) (sc i168))), (fun i169 => (Cb (x.1.4 i169)))]), (Hr false A 0 1 x.2 0 [(fun i170 => (Ci (x.3 i170)))]), (Hr false H 0 1 x.4 0 [(fun i171 => (Ci (x.5 i171)))]), (Ho false (symRows false 0 x.1 so (fun x172 => 0))), (Hc b0 37 [(Ci gG), (Ci gB), (Ci gR), (Ci gC)]), (Hc b1 33 [(Cs 0 O x.1.1 C), (Cs 1 A x.2 D), (Cs 2 H x.4 E)]), (Hc b2 70 [(Ci dB), (Ci dR), (Ci dC)]), (Hc b3 33 [(Cs 8 Oq20 y5.1 Cq23), (Cs 9 Aq21 x.2 Dq24), (Cs 10 Hq22 x.4 Ee25)]), (Hr true Oq20 52 2 y5.1 Cq23 [(fun i173 => (Cs 11 (soq26 i173) (y5.2 i173) (scq27 i173))), (fun i174 => (Cb (y5.4 i174)))]), (Hr true Aq21 3 1 x.2 Dq24 [(fun i175 => (Ci (ag9 i175)))]), (Hr true Hq22 3 1 x.4 Ee25 [(fun i176 => (Ci (hg10 i176)))]), (Ho true (symRows true 3 y5 soq26 scq27)), (Hc b28 33 [(Cs 8 Oq20 y5.1 Cq23), (Cs 9 Aq21 x.2 Dq24), (Cs 10 Hq22 x.4 Ee25)]), (Hc b66 52 [(Cs 11 (soq26 (Int.toNat (adIx gG gB gR gC dB dR dC))) (y5.2 (Int.toNat (adIx gG gB gR gC dB dR dC))) (scq27 (Int.toNat (adIx gG gB gR gC dB dR dC)))), (Cb (y5.4 (Int.toNat (adIx gG gB gR gC dB dR dC))))])] [8, 9, 10, 11] [(Hr true Oq160 52 2 ((poA x p)).1.1 Cq163 [(fun i177 => (Cs 3 (soq166 i177) (((poA x p)).1.2 i177) (scq167 i177))), (fun i178 => (Cb (((poA x p)).1.4 i178)))]), (Hr true Aq161 3 1 ((poA x p)).2 Dq164 [(fun i179 => (Ci (((poA x p)).3 i179)))]), (Hr true Hq162 3 1 ((poA x p)).4 Ee165 [(fun i180 => (Ci (((poA x p)).5 i180)))]), (Ho true (symRows true 3 ((poA x p)).1 soq166 scq167))]))))))))))))))))))))))))))))))))))))))))))) ∧
 ((!(arrOk gG gB gR gC (AD.mk y30 x.2 ag34 x.4 hg35))) = true →
 (b28 = b28 ∧
 (b3 = b3 ∧
 (b3 = b3 ∧
 (∃ Oq181 : (Option Addr), (∃ Aq182 : (Option Addr), (∃ Hq183 : (Option Addr), (∃ Cq184 : Nat, (∃ Dq185 : Nat, (∃ Ee186 : Nat, (∃ soq187 : (Nat →
 (Option Addr)), (∃ scq188 : (Nat →
 Nat), ((Wu [(Wa [(Ws Oq20 y5.1 Cq23), (Ws Aq21 x.2 Dq24), (Ws Hq22 x.4 Ee25)]), (Wi 0), (Wi 2)]) = (Wu [(Wa [(Ws Oq181 ((poA x p)).1.1 Cq184), (Ws Aq182 ((poA x p)).2 Dq185), (Ws Hq183 ((poA x p)).4 Ee186)]), (Wi gx), (Wi gc)]) ∧
 (SelS [(Hr false O 0 2 x.1.1 0 [(fun i189 => (Cs 3 (so i189) (x.1.2 i189) (sc i189))), (fun i190 => (Cb (x.1.4 i190)))]), (Hr false A 0 1 x.2 0 [(fun i191 => (Ci (x.3 i191)))]), (Hr false H 0 1 x.4 0 [(fun i192 => (Ci (x.5 i192)))]), (Ho false (symRows false 0 x.1 so (fun x193 => 0))), (Hc b0 37 [(Ci gG), (Ci gB), (Ci gR), (Ci gC)]), (Hc b1 33 [(Cs 0 O x.1.1 C), (Cs 1 A x.2 D), (Cs 2 H x.4 E)]), (Hc b2 70 [(Ci dB), (Ci dR), (Ci dC)]), (Hc b3 33 [(Cs 8 Oq20 y5.1 Cq23), (Cs 9 Aq21 x.2 Dq24), (Cs 10 Hq22 x.4 Ee25)]), (Hr true Oq20 52 2 y5.1 Cq23 [(fun i194 => (Cs 11 (soq26 i194) (y5.2 i194) (scq27 i194))), (fun i195 => (Cb (y5.4 i195)))]), (Hr true Aq21 3 1 x.2 Dq24 [(fun i196 => (Ci (ag9 i196)))]), (Hr true Hq22 3 1 x.4 Ee25 [(fun i197 => (Ci (hg10 i197)))]), (Ho true (symRows true 3 y5 soq26 scq27)), (Hc b28 33 [(Cs 8 Oq20 y5.1 Cq23), (Cs 9 Aq21 x.2 Dq24), (Cs 10 Hq22 x.4 Ee25)])] [8, 9, 10, 11] [(Hr true Oq181 52 2 ((poA x p)).1.1 Cq184 [(fun i198 => (Cs 3 (soq187 i198) (((poA x p)).1.2 i198) (scq188 i198))), (fun i199 => (Cb (((poA x p)).1.4 i199)))]), (Hr true Aq182 3 1 ((poA x p)).2 Dq185 [(fun i200 => (Ci (((poA x p)).3 i200)))]), (Hr true Hq183 3 1 ((poA x p)).4 Ee186 [(fun i201 => (Ci (((poA x p)).5 i201)))]), (Ho true (symRows true 3 ((poA x p)).1 soq187 scq188))]))))))))))))))))))))))))))))))))))))))))))))))))))) := by kernel_rfl
theorem gwSP_any (x : AD) (O A H : Option Addr) (C D E : Nat) (so : Nat → Option Addr) (sc : Nat → Nat) (gG gB gR gC : Int) (dB dR dC : Int) (p : Nat → Bool) (gx gc : Int) (w : World) (hA : SeenA w x O A H so sc) (hcap : capA x) (hN : gwOk gG gB gR gC dB dR dC x = false → p = x.c.po ∧ gx = 0 ∧ gc = 2) (hP : gwOk gG gB gR gC dB dR dC x = true → x.c.po (adIx gG gB gR gC dB dR dC).toNat = true → p = x.c.po ∧ gx = 0 ∧ gc = 2) (hQ : gwOk gG gB gR gC dB dR dC x = true → x.c.po (adIx gG gB gR gC dB dR dC).toNat = false → ¬ corC (x.c.sy (adIx gG gB gR gC dB dR dC).toNat) = 1 ∧ gx = decX (x.c.sy (adIx gG gB gR gC dB dR dC).toNat) ∧ gc = corC (x.c.sy (adIx gG gB gR gC dB dR dC).toNat) ∧ (corC (x.c.sy (adIx gG gB gR gC dB dR dC).toNat) = 0 → p = x.c.po) ∧ (corC (x.c.sy (adIx gG gB gR gC dB dR dC).toNat) = 2 → p = fun i => if i = (adIx gG gB gR gC dB dR dC).toNat then true else x.c.po i)) : Calls Try.prog 36 #[.agg #[.int .i64 gG, .int .i64 gB, .int .i64 gR, .int .i64 gC], arrV x O A H C D E, .agg #[.int .i64 dB, .int .i64 dR, .int .i64 dC]] w fun e w' => ∃ (Oq Aq Hq : Option Addr) (Cq Dq Ee : Nat) (soq : Nat → Option Addr) (scq : Nat → Nat), e = .returned (.tuple #[arrV (poA x p) Oq Aq Hq Cq Dq Ee, .int .i64 gx, .int .i64 gc]) ∧ HS ⟨w, fun _ => False⟩ (arrO 0 (poA x p) Oq Aq Hq Cq Dq Ee soq scq) w' := by
  refine fnB (tb := [(45, sCpA), (46, sArrOk), (83, sAdOk), (48, sAdIx), (87, sGet)]) ⟨sCpA_S, sArrOk_S, sAdOk_S, sAdIx_S, sGet_ok, trivial⟩ Try.func36 (@Eq.mpr _ _ (gwSP_T x O A H C D E so sc gG gB gR gC dB dR dC p gx gc) ?_) (HS.seenAll (fun _ => False) _ (hA.all 0 seenC_nil)) (fun v ch' w' ⟨Oq, Aq, Hq, Cq, Dq, Ee, soq, scq, hv, hc⟩ hs => ⟨Oq, Aq, Hq, Cq, Dq, Ee, soq, scq, by rw [hv], hc.hs hs⟩)
  clear hA
  have hl := lenA_of hcap
  cases hok : arrOk gG gB gR gC x
  · obtain ⟨rfl, rfl, rfl⟩ := hN (by simp [gwOk, hok])
    repeat' (first
      | with_reducible exact rfl
      | exact True.intro
      | with_reducible assumption
      | exact hl
      | exact hcap
      | (intro h; exfalso; rw [hok] at h; simp at h; done)
      | exact (by refine ⟨?_, rfl⟩; repeat' (first | exact True.intro | exact symRows_push | exact rfl | refine And.intro ?_ ?_ | (intro i hi; show _ = _; with_reducible rfl) | (intro i hi; show _ = _; rfl) | (intro i hi; show _ = _; simp only [SC.den]; split <;> rfl)))
      | refine And.intro ?_ ?_
      | apply Exists.intro
      | (intro h; exfalso; simp at h; done)
      | (intro h; replace h := of_decide_eq_true h; first | (exfalso; omega) | skip)
      | (intro h; replace h := of_decide_eq_false h; first | (exfalso; omega) | skip)
      | (intro i hi; with_reducible exact rfl)
      | intro _
      | omega
      | exact rfl)
  · cases had : adOk gG gB gR gC dB dR dC
    · obtain ⟨rfl, rfl, rfl⟩ := hN (by simp [gwOk, had])
      repeat' (first
        | with_reducible exact rfl
        | exact True.intro
        | with_reducible assumption
        | exact hl
        | exact hcap
        | (intro h; exfalso; rw [hok] at h; simp at h; done)
        | (intro h; exfalso; rw [had] at h; simp at h; done)
        | exact (by refine ⟨?_, rfl⟩; repeat' (first | exact True.intro | exact symRows_push | exact rfl | refine And.intro ?_ ?_ | (intro i hi; show _ = _; with_reducible rfl) | (intro i hi; show _ = _; rfl) | (intro i hi; show _ = _; simp only [SC.den]; split <;> rfl)))
        | refine And.intro ?_ ?_
        | apply Exists.intro
        | (intro h; exfalso; simp at h; done)
        | (intro h; replace h := of_decide_eq_true h; first | (exfalso; omega) | skip)
        | (intro h; replace h := of_decide_eq_false h; first | (exfalso; omega) | skip)
        | (intro i hi; with_reducible exact rfl)
        | intro _
        | omega
        | exact rfl)
    · have hin := arr_in hok had
      have hi1 := hin.1
      have hi2 := hin.2.1
      have hi3 : ltN (tn (adIx gG gB gR gC dB dR dC)) x.c.n := hin.2.2
      have hsy : symB (x.c.sn (adIx gG gB gR gC dB dR dC).toNat) (x.c.sy (adIx gG gB gR gC dB dR dC).toNat) 11 = true := (arrOk_facts hok).2.2.2.2 _ hi3
      have hn11 : x.c.sn (adIx gG gB gR gC dB dR dC).toNat = 11 := by have := symB_n hsy; omega
      have hs11 : symB 11 (x.c.sy (adIx gG gB gR gC dB dR dC).toNat) 11 = true := by rw [hn11] at hsy; exact hsy
      have hel := symB_el hs11
      have hcp := hcap.2.2.2 _ hi3
      have hokk : gwOk gG gB gR gC dB dR dC x = true := by simp [gwOk, hok, had]
      cases hpo : x.c.po (adIx gG gB gR gC dB dR dC).toNat
      · obtain ⟨c1, rfl, rfl, c0, c2⟩ := hQ hokk hpo
        have b1 : (corC (x.c.sy (adIx gG gB gR gC dB dR dC).toNat) == 1) = false := by simpa using c1
        rcases corC_cases (x.c.sy (adIx gG gB gR gC dB dR dC).toNat) with e | e | e
        · obtain rfl := c0 e
          have b2 : (corC (x.c.sy (adIx gG gB gR gC dB dR dC).toNat) == 2) = false := by rw [e]; rfl
          repeat' (first
            | with_reducible exact rfl
            | exact True.intro
            | with_reducible assumption
            | exact hl
            | exact hcap
            | with_reducible exact hs11
            | with_reducible exact hn11
            | (intro h; exfalso; rw [hok] at h; simp at h; done)
            | (intro h; exfalso; rw [had] at h; simp at h; done)
            | (intro h; exfalso; rw [b1] at h; simp at h; done)
            | (intro h; exfalso; rw [b2] at h; simp at h; done)
            | (intro h; exfalso; rw [hpo] at h; cases h; done)
            | (refine ⟨_, _, _, _, _, ⟨rfl, rfl, rfl, ?_⟩, ?_⟩)
            | exact (by refine ⟨?_, rfl⟩; repeat' (first | exact True.intro | exact symRows_push | exact rfl | refine And.intro ?_ ?_ | (intro i hi; show _ = _; with_reducible rfl) | (intro i hi; show _ = _; rfl) | (intro i hi; show _ = _; simp only [SC.den]; split <;> rfl)))
            | refine And.intro ?_ ?_
            | apply Exists.intro
            | (intro h; exfalso; simp at h; done)
            | (intro h; replace h := of_decide_eq_true h; first | (exfalso; omega) | skip)
            | (intro h; replace h := of_decide_eq_false h; first | (exfalso; omega) | skip)
            | (intro i hi; with_reducible exact rfl)
            | intro _
            | omega
            | exact rfl)
        · exact absurd e c1
        · obtain rfl := c2 e
          have b2 : (corC (x.c.sy (adIx gG gB gR gC dB dR dC).toNat) == 2) = true := by rw [e]; rfl
          repeat' (first
            | with_reducible exact rfl
            | exact True.intro
            | with_reducible assumption
            | exact hl
            | exact hcap
            | with_reducible exact hs11
            | with_reducible exact hn11
            | (intro h; exfalso; rw [hok] at h; simp at h; done)
            | (intro h; exfalso; rw [had] at h; simp at h; done)
            | (intro h; exfalso; rw [b1] at h; simp at h; done)
            | (intro h; exfalso; rw [b2] at h; simp at h; done)
            | (intro h; exfalso; rw [hpo] at h; cases h; done)
            | (refine ⟨_, _, _, _, _, ⟨rfl, rfl, rfl, ?_⟩, ?_⟩)
            | exact (by refine ⟨?_, rfl⟩; repeat' (first | exact True.intro | exact symRows_push | exact rfl | refine And.intro ?_ ?_ | (intro i hi; show _ = _; with_reducible rfl) | (intro i hi; show _ = _; rfl) | (intro i hi; show _ = _; simp only [SC.den]; split <;> rfl)))
            | refine And.intro ?_ ?_
            | apply Exists.intro
            | (intro h; exfalso; simp at h; done)
            | (intro h; replace h := of_decide_eq_true h; first | (exfalso; omega) | skip)
            | (intro h; replace h := of_decide_eq_false h; first | (exfalso; omega) | skip)
            | (intro i hi; with_reducible exact rfl)
            | intro _
            | omega
            | exact rfl)
      · obtain ⟨rfl, rfl, rfl⟩ := hP hokk hpo
        repeat' (first
          | with_reducible exact rfl
          | exact True.intro
          | with_reducible assumption
          | exact hl
          | exact hcap
          | with_reducible exact hs11
          | with_reducible exact hn11
          | (intro h; exfalso; rw [hok] at h; simp at h; done)
          | (intro h; exfalso; rw [had] at h; simp at h; done)
          | (intro h; exfalso; rw [hpo] at h; cases h; done)
          | (refine ⟨_, _, _, _, _, ⟨rfl, rfl, rfl, ?_⟩, ?_⟩)
          | exact (by refine ⟨?_, rfl⟩; repeat' (first | exact True.intro | exact symRows_push | exact rfl | refine And.intro ?_ ?_ | (intro i hi; show _ = _; with_reducible rfl) | (intro i hi; show _ = _; rfl) | (intro i hi; show _ = _; simp only [SC.den]; split <;> rfl)))
          | refine And.intro ?_ ?_
          | apply Exists.intro
          | (intro h; exfalso; simp at h; done)
          | (intro h; replace h := of_decide_eq_true h; first | (exfalso; omega) | skip)
          | (intro h; replace h := of_decide_eq_false h; first | (exfalso; omega) | skip)
          | (intro i hi; with_reducible exact rfl)
          | intro _
          | omega
          | exact rfl)
theorem gwSF_T (x : AD) (O A H : Option Addr) (C D E : Nat) (so : Nat → Option Addr) (sc : Nat → Nat) (gG gB gR gC : Int) (dB dR dC : Int) : (exFn Try.prog {tb := [(45, sCpA), (46, sArrOk), (83, sAdOk), (48, sAdIx), (87, sGet)]} 400 Try.f36 ([.a (.agg [.int gG, .int gB, .int gR, .int gC]), .a (arrS 0 x O A H C D E), .a (.agg [.int dB, .int dR, .int dC])]) (arrR 0 x O A H so sc) (fun v ch => ∃ (Oq Aq Hq : Option Addr) (Cq Dq Ee : Nat) (soq : Nat → Option Addr) (scq : Nat → Nat) (ro : Option Addr) (rc : Nat), v.den = .tuple #[arrV x Oq Aq Hq Cq Dq Ee, .int .i64 (decX (x.c.sy (ixN gG gB gR gC dB dR dC))), .int .i64 1] ∧ SelS ch (idsSt v ch) (storedCh x (ixN gG gB gR gC dB dR dC) 11 (fun i => corW (x.c.sy (ixN gG gB gR gC dB dR dC)) i) (x.c.po (ixN gG gB gR gC dB dR dC)) Oq Aq Hq Cq Dq Ee soq scq ro rc))) = (
  (∀ b0 : Nat,
 (∀ b1 : Nat,
 (∀ b2 : Nat,
 (∀ b3 : Nat,
 (b1 = b1 ∧
 (∃ t4 : Nat, (∃ y5 : CD, (∃ so6 : (Nat →
 (Option Addr)), (∃ sc7 : (Nat →
 Nat), (∃ sd8 : (Nat →
 Nat), (∃ ag9 : (Nat →
 Int), (∃ hg10 : (Nat →
 Int), (((symRows false 0 x.1 so (fun x11 => 0)) = (symRows false t4 y5 so6 sd8) ∧
 ([(fun i12 => (Cs 3 (so i12) (x.1.2 i12) (sc i12))), (fun i13 => (Cb (x.1.4 i13)))] = [(fun i14 => (Cs 3 (so6 i14) (y5.2 i14) (sc7 i14))), (fun i15 => (Cb (y5.4 i15)))] ∧
 (O = O ∧
 (x.1.1 = x.1.1 ∧
 (x.1.1 = y5.1 ∧
 (A = A ∧
 (x.2 = x.2 ∧
 ([(fun i16 => (Ci (x.3 i16)))] = [(fun i17 => (Ci (ag9 i17)))] ∧
 (H = H ∧
 (x.4 = x.4 ∧
 [(fun i18 => (Ci (x.5 i18)))] = [(fun i19 => (Ci (hg10 i19)))])))))))))) ∧
 ((capA (AD.mk y5 x.2 ag9 x.4 hg10)) ∧
 (∀ Oq20 : (Option Addr),
 (∀ Aq21 : (Option Addr),
 (∀ Hq22 : (Option Addr),
 (∀ Cq23 : Nat,
 (∀ Dq24 : Nat,
 (∀ Ee25 : Nat,
 (∀ soq26 : (Nat →
 (Option Addr)),
 (∀ scq27 : (Nat →
 Nat),
 (∀ b28 : Nat,
 (b28 = b28 ∧
 (b0 = b0 ∧
 (b1 = b1 ∧
 (∃ t29 : Nat, (∃ y30 : CD, (∃ so31 : (Nat →
 (Option Addr)), (∃ sc32 : (Nat →
 Nat), (∃ sd33 : (Nat →
 Nat), (∃ ag34 : (Nat →
 Int), (∃ hg35 : (Nat →
 Int), (((symRows false 0 x.1 so (fun x36 => 0)) = (symRows false t29 y30 so31 sd33) ∧
 ([(fun i37 => (Cs 3 (so i37) (x.1.2 i37) (sc i37))), (fun i38 => (Cb (x.1.4 i38)))] = [(fun i39 => (Cs 3 (so31 i39) (y30.2 i39) (sc32 i39))), (fun i40 => (Cb (y30.4 i40)))] ∧
 (O = O ∧
 (x.1.1 = x.1.1 ∧
 (x.1.1 = y30.1 ∧
 (A = A ∧
 (x.2 = x.2 ∧
 ([(fun i41 => (Ci (x.3 i41)))] = [(fun i42 => (Ci (ag34 i42)))] ∧
 (H = H ∧
 (x.4 = x.4 ∧
 [(fun i43 => (Ci (x.5 i43)))] = [(fun i44 => (Ci (hg35 i44)))])))))))))) ∧
 ((lenA (AD.mk y30 x.2 ag34 x.4 hg35)) ∧
 (((!(arrOk gG gB gR gC (AD.mk y30 x.2 ag34 x.4 hg35))) = false →
 (b0 = b0 ∧
 (b2 = b2 ∧
 (((!(adOk gG gB gR gC dB dR dC)) = true →
 (b28 = b28 ∧
 (b3 = b3 ∧
 (b3 = b3 ∧
 (∃ Oq45 : (Option Addr), (∃ Aq46 : (Option Addr), (∃ Hq47 : (Option Addr), (∃ Cq48 : Nat, (∃ Dq49 : Nat, (∃ Ee50 : Nat, (∃ soq51 : (Nat →
 (Option Addr)), (∃ scq52 : (Nat →
 Nat), (∃ ro53 : (Option Addr), (∃ rc54 : Nat, ((Wu [(Wa [(Ws Oq20 y5.1 Cq23), (Ws Aq21 x.2 Dq24), (Ws Hq22 x.4 Ee25)]), (Wi 0), (Wi 2)]) = (Wu [(Wa [(Ws Oq45 x.1.1 Cq48), (Ws Aq46 x.2 Dq49), (Ws Hq47 x.4 Ee50)]), (Wi (decX (x.1.3 (ixN gG gB gR gC dB dR dC)))), (Wi 1)]) ∧
 (SelS [(Hr false O 0 2 x.1.1 0 [(fun i55 => (Cs 3 (so i55) (x.1.2 i55) (sc i55))), (fun i56 => (Cb (x.1.4 i56)))]), (Hr false A 0 1 x.2 0 [(fun i57 => (Ci (x.3 i57)))]), (Hr false H 0 1 x.4 0 [(fun i58 => (Ci (x.5 i58)))]), (Ho false (symRows false 0 x.1 so (fun x59 => 0))), (Hc b0 37 [(Ci gG), (Ci gB), (Ci gR), (Ci gC)]), (Hc b1 33 [(Cs 0 O x.1.1 C), (Cs 1 A x.2 D), (Cs 2 H x.4 E)]), (Hc b2 70 [(Ci dB), (Ci dR), (Ci dC)]), (Hc b3 33 [(Cs 8 Oq20 y5.1 Cq23), (Cs 9 Aq21 x.2 Dq24), (Cs 10 Hq22 x.4 Ee25)]), (Hr true Oq20 52 2 y5.1 Cq23 [(fun i60 => (Cs 11 (soq26 i60) (y5.2 i60) (scq27 i60))), (fun i61 => (Cb (y5.4 i61)))]), (Hr true Aq21 3 1 x.2 Dq24 [(fun i62 => (Ci (ag9 i62)))]), (Hr true Hq22 3 1 x.4 Ee25 [(fun i63 => (Ci (hg10 i63)))]), (Ho true (symRows true 3 y5 soq26 scq27)), (Hc b28 33 [(Cs 8 Oq20 y5.1 Cq23), (Cs 9 Aq21 x.2 Dq24), (Cs 10 Hq22 x.4 Ee25)])] [8, 9, 10, 11, 12] [(Hr true Oq45 52 2 x.1.1 Cq48 [(fun i64 => (Cv (if i64 = (ixN gG gB gR gC dB dR dC) then (Ws ro53 11 rc54) else (Ws (soq51 i64) (x.1.2 i64) (scq52 i64))))), (fun i65 => (Cb (if i65 = (ixN gG gB gR gC dB dR dC) then (x.1.4 (ixN gG gB gR gC dB dR dC)) else (x.1.4 i65))))]), (Hr true Aq46 3 1 x.2 Dq49 [(fun i66 => (Ci (x.3 i66)))]), (Hr true Hq47 3 1 x.4 Ee50 [(fun i67 => (Ci (x.5 i67)))]), (Ho true (symRows true 3 x.1 soq51 scq52)), (Hr true ro53 3 1 11 rc54 [(fun i68 => (Ci (corW (x.1.3 (ixN gG gB gR gC dB dR dC)) i68)))])])))))))))))))))) ∧
 ((!(adOk gG gB gR gC dB dR dC)) = false →
 (b0 = b0 ∧
 (b2 = b2 ∧
 (b28 = b28 ∧
 (Oq20 = Oq20 ∧
 (y5.1 = y5.1 ∧
 ((0 ≤ (adIx gG gB gR gC dB dR dC) ∧ (adIx gG gB gR gC dB dR dC) < ((y5.1 : Nat) : Int)) ∧
 (Oq20 = Oq20 ∧
 ((Int.toNat (adIx gG gB gR gC dB dR dC)) < y5.1 ∧
 (∀ b69 : Nat,
 (b69 = b69 ∧
 (b69 = b69 ∧
 (((y5.4 (Int.toNat (adIx gG gB gR gC dB dR dC))) = true →
 (b28 = b28 ∧
 (b3 = b3 ∧
 (b3 = b3 ∧
 (∃ Oq70 : (Option Addr), (∃ Aq71 : (Option Addr), (∃ Hq72 : (Option Addr), (∃ Cq73 : Nat, (∃ Dq74 : Nat, (∃ Ee75 : Nat, (∃ soq76 : (Nat →
 (Option Addr)), (∃ scq77 : (Nat →
 Nat), (∃ ro78 : (Option Addr), (∃ rc79 : Nat, ((Wu [(Wa [(Ws Oq20 y5.1 Cq23), (Ws Aq21 x.2 Dq24), (Ws Hq22 x.4 Ee25)]), (Wi 0), (Wi 2)]) = (Wu [(Wa [(Ws Oq70 x.1.1 Cq73), (Ws Aq71 x.2 Dq74), (Ws Hq72 x.4 Ee75)]), (Wi (decX (x.1.3 (ixN gG gB gR gC dB dR dC)))), (Wi 1)]) ∧
 (SelS [(Hr false O 0 2 x.1.1 0 [(fun i80 => (Cs 3 (so i80) (x.1.2 i80) (sc i80))), (fun i81 => (Cb (x.1.4 i81)))]), (Hr false A 0 1 x.2 0 [(fun i82 => (Ci (x.3 i82)))]), (Hr false H 0 1 x.4 0 [(fun i83 => (Ci (x.5 i83)))]), (Ho false (symRows false 0 x.1 so (fun x84 => 0))), (Hc b0 37 [(Ci gG), (Ci gB), (Ci gR), (Ci gC)]), (Hc b1 33 [(Cs 0 O x.1.1 C), (Cs 1 A x.2 D), (Cs 2 H x.4 E)]), (Hc b2 70 [(Ci dB), (Ci dR), (Ci dC)]), (Hc b3 33 [(Cs 8 Oq20 y5.1 Cq23), (Cs 9 Aq21 x.2 Dq24), (Cs 10 Hq22 x.4 Ee25)]), (Hr true Oq20 52 2 y5.1 Cq23 [(fun i85 => (Cs 11 (soq26 i85) (y5.2 i85) (scq27 i85))), (fun i86 => (Cb (y5.4 i86)))]), (Hr true Aq21 3 1 x.2 Dq24 [(fun i87 => (Ci (ag9 i87)))]), (Hr true Hq22 3 1 x.4 Ee25 [(fun i88 => (Ci (hg10 i88)))]), (Ho true (symRows true 3 y5 soq26 scq27)), (Hc b28 33 [(Cs 8 Oq20 y5.1 Cq23), (Cs 9 Aq21 x.2 Dq24), (Cs 10 Hq22 x.4 Ee25)]), (Hc b69 52 [(Cs 11 (soq26 (Int.toNat (adIx gG gB gR gC dB dR dC))) (y5.2 (Int.toNat (adIx gG gB gR gC dB dR dC))) (scq27 (Int.toNat (adIx gG gB gR gC dB dR dC)))), (Cb (y5.4 (Int.toNat (adIx gG gB gR gC dB dR dC))))])] [8, 9, 10, 11, 13] [(Hr true Oq70 52 2 x.1.1 Cq73 [(fun i89 => (Cv (if i89 = (ixN gG gB gR gC dB dR dC) then (Ws ro78 11 rc79) else (Ws (soq76 i89) (x.1.2 i89) (scq77 i89))))), (fun i90 => (Cb (if i90 = (ixN gG gB gR gC dB dR dC) then (x.1.4 (ixN gG gB gR gC dB dR dC)) else (x.1.4 i90))))]), (Hr true Aq71 3 1 x.2 Dq74 [(fun i91 => (Ci (x.3 i91)))]), (Hr true Hq72 3 1 x.4 Ee75 [(fun i92 => (Ci (x.5 i92)))]), (Ho true (symRows true 3 x.1 soq76 scq77)), (Hr true ro78 3 1 11 rc79 [(fun i93 => (Ci (corW (x.1.3 (ixN gG gB gR gC dB dR dC)) i93)))])])))))))))))))))) ∧
 ((y5.4 (Int.toNat (adIx gG gB gR gC dB dR dC))) = false →
 (b69 = b69 ∧
 (∃ t94 : Nat, (∃ y95 : CD, (∃ so96 : (Nat →
 (Option Addr)), (∃ sc97 : (Nat →
 Nat), (∃ i98 : Nat, (((symRows true 3 y5 soq26 scq27) = (symRows true t94 y95 so96 sc97) ∧
 ((soq26 (Int.toNat (adIx gG gB gR gC dB dR dC))) = (so96 i98) ∧
 ((y5.2 (Int.toNat (adIx gG gB gR gC dB dR dC))) = (y95.2 i98) ∧
 i98 < y95.1))) ∧
 (((y5.2 (Int.toNat (adIx gG gB gR gC dB dR dC))) = 11 ∧
 (symB 11 (y95.3 i98) (11 : Int)) = true) ∧
 ((((corC (y95.3 i98)) == (1 : Int)) = true →
 (b28 = b28 ∧
 ((btw (decX (y95.3 i98)) (0 : Int) (4294967295 : Int)) = true ∧
 (∀ ro99 : (Option Addr),
 (∀ rc100 : Nat,
 (True ∧
 (Oq20 = Oq20 ∧
 (y5.1 = y5.1 ∧
 ((0 ≤ (adIx gG gB gR gC dB dR dC) ∧ (adIx gG gB gR gC dB dR dC) < ((y5.1 : Nat) : Int)) ∧
 (Oq20 = Oq20 ∧
 ((Int.toNat (adIx gG gB gR gC dB dR dC)) < y5.1 ∧
 (Oq20 = Oq20 ∧
 ((Int.toNat (adIx gG gB gR gC dB dR dC)) < y5.1 ∧
 (True ∧
 ((((corC (y95.3 i98)) == (2 : Int)) = true →
 (b28 = b28 ∧
 (Oq20 = Oq20 ∧
 (y5.1 = y5.1 ∧
 ((0 ≤ (adIx gG gB gR gC dB dR dC) ∧ (adIx gG gB gR gC dB dR dC) < ((y5.1 : Nat) : Int)) ∧
 (Oq20 = Oq20 ∧
 ((Int.toNat (adIx gG gB gR gC dB dR dC)) < y5.1 ∧
 (Oq20 = Oq20 ∧
 ((Int.toNat (adIx gG gB gR gC dB dR dC)) < y5.1 ∧
 (b28 = b28 ∧
 (b3 = b3 ∧
 (b3 = b3 ∧
 (∃ Oq101 : (Option Addr), (∃ Aq102 : (Option Addr), (∃ Hq103 : (Option Addr), (∃ Cq104 : Nat, (∃ Dq105 : Nat, (∃ Ee106 : Nat, (∃ soq107 : (Nat →
 (Option Addr)), (∃ scq108 : (Nat →
 Nat), (∃ ro109 : (Option Addr), (∃ rc110 : Nat, ((Wu [(Wa [(Ws Oq20 y5.1 Cq23), (Ws Aq21 x.2 Dq24), (Ws Hq22 x.4 Ee25)]), (Wi (decX (y95.3 i98))), (Wi (corC (y95.3 i98)))]) = (Wu [(Wa [(Ws Oq101 x.1.1 Cq104), (Ws Aq102 x.2 Dq105), (Ws Hq103 x.4 Ee106)]), (Wi (decX (x.1.3 (ixN gG gB gR gC dB dR dC)))), (Wi 1)]) ∧
 (SelS [(Hr false O 0 2 x.1.1 0 [(fun i111 => (Cs 3 (so i111) (x.1.2 i111) (sc i111))), (fun i112 => (Cb (x.1.4 i112)))]), (Hr false A 0 1 x.2 0 [(fun i113 => (Ci (x.3 i113)))]), (Hr false H 0 1 x.4 0 [(fun i114 => (Ci (x.5 i114)))]), (Ho false (symRows false 0 x.1 so (fun x115 => 0))), (Hc b0 37 [(Ci gG), (Ci gB), (Ci gR), (Ci gC)]), (Hc b1 33 [(Cs 0 O x.1.1 C), (Cs 1 A x.2 D), (Cs 2 H x.4 E)]), (Hc b2 70 [(Ci dB), (Ci dR), (Ci dC)]), (Hc b3 33 [(Cs 8 Oq20 y5.1 Cq23), (Cs 9 Aq21 x.2 Dq24), (Cs 10 Hq22 x.4 Ee25)]), (Hr true Oq20 52 2 y5.1 Cq23 [(fun j116 => (Cv (if j116 = (Int.toNat (adIx gG gB gR gC dB dR dC)) then (Ws ro99 11 rc100) else (Ws (soq26 j116) (y5.2 j116) (scq27 j116))))), (fun j117 => (Cb (if j117 = (Int.toNat (adIx gG gB gR gC dB dR dC)) then true else (y5.4 j117))))]), (Hr true Aq21 3 1 x.2 Dq24 [(fun i118 => (Ci (ag9 i118)))]), (Hr true Hq22 3 1 x.4 Ee25 [(fun i119 => (Ci (hg10 i119)))]), (Ho true (symRows true 3 y5 soq26 scq27)), (Hc b28 33 [(Cs 8 Oq20 y5.1 Cq23), (Cs 9 Aq21 x.2 Dq24), (Cs 10 Hq22 x.4 Ee25)]), (Hc b69 52 [(Cs 11 (soq26 (Int.toNat (adIx gG gB gR gC dB dR dC))) (y5.2 (Int.toNat (adIx gG gB gR gC dB dR dC))) (scq27 (Int.toNat (adIx gG gB gR gC dB dR dC)))), (Cb (y5.4 (Int.toNat (adIx gG gB gR gC dB dR dC))))]), (Hr true ro99 3 1 11 rc100 [(fun i120 => (Ci (cw (decX (y95.3 i98)) i120)))])] [8, 9, 10, 11, 14] [(Hr true Oq101 52 2 x.1.1 Cq104 [(fun i121 => (Cv (if i121 = (ixN gG gB gR gC dB dR dC) then (Ws ro109 11 rc110) else (Ws (soq107 i121) (x.1.2 i121) (scq108 i121))))), (fun i122 => (Cb (if i122 = (ixN gG gB gR gC dB dR dC) then (x.1.4 (ixN gG gB gR gC dB dR dC)) else (x.1.4 i122))))]), (Hr true Aq102 3 1 x.2 Dq105 [(fun i123 => (Ci (x.3 i123)))]), (Hr true Hq103 3 1 x.4 Ee106 [(fun i124 => (Ci (x.5 i124)))]), (Ho true (symRows true 3 x.1 soq107 scq108)), (Hr true ro109 3 1 11 rc110 [(fun i125 => (Ci (corW (x.1.3 (ixN gG gB gR gC dB dR dC)) i125)))])])))))))))))))))))))))))) ∧
 (((corC (y95.3 i98)) == (2 : Int)) = false →
 (b28 = b28 ∧
 (b3 = b3 ∧
 (b3 = b3 ∧
 (∃ Oq126 : (Option Addr), (∃ Aq127 : (Option Addr), (∃ Hq128 : (Option Addr), (∃ Cq129 : Nat, (∃ Dq130 : Nat, (∃ Ee131 : Nat, (∃ soq132 : (Nat →
 (Option Addr)), (∃ scq133 : (Nat →
 Nat), (∃ ro134 : (Option Addr), (∃ rc135 : Nat, ((Wu [(Wa [(Ws Oq20 y5.1 Cq23), (Ws Aq21 x.2 Dq24), (Ws Hq22 x.4 Ee25)]), (Wi (decX (y95.3 i98))), (Wi (corC (y95.3 i98)))]) = (Wu [(Wa [(Ws Oq126 x.1.1 Cq129), (Ws Aq127 x.2 Dq130), (Ws Hq128 x.4 Ee131)]), (Wi (decX (x.1.3 (ixN gG gB gR gC dB dR dC)))), (Wi 1)]) ∧
 (SelS [(Hr false O 0 2 x.1.1 0 [(fun i136 => (Cs 3 (so i136) (x.1.2 i136) (sc i136))), (fun i137 => (Cb (x.1.4 i137)))]), (Hr false A 0 1 x.2 0 [(fun i138 => (Ci (x.3 i138)))]), (Hr false H 0 1 x.4 0 [(fun i139 => (Ci (x.5 i139)))]), (Ho false (symRows false 0 x.1 so (fun x140 => 0))), (Hc b0 37 [(Ci gG), (Ci gB), (Ci gR), (Ci gC)]), (Hc b1 33 [(Cs 0 O x.1.1 C), (Cs 1 A x.2 D), (Cs 2 H x.4 E)]), (Hc b2 70 [(Ci dB), (Ci dR), (Ci dC)]), (Hc b3 33 [(Cs 8 Oq20 y5.1 Cq23), (Cs 9 Aq21 x.2 Dq24), (Cs 10 Hq22 x.4 Ee25)]), (Hr true Oq20 52 2 y5.1 Cq23 [(fun j141 => (Cv (if j141 = (Int.toNat (adIx gG gB gR gC dB dR dC)) then (Ws ro99 11 rc100) else (Ws (soq26 j141) (y5.2 j141) (scq27 j141))))), (fun i142 => (Cb (y5.4 i142)))]), (Hr true Aq21 3 1 x.2 Dq24 [(fun i143 => (Ci (ag9 i143)))]), (Hr true Hq22 3 1 x.4 Ee25 [(fun i144 => (Ci (hg10 i144)))]), (Ho true (symRows true 3 y5 soq26 scq27)), (Hc b28 33 [(Cs 8 Oq20 y5.1 Cq23), (Cs 9 Aq21 x.2 Dq24), (Cs 10 Hq22 x.4 Ee25)]), (Hc b69 52 [(Cs 11 (soq26 (Int.toNat (adIx gG gB gR gC dB dR dC))) (y5.2 (Int.toNat (adIx gG gB gR gC dB dR dC))) (scq27 (Int.toNat (adIx gG gB gR gC dB dR dC)))), (Cb (y5.4 (Int.toNat (adIx gG gB gR gC dB dR dC))))]), (Hr true ro99 3 1 11 rc100 [(fun i145 => (Ci (cw (decX (y95.3 i98)) i145)))])] [8, 9, 10, 11, 14] [(Hr true Oq126 52 2 x.1.1 Cq129 [(fun i146 => (Cv (if i146 = (ixN gG gB gR gC dB dR dC) then (Ws ro134 11 rc135) else (Ws (soq132 i146) (x.1.2 i146) (scq133 i146))))), (fun i147 => (Cb (if i147 = (ixN gG gB gR gC dB dR dC) then (x.1.4 (ixN gG gB gR gC dB dR dC)) else (x.1.4 i147))))]), (Hr true Aq127 3 1 x.2 Dq130 [(fun i148 => (Ci (x.3 i148)))]), (Hr true Hq128 3 1 x.4 Ee131 [(fun i149 => (Ci (x.5 i149)))]), (Ho true (symRows true 3 x.1 soq132 scq133)), (Hr true ro134 3 1 11 rc135 [(fun i150 => (Ci (corW (x.1.3 (ixN gG gB gR gC dB dR dC)) i150)))])]))))))))))))))))))))))))))))))) ∧
 (((corC (y95.3 i98)) == (1 : Int)) = false →
 ((((corC (y95.3 i98)) == (2 : Int)) = true →
 (b28 = b28 ∧
 (Oq20 = Oq20 ∧
 (y5.1 = y5.1 ∧
 ((0 ≤ (adIx gG gB gR gC dB dR dC) ∧ (adIx gG gB gR gC dB dR dC) < ((y5.1 : Nat) : Int)) ∧
 (Oq20 = Oq20 ∧
 ((Int.toNat (adIx gG gB gR gC dB dR dC)) < y5.1 ∧
 (Oq20 = Oq20 ∧
 ((Int.toNat (adIx gG gB gR gC dB dR dC)) < y5.1 ∧
 (b28 = b28 ∧
 (b3 = b3 ∧
 (b3 = b3 ∧
 (∃ Oq151 : (Option Addr), (∃ Aq152 : (Option Addr), (∃ Hq153 : (Option Addr), (∃ Cq154 : Nat, (∃ Dq155 : Nat, (∃ Ee156 : Nat, (∃ soq157 : (Nat →
 (Option Addr)), (∃ scq158 : (Nat →
 Nat), (∃ ro159 : (Option Addr), (∃ rc160 : Nat, ((Wu [(Wa [(Ws Oq20 y5.1 Cq23), (Ws Aq21 x.2 Dq24), (Ws Hq22 x.4 Ee25)]), (Wi (decX (y95.3 i98))), (Wi (corC (y95.3 i98)))]) = (Wu [(Wa [(Ws Oq151 x.1.1 Cq154), (Ws Aq152 x.2 Dq155), (Ws Hq153 x.4 Ee156)]), (Wi (decX (x.1.3 (ixN gG gB gR gC dB dR dC)))), (Wi 1)]) ∧
 (SelS [(Hr false O 0 2 x.1.1 0 [(fun i161 => (Cs 3 (so i161) (x.1.2 i161) (sc i161))), (fun i162 => (Cb (x.1.4 i162)))]), (Hr false A 0 1 x.2 0 [(fun i163 => (Ci (x.3 i163)))]), (Hr false H 0 1 x.4 0 [(fun i164 => (Ci (x.5 i164)))]), (Ho false (symRows false 0 x.1 so (fun x165 => 0))), (Hc b0 37 [(Ci gG), (Ci gB), (Ci gR), (Ci gC)]), (Hc b1 33 [(Cs 0 O x.1.1 C), (Cs 1 A x.2 D), (Cs 2 H x.4 E)]), (Hc b2 70 [(Ci dB), (Ci dR), (Ci dC)]), (Hc b3 33 [(Cs 8 Oq20 y5.1 Cq23), (Cs 9 Aq21 x.2 Dq24), (Cs 10 Hq22 x.4 Ee25)]), (Hr true Oq20 52 2 y5.1 Cq23 [(fun i166 => (Cs 11 (soq26 i166) (y5.2 i166) (scq27 i166))), (fun j167 => (Cb (if j167 = (Int.toNat (adIx gG gB gR gC dB dR dC)) then true else (y5.4 j167))))]), (Hr true Aq21 3 1 x.2 Dq24 [(fun i168 => (Ci (ag9 i168)))]), (Hr true Hq22 3 1 x.4 Ee25 [(fun i169 => (Ci (hg10 i169)))]), (Ho true (symRows true 3 y5 soq26 scq27)), (Hc b28 33 [(Cs 8 Oq20 y5.1 Cq23), (Cs 9 Aq21 x.2 Dq24), (Cs 10 Hq22 x.4 Ee25)]), (Hc b69 52 [(Cs 11 (soq26 (Int.toNat (adIx gG gB gR gC dB dR dC))) (y5.2 (Int.toNat (adIx gG gB gR gC dB dR dC))) (scq27 (Int.toNat (adIx gG gB gR gC dB dR dC)))), (Cb (y5.4 (Int.toNat (adIx gG gB gR gC dB dR dC))))])] [8, 9, 10, 11, 13] [(Hr true Oq151 52 2 x.1.1 Cq154 [(fun i170 => (Cv (if i170 = (ixN gG gB gR gC dB dR dC) then (Ws ro159 11 rc160) else (Ws (soq157 i170) (x.1.2 i170) (scq158 i170))))), (fun i171 => (Cb (if i171 = (ixN gG gB gR gC dB dR dC) then (x.1.4 (ixN gG gB gR gC dB dR dC)) else (x.1.4 i171))))]), (Hr true Aq152 3 1 x.2 Dq155 [(fun i172 => (Ci (x.3 i172)))]), (Hr true Hq153 3 1 x.4 Ee156 [(fun i173 => (Ci (x.5 i173)))]), (Ho true (symRows true 3 x.1 soq157 scq158)), (Hr true ro159 3 1 11 rc160 [(fun i174 => (Ci (corW (x.1.3 (ixN gG gB gR gC dB dR dC)) i174)))])])))))))))))))))))))))))) ∧
 (((corC (y95.3 i98)) == (2 : Int)) = false →
 (b28 = b28 ∧
 (b3 = b3 ∧
 (b3 = b3 ∧
 (∃ Oq175 : (Option Addr), (∃ Aq176 : (Option Addr), (∃ Hq177 : (Option Addr), (∃ Cq178 : Nat, (∃ Dq179 : Nat, (∃ Ee180 : Nat, (∃ soq181 : (Nat →
 (Option Addr)), (∃ scq182 : (Nat →
 Nat), (∃ ro183 : (Option Addr), (∃ rc184 : Nat, ((Wu [(Wa [(Ws Oq20 y5.1 Cq23), (Ws Aq21 x.2 Dq24), (Ws Hq22 x.4 Ee25)]), (Wi (decX (y95.3 i98))), (Wi (corC (y95.3 i98)))]) = (Wu [(Wa [(Ws Oq175 x.1.1 Cq178), (Ws Aq176 x.2 Dq179), (Ws Hq177 x.4 Ee180)]), (Wi (decX (x.1.3 (ixN gG gB gR gC dB dR dC)))), (Wi 1)]) ∧
 (SelS [(Hr false O 0 2 x.1.1 0 [(fun i185 => (Cs 3 (so i185) (x.1.2 i185) (sc i185))), (fun i186 => (Cb (x.1.4 i186)))]), (Hr false A 0 1 x.2 0 [(fun i187 => (Ci (x.3 i187)))]), (Hr false H 0 1 x.4 0 [(fun i188 => (Ci (x.5 i188)))]), (Ho false (symRows false 0 x.1 so (fun x189 => 0))), (Hc b0 37 [(Ci gG), (Ci gB), (Ci gR), (Ci gC)]), (Hc b1 33 [(Cs 0 O x.1.1 C), (Cs 1 A x.2 D), (Cs 2 H x.4 E)]), (Hc b2 70 [(Ci dB), (Ci dR), (Ci dC)]), (Hc b3 33 [(Cs 8 Oq20 y5.1 Cq23), (Cs 9 Aq21 x.2 Dq24), (Cs 10 Hq22 x.4 Ee25)]), (Hr true Oq20 52 2 y5.1 Cq23 [(fun i190 => (Cs 11 (soq26 i190) (y5.2 i190) (scq27 i190))), (fun i191 => (Cb (y5.4 i191)))]), (Hr true Aq21 3 1 x.2 Dq24 [(fun i192 => (Ci (ag9 i192)))]), (Hr true Hq22 3 1 x.4 Ee25 [(fun i193 => (Ci (hg10 i193)))]), (Ho true (symRows true 3 y5 soq26 scq27)), (Hc b28 33 [(Cs 8 Oq20 y5.1 Cq23), (Cs 9 Aq21 x.2 Dq24), (Cs 10 Hq22 x.4 Ee25)]), (Hc b69 52 [(Cs 11 (soq26 (Int.toNat (adIx gG gB gR gC dB dR dC))) (y5.2 (Int.toNat (adIx gG gB gR gC dB dR dC))) (scq27 (Int.toNat (adIx gG gB gR gC dB dR dC)))), (Cb (y5.4 (Int.toNat (adIx gG gB gR gC dB dR dC))))])] [8, 9, 10, 11, 13] [(Hr true Oq175 52 2 x.1.1 Cq178 [(fun i194 => (Cv (if i194 = (ixN gG gB gR gC dB dR dC) then (Ws ro183 11 rc184) else (Ws (soq181 i194) (x.1.2 i194) (scq182 i194))))), (fun i195 => (Cb (if i195 = (ixN gG gB gR gC dB dR dC) then (x.1.4 (ixN gG gB gR gC dB dR dC)) else (x.1.4 i195))))]), (Hr true Aq176 3 1 x.2 Dq179 [(fun i196 => (Ci (x.3 i196)))]), (Hr true Hq177 3 1 x.4 Ee180 [(fun i197 => (Ci (x.5 i197)))]), (Ho true (symRows true 3 x.1 soq181 scq182)), (Hr true ro183 3 1 11 rc184 [(fun i198 => (Ci (corW (x.1.3 (ixN gG gB gR gC dB dR dC)) i198)))])]))))))))))))))))))))))))))))))))))))))))))))) ∧
 ((!(arrOk gG gB gR gC (AD.mk y30 x.2 ag34 x.4 hg35))) = true →
 (b28 = b28 ∧
 (b3 = b3 ∧
 (b3 = b3 ∧
 (∃ Oq199 : (Option Addr), (∃ Aq200 : (Option Addr), (∃ Hq201 : (Option Addr), (∃ Cq202 : Nat, (∃ Dq203 : Nat, (∃ Ee204 : Nat, (∃ soq205 : (Nat →
 (Option Addr)), (∃ scq206 : (Nat →
 Nat), (∃ ro207 : (Option Addr), (∃ rc208 : Nat, ((Wu [(Wa [(Ws Oq20 y5.1 Cq23), (Ws Aq21 x.2 Dq24), (Ws Hq22 x.4 Ee25)]), (Wi 0), (Wi 2)]) = (Wu [(Wa [(Ws Oq199 x.1.1 Cq202), (Ws Aq200 x.2 Dq203), (Ws Hq201 x.4 Ee204)]), (Wi (decX (x.1.3 (ixN gG gB gR gC dB dR dC)))), (Wi 1)]) ∧
 (SelS [(Hr false O 0 2 x.1.1 0 [(fun i209 => (Cs 3 (so i209) (x.1.2 i209) (sc i209))), (fun i210 => (Cb (x.1.4 i210)))]), (Hr false A 0 1 x.2 0 [(fun i211 => (Ci (x.3 i211)))]), (Hr false H 0 1 x.4 0 [(fun i212 => (Ci (x.5 i212)))]), (Ho false (symRows false 0 x.1 so (fun x213 => 0))), (Hc b0 37 [(Ci gG), (Ci gB), (Ci gR), (Ci gC)]), (Hc b1 33 [(Cs 0 O x.1.1 C), (Cs 1 A x.2 D), (Cs 2 H x.4 E)]), (Hc b2 70 [(Ci dB), (Ci dR), (Ci dC)]), (Hc b3 33 [(Cs 8 Oq20 y5.1 Cq23), (Cs 9 Aq21 x.2 Dq24), (Cs 10 Hq22 x.4 Ee25)]), (Hr true Oq20 52 2 y5.1 Cq23 [(fun i214 => (Cs 11 (soq26 i214) (y5.2 i214) (scq27 i214))), (fun i215 => (Cb (y5.4 i215)))]), (Hr true Aq21 3 1 x.2 Dq24 [(fun i216 => (Ci (ag9 i216)))]), (Hr true Hq22 3 1 x.4 Ee25 [(fun i217 => (Ci (hg10 i217)))]), (Ho true (symRows true 3 y5 soq26 scq27)), (Hc b28 33 [(Cs 8 Oq20 y5.1 Cq23), (Cs 9 Aq21 x.2 Dq24), (Cs 10 Hq22 x.4 Ee25)])] [8, 9, 10, 11, 12] [(Hr true Oq199 52 2 x.1.1 Cq202 [(fun i218 => (Cv (if i218 = (ixN gG gB gR gC dB dR dC) then (Ws ro207 11 rc208) else (Ws (soq205 i218) (x.1.2 i218) (scq206 i218))))), (fun i219 => (Cb (if i219 = (ixN gG gB gR gC dB dR dC) then (x.1.4 (ixN gG gB gR gC dB dR dC)) else (x.1.4 i219))))]), (Hr true Aq200 3 1 x.2 Dq203 [(fun i220 => (Ci (x.3 i220)))]), (Hr true Hq201 3 1 x.4 Ee204 [(fun i221 => (Ci (x.5 i221)))]), (Ho true (symRows true 3 x.1 soq205 scq206)), (Hr true ro207 3 1 11 rc208 [(fun i222 => (Ci (corW (x.1.3 (ixN gG gB gR gC dB dR dC)) i222)))])]))))))))))))))))))))))))))))))))))))))))))))))))))))) := by kernel_rfl
theorem gwSF_any (x : AD) (O A H : Option Addr) (C D E : Nat) (so : Nat → Option Addr) (sc : Nat → Nat) (gG gB gR gC : Int) (dB dR dC : Int) (w : World) (hA : SeenA w x O A H so sc) (hcap : capA x) (hokk : gwOk gG gB gR gC dB dR dC x = true) (hpo : x.c.po (adIx gG gB gR gC dB dR dC).toNat = false) (hc1 : corC (x.c.sy (adIx gG gB gR gC dB dR dC).toNat) = 1) : Calls Try.prog 36 #[.agg #[.int .i64 gG, .int .i64 gB, .int .i64 gR, .int .i64 gC], arrV x O A H C D E, .agg #[.int .i64 dB, .int .i64 dR, .int .i64 dC]] w fun e w' => ∃ (Oq Aq Hq : Option Addr) (Cq Dq Ee : Nat) (soq : Nat → Option Addr) (scq : Nat → Nat), e = .returned (.tuple #[arrV (setA x (ixN gG gB gR gC dB dR dC) 11 (fun i => corW (x.c.sy (ixN gG gB gR gC dB dR dC)) i) (x.c.po (ixN gG gB gR gC dB dR dC))) Oq Aq Hq Cq Dq Ee, .int .i64 (decX (x.c.sy (ixN gG gB gR gC dB dR dC))), .int .i64 1]) ∧ HS ⟨w, fun _ => False⟩ (arrO 0 (setA x (ixN gG gB gR gC dB dR dC) 11 (fun i => corW (x.c.sy (ixN gG gB gR gC dB dR dC)) i) (x.c.po (ixN gG gB gR gC dB dR dC))) Oq Aq Hq Cq Dq Ee soq scq) w' := by
  refine fnB (tb := [(45, sCpA), (46, sArrOk), (83, sAdOk), (48, sAdIx), (87, sGet)]) ⟨sCpA_S, sArrOk_S, sAdOk_S, sAdIx_S, sGet_ok, trivial⟩ Try.func36 (@Eq.mpr _ _ (gwSF_T x O A H C D E so sc gG gB gR gC dB dR dC) ?_) (HS.seenAll (fun _ => False) _ (hA.all 0 seenC_nil)) (fun v ch' w' ⟨Oq, Aq, Hq, Cq, Dq, Ee, soq, scq, ro, rc, hv, hc⟩ hs => ⟨Oq, Aq, Hq, Cq, Dq, Ee, _, _, by rw [hv]; rfl, (hc.hs hs).stored⟩)
  clear hA
  have hl := lenA_of hcap
  have hok : arrOk gG gB gR gC x = true := by simp only [gwOk, Bool.and_eq_true] at hokk; exact hokk.1
  have had : adOk gG gB gR gC dB dR dC = true := by simp only [gwOk, Bool.and_eq_true] at hokk; exact hokk.2
  have hin := arr_in hok had
  have hi1 := hin.1
  have hi2 := hin.2.1
  have hi3 : ltN (tn (adIx gG gB gR gC dB dR dC)) x.c.n := hin.2.2
  have hsy : symB (x.c.sn (adIx gG gB gR gC dB dR dC).toNat) (x.c.sy (adIx gG gB gR gC dB dR dC).toNat) 11 = true := (arrOk_facts hok).2.2.2.2 _ hi3
  have hn11 : x.c.sn (adIx gG gB gR gC dB dR dC).toNat = 11 := by have := symB_n hsy; omega
  have hs11 : symB 11 (x.c.sy (adIx gG gB gR gC dB dR dC).toNat) 11 = true := by rw [hn11] at hsy; exact hsy
  have hel := symB_el hs11
  have hcp := hcap.2.2.2 _ hi3
  have b1 : (corC (x.c.sy (adIx gG gB gR gC dB dR dC).toNat) == 1) = true := by rw [hc1]; rfl
  have b2 : (corC (x.c.sy (adIx gG gB gR gC dB dR dC).toNat) == 2) = false := by rw [hc1]; rfl
  have hdw := dec_word hel hc1
  have hcw : ∀ i, i < 11 → cw (decX (x.c.sy (adIx gG gB gR gC dB dR dC).toNat)) i = corW (x.c.sy (adIx gG gB gR gC dB dR dC).toNat) i := fun i hi => dec_cw hel hc1 hi
  repeat' (first
    | with_reducible exact rfl
    | exact True.intro
    | with_reducible assumption
    | exact hl
    | exact hcap
    | with_reducible exact hs11
    | with_reducible exact hn11
    | (intro h; exfalso; rw [hok] at h; simp at h; done)
    | (intro h; exfalso; rw [had] at h; simp at h; done)
    | (intro h; exfalso; rw [b1] at h; simp at h; done)
    | (intro h; exfalso; rw [b2] at h; simp at h; done)
    | (intro h; exfalso; rw [hpo] at h; cases h; done)
    | (refine ⟨_, _, _, _, _, ⟨rfl, rfl, rfl, ?_⟩, ?_⟩)
    | with_reducible exact hdw
    | (show (_ : Value) = _; rw [hc1]; try with_reducible rfl)
    | exact (by refine ⟨?_, rfl⟩; repeat' (first | exact True.intro | exact symRows_push | exact rfl | refine And.intro ?_ ?_ | (intro i hi; show _ = _; with_reducible rfl) | (intro i hi; show _ = _; rfl) | (intro i hi; exact congrArg (fun z => Value.int .i64 z) (hcw i hi)) | (intro i hi; simp only [SC.den, selB]; split <;> simp_all) | (intro i hi; show _ = _; simp only [SC.den]; split <;> rfl)))
    | refine And.intro ?_ ?_
    | apply Exists.intro
    | (intro h; exfalso; simp at h; done)
    | (intro h; replace h := of_decide_eq_true h; first | (exfalso; omega) | skip)
    | (intro h; replace h := of_decide_eq_false h; first | (exfalso; omega) | skip)
    | (intro i hi; with_reducible exact rfl)
    | intro _
    | omega
    | exact rfl)
theorem gwI_all (x : AD) (O A H : Option Addr) (C D E : Nat) (so : Nat → Option Addr) (sc : Nat → Nat) (gG gB gR gC : Int) (dB dR dC : Int) (w : World) (hA : SeenA w x O A H so sc) (hcap : capA x) : Calls Try.prog 90 #[.agg #[.int .i64 gG, .int .i64 gB, .int .i64 gR, .int .i64 gC], arrV x O A H C D E, .agg #[.int .i64 dB, .int .i64 dR, .int .i64 dC]] w fun e w' => ∃ (Oq Aq Hq : Option Addr) (Cq Dq Ee : Nat) (soq : Nat → Option Addr) (scq : Nat → Nat), e = .returned (.tuple #[arrV (gwA gG gB gR gC dB dR dC x) Oq Aq Hq Cq Dq Ee, .int .i64 (gwX gG gB gR gC dB dR dC x), .int .i64 (gwC gG gB gR gC dB dR dC x)]) ∧ HS ⟨w, fun _ => False⟩ (arrO 0 (gwA gG gB gR gC dB dR dC x) Oq Aq Hq Cq Dq Ee soq scq) w' := by
  cases hokk : gwOk gG gB gR gC dB dR dC x
  · have e1 : (gwA gG gB gR gC dB dR dC x) = poA x x.c.po := by simp [gwA, hokk, poA]
    have e2 : gwX gG gB gR gC dB dR dC x = 0 := by simp [gwX, hokk]
    have e3 : gwC gG gB gR gC dB dR dC x = 2 := by simp [gwC, hokk]
    rw [e1, e2, e3]
    exact gwIP_any x O A H C D E so sc gG gB gR gC dB dR dC x.c.po 0 2 w hA hcap (fun _ => ⟨rfl, rfl, rfl⟩) (fun h => by rw [hokk] at h; cases h) (fun h => by rw [hokk] at h; cases h)
  · cases hpo : x.c.po (adIx gG gB gR gC dB dR dC).toNat
    · have hpo' : x.c.po (ixN gG gB gR gC dB dR dC) = false := hpo
      by_cases hc1 : corC (x.c.sy (adIx gG gB gR gC dB dR dC).toNat) = 1
      · have hc1' : corC (x.c.sy (ixN gG gB gR gC dB dR dC)) = 1 := hc1
        have e1 : (gwA gG gB gR gC dB dR dC x) = setA x (ixN gG gB gR gC dB dR dC) 11 (fun i => corW (x.c.sy (ixN gG gB gR gC dB dR dC)) i) (x.c.po (ixN gG gB gR gC dB dR dC)) := by simp [gwA, hokk, getN, hpo', hc1']
        have e2 : gwX gG gB gR gC dB dR dC x = decX (x.c.sy (ixN gG gB gR gC dB dR dC)) := by simp [gwX, hokk, getX, hpo']
        have e3 : gwC gG gB gR gC dB dR dC x = 1 := by simp [gwC, hokk, getC, hpo', hc1']
        rw [e1, e2, e3]
        exact gwIF_any x O A H C D E so sc gG gB gR gC dB dR dC w hA hcap hokk hpo hc1
      · have hc1' : ¬ corC (x.c.sy (ixN gG gB gR gC dB dR dC)) = 1 := hc1
        have e2 : gwX gG gB gR gC dB dR dC x = decX (x.c.sy (ixN gG gB gR gC dB dR dC)) := by simp [gwX, hokk, getX, hpo']
        have e3 : gwC gG gB gR gC dB dR dC x = corC (x.c.sy (ixN gG gB gR gC dB dR dC)) := by simp [gwC, hokk, getC, hpo']
        rw [e2, e3]
        by_cases hc2 : corC (x.c.sy (ixN gG gB gR gC dB dR dC)) = 2
        · have e1 : (gwA gG gB gR gC dB dR dC x) = poA x (fun i => if i = (ixN gG gB gR gC dB dR dC) then true else x.c.po i) := by simp [gwA, hokk, getN, hpo', hc2]
          rw [e1]
          exact gwIP_any x O A H C D E so sc gG gB gR gC dB dR dC _ _ _ w hA hcap (fun h => by rw [hokk] at h; cases h) (fun _ h => by rw [hpo] at h; cases h) (fun _ _ => ⟨hc1, rfl, rfl, fun h => absurd (hc2.symm.trans h) (by decide), fun _ => rfl⟩)
        · have e1 : (gwA gG gB gR gC dB dR dC x) = poA x x.c.po := by simp [gwA, hokk, getN, hpo', hc1', hc2, poA]
          rw [e1]
          exact gwIP_any x O A H C D E so sc gG gB gR gC dB dR dC _ _ _ w hA hcap (fun h => by rw [hokk] at h; cases h) (fun _ h => by rw [hpo] at h; cases h) (fun _ _ => ⟨hc1, rfl, rfl, fun _ => rfl, fun h => absurd h hc2⟩)
    · have hpo' : x.c.po (ixN gG gB gR gC dB dR dC) = true := hpo
      have e1 : (gwA gG gB gR gC dB dR dC x) = poA x x.c.po := by simp [gwA, hokk, getN, hpo', poA]
      have e2 : gwX gG gB gR gC dB dR dC x = 0 := by simp [gwX, hokk, getX, hpo']
      have e3 : gwC gG gB gR gC dB dR dC x = 2 := by simp [gwC, hokk, getC, hpo']
      rw [e1, e2, e3]
      exact gwIP_any x O A H C D E so sc gG gB gR gC dB dR dC x.c.po 0 2 w hA hcap (fun h => by rw [hokk] at h; cases h) (fun _ _ => ⟨rfl, rfl, rfl⟩) (fun _ h => by rw [hpo] at h; cases h)
theorem gwS_all (x : AD) (O A H : Option Addr) (C D E : Nat) (so : Nat → Option Addr) (sc : Nat → Nat) (gG gB gR gC : Int) (dB dR dC : Int) (w : World) (hA : SeenA w x O A H so sc) (hcap : capA x) : Calls Try.prog 36 #[.agg #[.int .i64 gG, .int .i64 gB, .int .i64 gR, .int .i64 gC], arrV x O A H C D E, .agg #[.int .i64 dB, .int .i64 dR, .int .i64 dC]] w fun e w' => ∃ (Oq Aq Hq : Option Addr) (Cq Dq Ee : Nat) (soq : Nat → Option Addr) (scq : Nat → Nat), e = .returned (.tuple #[arrV (gwA gG gB gR gC dB dR dC x) Oq Aq Hq Cq Dq Ee, .int .i64 (gwX gG gB gR gC dB dR dC x), .int .i64 (gwC gG gB gR gC dB dR dC x)]) ∧ HS ⟨w, fun _ => False⟩ (arrO 0 (gwA gG gB gR gC dB dR dC x) Oq Aq Hq Cq Dq Ee soq scq) w' := by
  cases hokk : gwOk gG gB gR gC dB dR dC x
  · have e1 : (gwA gG gB gR gC dB dR dC x) = poA x x.c.po := by simp [gwA, hokk, poA]
    have e2 : gwX gG gB gR gC dB dR dC x = 0 := by simp [gwX, hokk]
    have e3 : gwC gG gB gR gC dB dR dC x = 2 := by simp [gwC, hokk]
    rw [e1, e2, e3]
    exact gwSP_any x O A H C D E so sc gG gB gR gC dB dR dC x.c.po 0 2 w hA hcap (fun _ => ⟨rfl, rfl, rfl⟩) (fun h => by rw [hokk] at h; cases h) (fun h => by rw [hokk] at h; cases h)
  · cases hpo : x.c.po (adIx gG gB gR gC dB dR dC).toNat
    · have hpo' : x.c.po (ixN gG gB gR gC dB dR dC) = false := hpo
      by_cases hc1 : corC (x.c.sy (adIx gG gB gR gC dB dR dC).toNat) = 1
      · have hc1' : corC (x.c.sy (ixN gG gB gR gC dB dR dC)) = 1 := hc1
        have e1 : (gwA gG gB gR gC dB dR dC x) = setA x (ixN gG gB gR gC dB dR dC) 11 (fun i => corW (x.c.sy (ixN gG gB gR gC dB dR dC)) i) (x.c.po (ixN gG gB gR gC dB dR dC)) := by simp [gwA, hokk, getN, hpo', hc1']
        have e2 : gwX gG gB gR gC dB dR dC x = decX (x.c.sy (ixN gG gB gR gC dB dR dC)) := by simp [gwX, hokk, getX, hpo']
        have e3 : gwC gG gB gR gC dB dR dC x = 1 := by simp [gwC, hokk, getC, hpo', hc1']
        rw [e1, e2, e3]
        exact gwSF_any x O A H C D E so sc gG gB gR gC dB dR dC w hA hcap hokk hpo hc1
      · have hc1' : ¬ corC (x.c.sy (ixN gG gB gR gC dB dR dC)) = 1 := hc1
        have e2 : gwX gG gB gR gC dB dR dC x = decX (x.c.sy (ixN gG gB gR gC dB dR dC)) := by simp [gwX, hokk, getX, hpo']
        have e3 : gwC gG gB gR gC dB dR dC x = corC (x.c.sy (ixN gG gB gR gC dB dR dC)) := by simp [gwC, hokk, getC, hpo']
        rw [e2, e3]
        by_cases hc2 : corC (x.c.sy (ixN gG gB gR gC dB dR dC)) = 2
        · have e1 : (gwA gG gB gR gC dB dR dC x) = poA x (fun i => if i = (ixN gG gB gR gC dB dR dC) then true else x.c.po i) := by simp [gwA, hokk, getN, hpo', hc2]
          rw [e1]
          exact gwSP_any x O A H C D E so sc gG gB gR gC dB dR dC _ _ _ w hA hcap (fun h => by rw [hokk] at h; cases h) (fun _ h => by rw [hpo] at h; cases h) (fun _ _ => ⟨hc1, rfl, rfl, fun h => absurd (hc2.symm.trans h) (by decide), fun _ => rfl⟩)
        · have e1 : (gwA gG gB gR gC dB dR dC x) = poA x x.c.po := by simp [gwA, hokk, getN, hpo', hc1', hc2, poA]
          rw [e1]
          exact gwSP_any x O A H C D E so sc gG gB gR gC dB dR dC _ _ _ w hA hcap (fun h => by rw [hokk] at h; cases h) (fun _ h => by rw [hpo] at h; cases h) (fun _ _ => ⟨hc1, rfl, rfl, fun _ => rfl, fun h => absurd h hc2⟩)
    · have hpo' : x.c.po (ixN gG gB gR gC dB dR dC) = true := hpo
      have e1 : (gwA gG gB gR gC dB dR dC x) = poA x x.c.po := by simp [gwA, hokk, getN, hpo', poA]
      have e2 : gwX gG gB gR gC dB dR dC x = 0 := by simp [gwX, hokk, getX, hpo']
      have e3 : gwC gG gB gR gC dB dR dC x = 2 := by simp [gwC, hokk, getC, hpo']
      rw [e1, e2, e3]
      exact gwSP_any x O A H C D E so sc gG gB gR gC dB dR dC x.c.po 0 2 w hA hcap (fun h => by rw [hokk] at h; cases h) (fun _ _ => ⟨rfl, rfl, rfl⟩) (fun _ h => by rw [hpo] at h; cases h)
end Go.Proofs.Ytddeinpnadfgmaa

/-
  Cells stored.
-/
import Derived.Test.YtddeinpnadfgmaaSxM1
namespace Go.Proofs.Ytddeinpnadfgmaa
set_option linter.unusedVariables false
set_option linter.unusedSimpArgs false
open Go.RowKit
set_option maxRecDepth 100000
set_option maxHeartbeats 1000000

def stOk (gG gB gR gC : Int) (dB dR dC : Int) (x : AD) (kn : Nat) (kf : Nat → Int) : Bool := arrOk gG gB gR gC x && adOk gG gB gR gC dB dR dC && symB kn kf 11
def stA (gG gB gR gC : Int) (dB dR dC : Int) (x : AD) (kn : Nat) (kf : Nat → Int) (kb : Bool) : AD := if stOk gG gB gR gC dB dR dC x kn kf = true then setA x (ixN gG gB gR gC dB dR dC) kn kf kb else x
theorem stY_T (x : AD) (O A H : Option Addr) (C D E : Nat) (so : Nat → Option Addr) (sc : Nat → Nat) (gG gB gR gC : Int) (dB dR dC : Int) (ko : Option Addr) (kn kc : Nat) (kf : Nat → Int) (kb : Bool) : (exFn Try.prog {tb := [(53, sCpA), (52, sArrOk), (95, sAdOk), (68, sSym), (69, sAdIx), (71, sCpC)]} 400 Try.f55 ([.a (.agg [.int gG, .int gB, .int gR, .int gC]), .a (arrS 0 x O A H C D E), .a (.agg [.int dB, .int dR, .int dC]), .a (.agg [.sl 4 ko kn kc, .bool kb])]) (arrR 0 x O A H so sc ++ [.row ⟨false, ko, 0, 1, kn, 0, [fun i => .int (kf i)]⟩]) (fun v ch => ∃ (Oq Aq Hq : Option Addr) (Cq Dq Ee : Nat) (soq : Nat → Option Addr) (scq : Nat → Nat) (ro : Option Addr) (rc : Nat), v.den = arrV x Oq Aq Hq Cq Dq Ee ∧ SelS ch (idsSt v ch) (storedCh x (ixN gG gB gR gC dB dR dC) kn kf kb Oq Aq Hq Cq Dq Ee soq scq ro rc))) = (
  (∀ b0 : Nat,
 (∀ b1 : Nat,
 (∀ b2 : Nat,
 (∀ b3 : Nat,
 (∀ b4 : Nat,
 (b1 = b1 ∧
 (∃ t5 : Nat, (∃ y6 : CD, (∃ so7 : (Nat →
 (Option Addr)), (∃ sc8 : (Nat →
 Nat), (∃ sd9 : (Nat →
 Nat), (∃ ag10 : (Nat →
 Int), (∃ hg11 : (Nat →
 Int), (((symRows false 0 x.1 so (fun x12 => 0)) = (symRows false t5 y6 so7 sd9) ∧
 ([(fun i13 => (Cs 3 (so i13) (x.1.2 i13) (sc i13))), (fun i14 => (Cb (x.1.4 i14)))] = [(fun i15 => (Cs 3 (so7 i15) (y6.2 i15) (sc8 i15))), (fun i16 => (Cb (y6.4 i16)))] ∧
 (O = O ∧
 (x.1.1 = x.1.1 ∧
 (x.1.1 = y6.1 ∧
 (A = A ∧
 (x.2 = x.2 ∧
 ([(fun i17 => (Ci (x.3 i17)))] = [(fun i18 => (Ci (ag10 i18)))] ∧
 (H = H ∧
 (x.4 = x.4 ∧
 [(fun i19 => (Ci (x.5 i19)))] = [(fun i20 => (Ci (hg11 i20)))])))))))))) ∧
 ((capA (AD.mk y6 x.2 ag10 x.4 hg11)) ∧
 (∀ Oq21 : (Option Addr),
 (∀ Aq22 : (Option Addr),
 (∀ Hq23 : (Option Addr),
 (∀ Cq24 : Nat,
 (∀ Dq25 : Nat,
 (∀ Ee26 : Nat,
 (∀ soq27 : (Nat →
 (Option Addr)),
 (∀ scq28 : (Nat →
 Nat),
 (∀ b29 : Nat,
 (b29 = b29 ∧
 (b0 = b0 ∧
 (b1 = b1 ∧
 (∃ t30 : Nat, (∃ y31 : CD, (∃ so32 : (Nat →
 (Option Addr)), (∃ sc33 : (Nat →
 Nat), (∃ sd34 : (Nat →
 Nat), (∃ ag35 : (Nat →
 Int), (∃ hg36 : (Nat →
 Int), (((symRows false 0 x.1 so (fun x37 => 0)) = (symRows false t30 y31 so32 sd34) ∧
 ([(fun i38 => (Cs 3 (so i38) (x.1.2 i38) (sc i38))), (fun i39 => (Cb (x.1.4 i39)))] = [(fun i40 => (Cs 3 (so32 i40) (y31.2 i40) (sc33 i40))), (fun i41 => (Cb (y31.4 i41)))] ∧
 (O = O ∧
 (x.1.1 = x.1.1 ∧
 (x.1.1 = y31.1 ∧
 (A = A ∧
 (x.2 = x.2 ∧
 ([(fun i42 => (Ci (x.3 i42)))] = [(fun i43 => (Ci (ag35 i43)))] ∧
 (H = H ∧
 (x.4 = x.4 ∧
 [(fun i44 => (Ci (x.5 i44)))] = [(fun i45 => (Ci (hg36 i45)))])))))))))) ∧
 ((lenA (AD.mk y31 x.2 ag35 x.4 hg36)) ∧
 (((arrOk gG gB gR gC (AD.mk y31 x.2 ag35 x.4 hg36)) = true →
 (b0 = b0 ∧
 (b2 = b2 ∧
 (((adOk gG gB gR gC dB dR dC) = true →
 (b3 = b3 ∧
 (∃ g046 : (Nat →
 Int), ((ko = ko ∧
 (kn = kn ∧
 [(fun i47 => (Ci (kf i47)))] = [(fun i48 => (Ci (g046 i48)))])) ∧
 ((lenC kn) ∧
 (((symB kn g046 (11 : Int)) = true →
 (b29 = b29 ∧
 (b0 = b0 ∧
 (b2 = b2 ∧
 (b3 = b3 ∧
 (True ∧
 (∃ g049 : (Nat →
 Int), ((ko = ko ∧
 (kn = kn ∧
 [(fun i50 => (Ci (kf i50)))] = [(fun i51 => (Ci (g049 i51)))])) ∧
 ((capC kn) ∧
 (∀ ro52 : (Option Addr),
 (∀ rc53 : Nat,
 (True ∧
 (Oq21 = Oq21 ∧
 (y6.1 = y6.1 ∧
 ((0 ≤ (adIx gG gB gR gC dB dR dC) ∧ (adIx gG gB gR gC dB dR dC) < ((y6.1 : Nat) : Int)) ∧
 (Oq21 = Oq21 ∧
 ((Int.toNat (adIx gG gB gR gC dB dR dC)) < y6.1 ∧
 (True ∧
 (b29 = b29 ∧
 (b4 = b4 ∧
 (b4 = b4 ∧
 (∃ Oq54 : (Option Addr), (∃ Aq55 : (Option Addr), (∃ Hq56 : (Option Addr), (∃ Cq57 : Nat, (∃ Dq58 : Nat, (∃ Ee59 : Nat, (∃ soq60 : (Nat →
 (Option Addr)), (∃ scq61 : (Nat →
 Nat), (∃ ro62 : (Option Addr), (∃ rc63 : Nat, ((Wa [(Ws Oq21 y6.1 Cq24), (Ws Aq22 x.2 Dq25), (Ws Hq23 x.4 Ee26)]) = (Wa [(Ws Oq54 x.1.1 Cq57), (Ws Aq55 x.2 Dq58), (Ws Hq56 x.4 Ee59)]) ∧
 (SelS [(Hr false O 0 2 x.1.1 0 [(fun i64 => (Cs 3 (so i64) (x.1.2 i64) (sc i64))), (fun i65 => (Cb (x.1.4 i65)))]), (Hr false A 0 1 x.2 0 [(fun i66 => (Ci (x.3 i66)))]), (Hr false H 0 1 x.4 0 [(fun i67 => (Ci (x.5 i67)))]), (Ho false (symRows false 0 x.1 so (fun x68 => 0))), (Hr false ko 0 1 kn 0 [(fun i69 => (Ci (kf i69)))]), (Hc b0 37 [(Ci gG), (Ci gB), (Ci gR), (Ci gC)]), (Hc b1 33 [(Cs 0 O x.1.1 C), (Cs 1 A x.2 D), (Cs 2 H x.4 E)]), (Hc b2 70 [(Ci dB), (Ci dR), (Ci dC)]), (Hc b3 52 [(Cs 4 ko kn kc), (Cb kb)]), (Hc b4 33 [(Cs 10 Oq21 y6.1 Cq24), (Cs 11 Aq22 x.2 Dq25), (Cs 12 Hq23 x.4 Ee26)]), (Hr true Oq21 52 2 y6.1 Cq24 [(fun j70 => (Cv (if j70 = (Int.toNat (adIx gG gB gR gC dB dR dC)) then (Ws ro52 kn rc53) else (Ws (soq27 j70) (y6.2 j70) (scq28 j70))))), (fun j71 => (Cb (if j71 = (Int.toNat (adIx gG gB gR gC dB dR dC)) then kb else (y6.4 j71))))]), (Hr true Aq22 3 1 x.2 Dq25 [(fun i72 => (Ci (ag10 i72)))]), (Hr true Hq23 3 1 x.4 Ee26 [(fun i73 => (Ci (hg11 i73)))]), (Ho true (symRows true 3 y6 soq27 scq28)), (Hc b29 33 [(Cs 10 Oq21 y6.1 Cq24), (Cs 11 Aq22 x.2 Dq25), (Cs 12 Hq23 x.4 Ee26)]), (Hr true ro52 3 1 kn rc53 [(fun i74 => (Ci (g049 i74)))])] [10, 11, 12, 13, 15] [(Hr true Oq54 52 2 x.1.1 Cq57 [(fun i75 => (Cv (if i75 = (ixN gG gB gR gC dB dR dC) then (Ws ro62 kn rc63) else (Ws (soq60 i75) (x.1.2 i75) (scq61 i75))))), (fun i76 => (Cb (if i76 = (ixN gG gB gR gC dB dR dC) then kb else (x.1.4 i76))))]), (Hr true Aq55 3 1 x.2 Dq58 [(fun i77 => (Ci (x.3 i77)))]), (Hr true Hq56 3 1 x.4 Ee59 [(fun i78 => (Ci (x.5 i78)))]), (Ho true (symRows true 3 x.1 soq60 scq61)), (Hr true ro62 3 1 kn rc63 [(fun i79 => (Ci (kf i79)))])]))))))))))))))))))))))))))))))))) ∧
 ((symB kn g046 (11 : Int)) = false →
 (b29 = b29 ∧
 (b4 = b4 ∧
 (b4 = b4 ∧
 (∃ Oq80 : (Option Addr), (∃ Aq81 : (Option Addr), (∃ Hq82 : (Option Addr), (∃ Cq83 : Nat, (∃ Dq84 : Nat, (∃ Ee85 : Nat, (∃ soq86 : (Nat →
 (Option Addr)), (∃ scq87 : (Nat →
 Nat), (∃ ro88 : (Option Addr), (∃ rc89 : Nat, ((Wa [(Ws Oq21 y6.1 Cq24), (Ws Aq22 x.2 Dq25), (Ws Hq23 x.4 Ee26)]) = (Wa [(Ws Oq80 x.1.1 Cq83), (Ws Aq81 x.2 Dq84), (Ws Hq82 x.4 Ee85)]) ∧
 (SelS [(Hr false O 0 2 x.1.1 0 [(fun i90 => (Cs 3 (so i90) (x.1.2 i90) (sc i90))), (fun i91 => (Cb (x.1.4 i91)))]), (Hr false A 0 1 x.2 0 [(fun i92 => (Ci (x.3 i92)))]), (Hr false H 0 1 x.4 0 [(fun i93 => (Ci (x.5 i93)))]), (Ho false (symRows false 0 x.1 so (fun x94 => 0))), (Hr false ko 0 1 kn 0 [(fun i95 => (Ci (kf i95)))]), (Hc b0 37 [(Ci gG), (Ci gB), (Ci gR), (Ci gC)]), (Hc b1 33 [(Cs 0 O x.1.1 C), (Cs 1 A x.2 D), (Cs 2 H x.4 E)]), (Hc b2 70 [(Ci dB), (Ci dR), (Ci dC)]), (Hc b3 52 [(Cs 4 ko kn kc), (Cb kb)]), (Hc b4 33 [(Cs 10 Oq21 y6.1 Cq24), (Cs 11 Aq22 x.2 Dq25), (Cs 12 Hq23 x.4 Ee26)]), (Hr true Oq21 52 2 y6.1 Cq24 [(fun i96 => (Cs 13 (soq27 i96) (y6.2 i96) (scq28 i96))), (fun i97 => (Cb (y6.4 i97)))]), (Hr true Aq22 3 1 x.2 Dq25 [(fun i98 => (Ci (ag10 i98)))]), (Hr true Hq23 3 1 x.4 Ee26 [(fun i99 => (Ci (hg11 i99)))]), (Ho true (symRows true 3 y6 soq27 scq28)), (Hc b29 33 [(Cs 10 Oq21 y6.1 Cq24), (Cs 11 Aq22 x.2 Dq25), (Cs 12 Hq23 x.4 Ee26)])] [10, 11, 12, 13, 14] [(Hr true Oq80 52 2 x.1.1 Cq83 [(fun i100 => (Cv (if i100 = (ixN gG gB gR gC dB dR dC) then (Ws ro88 kn rc89) else (Ws (soq86 i100) (x.1.2 i100) (scq87 i100))))), (fun i101 => (Cb (if i101 = (ixN gG gB gR gC dB dR dC) then kb else (x.1.4 i101))))]), (Hr true Aq81 3 1 x.2 Dq84 [(fun i102 => (Ci (x.3 i102)))]), (Hr true Hq82 3 1 x.4 Ee85 [(fun i103 => (Ci (x.5 i103)))]), (Ho true (symRows true 3 x.1 soq86 scq87)), (Hr true ro88 3 1 kn rc89 [(fun i104 => (Ci (kf i104)))])])))))))))))))))))))))) ∧
 ((adOk gG gB gR gC dB dR dC) = false →
 (b29 = b29 ∧
 (b4 = b4 ∧
 (b4 = b4 ∧
 (∃ Oq105 : (Option Addr), (∃ Aq106 : (Option Addr), (∃ Hq107 : (Option Addr), (∃ Cq108 : Nat, (∃ Dq109 : Nat, (∃ Ee110 : Nat, (∃ soq111 : (Nat →
 (Option Addr)), (∃ scq112 : (Nat →
 Nat), (∃ ro113 : (Option Addr), (∃ rc114 : Nat, ((Wa [(Ws Oq21 y6.1 Cq24), (Ws Aq22 x.2 Dq25), (Ws Hq23 x.4 Ee26)]) = (Wa [(Ws Oq105 x.1.1 Cq108), (Ws Aq106 x.2 Dq109), (Ws Hq107 x.4 Ee110)]) ∧
 (SelS [(Hr false O 0 2 x.1.1 0 [(fun i115 => (Cs 3 (so i115) (x.1.2 i115) (sc i115))), (fun i116 => (Cb (x.1.4 i116)))]), (Hr false A 0 1 x.2 0 [(fun i117 => (Ci (x.3 i117)))]), (Hr false H 0 1 x.4 0 [(fun i118 => (Ci (x.5 i118)))]), (Ho false (symRows false 0 x.1 so (fun x119 => 0))), (Hr false ko 0 1 kn 0 [(fun i120 => (Ci (kf i120)))]), (Hc b0 37 [(Ci gG), (Ci gB), (Ci gR), (Ci gC)]), (Hc b1 33 [(Cs 0 O x.1.1 C), (Cs 1 A x.2 D), (Cs 2 H x.4 E)]), (Hc b2 70 [(Ci dB), (Ci dR), (Ci dC)]), (Hc b3 52 [(Cs 4 ko kn kc), (Cb kb)]), (Hc b4 33 [(Cs 10 Oq21 y6.1 Cq24), (Cs 11 Aq22 x.2 Dq25), (Cs 12 Hq23 x.4 Ee26)]), (Hr true Oq21 52 2 y6.1 Cq24 [(fun i121 => (Cs 13 (soq27 i121) (y6.2 i121) (scq28 i121))), (fun i122 => (Cb (y6.4 i122)))]), (Hr true Aq22 3 1 x.2 Dq25 [(fun i123 => (Ci (ag10 i123)))]), (Hr true Hq23 3 1 x.4 Ee26 [(fun i124 => (Ci (hg11 i124)))]), (Ho true (symRows true 3 y6 soq27 scq28)), (Hc b29 33 [(Cs 10 Oq21 y6.1 Cq24), (Cs 11 Aq22 x.2 Dq25), (Cs 12 Hq23 x.4 Ee26)])] [10, 11, 12, 13, 14] [(Hr true Oq105 52 2 x.1.1 Cq108 [(fun i125 => (Cv (if i125 = (ixN gG gB gR gC dB dR dC) then (Ws ro113 kn rc114) else (Ws (soq111 i125) (x.1.2 i125) (scq112 i125))))), (fun i126 => (Cb (if i126 = (ixN gG gB gR gC dB dR dC) then kb else (x.1.4 i126))))]), (Hr true Aq106 3 1 x.2 Dq109 [(fun i127 => (Ci (x.3 i127)))]), (Hr true Hq107 3 1 x.4 Ee110 [(fun i128 => (Ci (x.5 i128)))]), (Ho true (symRows true 3 x.1 soq111 scq112)), (Hr true ro113 3 1 kn rc114 [(fun i129 => (Ci (kf i129)))])])))))))))))))))))))) ∧
 ((arrOk gG gB gR gC (AD.mk y31 x.2 ag35 x.4 hg36)) = false →
 (b29 = b29 ∧
 (b4 = b4 ∧
 (b4 = b4 ∧
 (∃ Oq130 : (Option Addr), (∃ Aq131 : (Option Addr), (∃ Hq132 : (Option Addr), (∃ Cq133 : Nat, (∃ Dq134 : Nat, (∃ Ee135 : Nat, (∃ soq136 : (Nat →
 (Option Addr)), (∃ scq137 : (Nat →
 Nat), (∃ ro138 : (Option Addr), (∃ rc139 : Nat, ((Wa [(Ws Oq21 y6.1 Cq24), (Ws Aq22 x.2 Dq25), (Ws Hq23 x.4 Ee26)]) = (Wa [(Ws Oq130 x.1.1 Cq133), (Ws Aq131 x.2 Dq134), (Ws Hq132 x.4 Ee135)]) ∧
 (SelS [(Hr false O 0 2 x.1.1 0 [(fun i140 => (Cs 3 (so i140) (x.1.2 i140) (sc i140))), (fun i141 => (Cb (x.1.4 i141)))]), (Hr false A 0 1 x.2 0 [(fun i142 => (Ci (x.3 i142)))]), (Hr false H 0 1 x.4 0 [(fun i143 => (Ci (x.5 i143)))]), (Ho false (symRows false 0 x.1 so (fun x144 => 0))), (Hr false ko 0 1 kn 0 [(fun i145 => (Ci (kf i145)))]), (Hc b0 37 [(Ci gG), (Ci gB), (Ci gR), (Ci gC)]), (Hc b1 33 [(Cs 0 O x.1.1 C), (Cs 1 A x.2 D), (Cs 2 H x.4 E)]), (Hc b2 70 [(Ci dB), (Ci dR), (Ci dC)]), (Hc b3 52 [(Cs 4 ko kn kc), (Cb kb)]), (Hc b4 33 [(Cs 10 Oq21 y6.1 Cq24), (Cs 11 Aq22 x.2 Dq25), (Cs 12 Hq23 x.4 Ee26)]), (Hr true Oq21 52 2 y6.1 Cq24 [(fun i146 => (Cs 13 (soq27 i146) (y6.2 i146) (scq28 i146))), (fun i147 => (Cb (y6.4 i147)))]), (Hr true Aq22 3 1 x.2 Dq25 [(fun i148 => (Ci (ag10 i148)))]), (Hr true Hq23 3 1 x.4 Ee26 [(fun i149 => (Ci (hg11 i149)))]), (Ho true (symRows true 3 y6 soq27 scq28)), (Hc b29 33 [(Cs 10 Oq21 y6.1 Cq24), (Cs 11 Aq22 x.2 Dq25), (Cs 12 Hq23 x.4 Ee26)])] [10, 11, 12, 13, 14] [(Hr true Oq130 52 2 x.1.1 Cq133 [(fun i150 => (Cv (if i150 = (ixN gG gB gR gC dB dR dC) then (Ws ro138 kn rc139) else (Ws (soq136 i150) (x.1.2 i150) (scq137 i150))))), (fun i151 => (Cb (if i151 = (ixN gG gB gR gC dB dR dC) then kb else (x.1.4 i151))))]), (Hr true Aq131 3 1 x.2 Dq134 [(fun i152 => (Ci (x.3 i152)))]), (Hr true Hq132 3 1 x.4 Ee135 [(fun i153 => (Ci (x.5 i153)))]), (Ho true (symRows true 3 x.1 soq136 scq137)), (Hr true ro138 3 1 kn rc139 [(fun i154 => (Ci (kf i154)))])])))))))))))))))))))))))))))))))))))))))))))))))))))))) := by kernel_rfl
theorem stY_any (x : AD) (O A H : Option Addr) (C D E : Nat) (so : Nat → Option Addr) (sc : Nat → Nat) (gG gB gR gC : Int) (dB dR dC : Int) (ko : Option Addr) (kn kc : Nat) (kf : Nat → Int) (kb : Bool) (w : World) (hA : SeenA w x O A H so sc) (hr : Row.sat w ⟨false, ko, 0, 1, kn, 0, [fun i => .int (kf i)]⟩) (hcap : capA x) (hkn : kn ≤ 2097152) (hst : stOk gG gB gR gC dB dR dC x kn kf = true) : Calls Try.prog 55 #[.agg #[.int .i64 gG, .int .i64 gB, .int .i64 gR, .int .i64 gC], arrV x O A H C D E, .agg #[.int .i64 dB, .int .i64 dR, .int .i64 dC], .agg #[.slice ko kn kc, .bool kb]] w fun e w' => ∃ (Oq Aq Hq : Option Addr) (Cq Dq Ee : Nat) (soq : Nat → Option Addr) (scq : Nat → Nat), e = .returned (arrV (setA x (ixN gG gB gR gC dB dR dC) kn kf kb) Oq Aq Hq Cq Dq Ee) ∧ HS ⟨w, fun _ => False⟩ (arrO 0 (setA x (ixN gG gB gR gC dB dR dC) kn kf kb) Oq Aq Hq Cq Dq Ee soq scq) w' := by
  refine fnB (tb := [(53, sCpA), (52, sArrOk), (95, sAdOk), (68, sSym), (69, sAdIx), (71, sCpC)]) ⟨sCpA_I, sArrOk_I, sAdOk_I, sSym_I, sAdIx_I, sCpC_I, trivial⟩ Try.func55 (@Eq.mpr _ _ (stY_T x O A H C D E so sc gG gB gR gC dB dR dC ko kn kc kf kb) ?_) (HS.seenAll (fun _ => False) _ (hA.all 0 (seenC_row rfl hr seenC_nil))) (fun v ch' w' ⟨Oq, Aq, Hq, Cq, Dq, Ee, soq, scq, ro, rc, hv, hc⟩ hs => ⟨Oq, Aq, Hq, Cq, Dq, Ee, _, _, by rw [hv]; rfl, (hc.hs hs).stored⟩)
  clear hA hr
  have hl := lenA_of hcap
  have hk1 : capC kn := hkn
  simp only [stOk, Bool.and_eq_true] at hst
  obtain ⟨⟨hok, had⟩, hsy⟩ := hst
  have hin := arr_in hok had
  have hi1 := hin.1
  have hi2 := hin.2.1
  have hi3 : ltN (tn (adIx gG gB gR gC dB dR dC)) x.c.n := hin.2.2
  repeat' (first
    | with_reducible exact rfl
    | exact True.intro
    | with_reducible assumption
    | exact hl
    | exact hcap
    | (intro h; exfalso; rw [hok] at h; simp at h; done)
    | (intro h; exfalso; rw [had] at h; simp at h; done)
    | (intro h; exfalso; rw [hsy] at h; simp at h; done)
    | exact (by refine ⟨?_, rfl⟩; repeat' (first | exact True.intro | exact symRows_push | exact rfl | refine And.intro ?_ ?_ | (intro i hi; show _ = _; with_reducible rfl) | (intro i hi; show _ = _; rfl) | (intro i hi; show _ = _; simp only [SC.den]; split <;> rfl)))
    | refine And.intro ?_ ?_
    | apply Exists.intro
    | (intro h; exfalso; simp at h; done)
    | (intro h; replace h := of_decide_eq_true h; first | (exfalso; omega) | skip)
    | (intro h; replace h := of_decide_eq_false h; first | (exfalso; omega) | skip)
    | (intro i hi; with_reducible exact rfl)
    | intro _
    | omega
    | exact rfl)
theorem stN_T (x : AD) (O A H : Option Addr) (C D E : Nat) (so : Nat → Option Addr) (sc : Nat → Nat) (gG gB gR gC : Int) (dB dR dC : Int) (ko : Option Addr) (kn kc : Nat) (kf : Nat → Int) (kb : Bool) : (exFn Try.prog {tb := [(53, sCpA), (52, sArrOk), (95, sAdOk), (68, sSym), (69, sAdIx), (71, sCpC)]} 400 Try.f55 ([.a (.agg [.int gG, .int gB, .int gR, .int gC]), .a (arrS 0 x O A H C D E), .a (.agg [.int dB, .int dR, .int dC]), .a (.agg [.sl 4 ko kn kc, .bool kb])]) (arrR 0 x O A H so sc ++ [.row ⟨false, ko, 0, 1, kn, 0, [fun i => .int (kf i)]⟩]) (fun v ch => ∃ (Oq Aq Hq : Option Addr) (Cq Dq Ee : Nat) (soq : Nat → Option Addr) (scq : Nat → Nat), v.den = arrV x Oq Aq Hq Cq Dq Ee ∧ SelS ch (idsArr v ch) (arrO 0 x Oq Aq Hq Cq Dq Ee soq scq))) = (
  (∀ b0 : Nat,
 (∀ b1 : Nat,
 (∀ b2 : Nat,
 (∀ b3 : Nat,
 (∀ b4 : Nat,
 (b1 = b1 ∧
 (∃ t5 : Nat, (∃ y6 : CD, (∃ so7 : (Nat →
 (Option Addr)), (∃ sc8 : (Nat →
 Nat), (∃ sd9 : (Nat →
 Nat), (∃ ag10 : (Nat →
 Int), (∃ hg11 : (Nat →
 Int), (((symRows false 0 x.1 so (fun x12 => 0)) = (symRows false t5 y6 so7 sd9) ∧
 ([(fun i13 => (Cs 3 (so i13) (x.1.2 i13) (sc i13))), (fun i14 => (Cb (x.1.4 i14)))] = [(fun i15 => (Cs 3 (so7 i15) (y6.2 i15) (sc8 i15))), (fun i16 => (Cb (y6.4 i16)))] ∧
 (O = O ∧
 (x.1.1 = x.1.1 ∧
 (x.1.1 = y6.1 ∧
 (A = A ∧
 (x.2 = x.2 ∧
 ([(fun i17 => (Ci (x.3 i17)))] = [(fun i18 => (Ci (ag10 i18)))] ∧
 (H = H ∧
 (x.4 = x.4 ∧
 [(fun i19 => (Ci (x.5 i19)))] = [(fun i20 => (Ci (hg11 i20)))])))))))))) ∧
 ((capA (AD.mk y6 x.2 ag10 x.4 hg11)) ∧
 (∀ Oq21 : (Option Addr),
 (∀ Aq22 : (Option Addr),
 (∀ Hq23 : (Option Addr),
 (∀ Cq24 : Nat,
 (∀ Dq25 : Nat,
 (∀ Ee26 : Nat,
 (∀ soq27 : (Nat →
 (Option Addr)),
 (∀ scq28 : (Nat →
 Nat),
 (∀ b29 : Nat,
 (b29 = b29 ∧
 (b0 = b0 ∧
 (b1 = b1 ∧
 (∃ t30 : Nat, (∃ y31 : CD, (∃ so32 : (Nat →
 (Option Addr)), (∃ sc33 : (Nat →
 Nat), (∃ sd34 : (Nat →
 Nat), (∃ ag35 : (Nat →
 Int), (∃ hg36 : (Nat →
 Int), (((symRows false 0 x.1 so (fun x37 => 0)) = (symRows false t30 y31 so32 sd34) ∧
 ([(fun i38 => (Cs 3 (so i38) (x.1.2 i38) (sc i38))), (fun i39 => (Cb (x.1.4 i39)))] = [(fun i40 => (Cs 3 (so32 i40) (y31.2 i40) (sc33 i40))), (fun i41 => (Cb (y31.4 i41)))] ∧
 (O = O ∧
 (x.1.1 = x.1.1 ∧
 (x.1.1 = y31.1 ∧
 (A = A ∧
 (x.2 = x.2 ∧
 ([(fun i42 => (Ci (x.3 i42)))] = [(fun i43 => (Ci (ag35 i43)))] ∧
 (H = H ∧
 (x.4 = x.4 ∧
 [(fun i44 => (Ci (x.5 i44)))] = [(fun i45 => (Ci (hg36 i45)))])))))))))) ∧
 ((lenA (AD.mk y31 x.2 ag35 x.4 hg36)) ∧
 (((arrOk gG gB gR gC (AD.mk y31 x.2 ag35 x.4 hg36)) = true →
 (b0 = b0 ∧
 (b2 = b2 ∧
 (((adOk gG gB gR gC dB dR dC) = true →
 (b3 = b3 ∧
 (∃ g046 : (Nat →
 Int), ((ko = ko ∧
 (kn = kn ∧
 [(fun i47 => (Ci (kf i47)))] = [(fun i48 => (Ci (g046 i48)))])) ∧
 ((lenC kn) ∧
 (((symB kn g046 (11 : Int)) = true →
 (b29 = b29 ∧
 (b0 = b0 ∧
 (b2 = b2 ∧
 (b3 = b3 ∧
 (True ∧
 (∃ g049 : (Nat →
 Int), ((ko = ko ∧
 (kn = kn ∧
 [(fun i50 => (Ci (kf i50)))] = [(fun i51 => (Ci (g049 i51)))])) ∧
 ((capC kn) ∧
 (∀ ro52 : (Option Addr),
 (∀ rc53 : Nat,
 (True ∧
 (Oq21 = Oq21 ∧
 (y6.1 = y6.1 ∧
 ((0 ≤ (adIx gG gB gR gC dB dR dC) ∧ (adIx gG gB gR gC dB dR dC) < ((y6.1 : Nat) : Int)) ∧
 (Oq21 = Oq21 ∧
 ((Int.toNat (adIx gG gB gR gC dB dR dC)) < y6.1 ∧
 (True ∧
 (b29 = b29 ∧
 (b4 = b4 ∧
 (b4 = b4 ∧
 (∃ Oq54 : (Option Addr), (∃ Aq55 : (Option Addr), (∃ Hq56 : (Option Addr), (∃ Cq57 : Nat, (∃ Dq58 : Nat, (∃ Ee59 : Nat, (∃ soq60 : (Nat →
 (Option Addr)), (∃ scq61 : (Nat →
 Nat), ((Wa [(Ws Oq21 y6.1 Cq24), (Ws Aq22 x.2 Dq25), (Ws Hq23 x.4 Ee26)]) = (Wa [(Ws Oq54 x.1.1 Cq57), (Ws Aq55 x.2 Dq58), (Ws Hq56 x.4 Ee59)]) ∧
 (SelS [(Hr false O 0 2 x.1.1 0 [(fun i62 => (Cs 3 (so i62) (x.1.2 i62) (sc i62))), (fun i63 => (Cb (x.1.4 i63)))]), (Hr false A 0 1 x.2 0 [(fun i64 => (Ci (x.3 i64)))]), (Hr false H 0 1 x.4 0 [(fun i65 => (Ci (x.5 i65)))]), (Ho false (symRows false 0 x.1 so (fun x66 => 0))), (Hr false ko 0 1 kn 0 [(fun i67 => (Ci (kf i67)))]), (Hc b0 37 [(Ci gG), (Ci gB), (Ci gR), (Ci gC)]), (Hc b1 33 [(Cs 0 O x.1.1 C), (Cs 1 A x.2 D), (Cs 2 H x.4 E)]), (Hc b2 70 [(Ci dB), (Ci dR), (Ci dC)]), (Hc b3 52 [(Cs 4 ko kn kc), (Cb kb)]), (Hc b4 33 [(Cs 10 Oq21 y6.1 Cq24), (Cs 11 Aq22 x.2 Dq25), (Cs 12 Hq23 x.4 Ee26)]), (Hr true Oq21 52 2 y6.1 Cq24 [(fun j68 => (Cv (if j68 = (Int.toNat (adIx gG gB gR gC dB dR dC)) then (Ws ro52 kn rc53) else (Ws (soq27 j68) (y6.2 j68) (scq28 j68))))), (fun j69 => (Cb (if j69 = (Int.toNat (adIx gG gB gR gC dB dR dC)) then kb else (y6.4 j69))))]), (Hr true Aq22 3 1 x.2 Dq25 [(fun i70 => (Ci (ag10 i70)))]), (Hr true Hq23 3 1 x.4 Ee26 [(fun i71 => (Ci (hg11 i71)))]), (Ho true (symRows true 3 y6 soq27 scq28)), (Hc b29 33 [(Cs 10 Oq21 y6.1 Cq24), (Cs 11 Aq22 x.2 Dq25), (Cs 12 Hq23 x.4 Ee26)]), (Hr true ro52 3 1 kn rc53 [(fun i72 => (Ci (g049 i72)))])] [10, 11, 12, 1000003] [(Hr true Oq54 52 2 x.1.1 Cq57 [(fun i73 => (Cs 3 (soq60 i73) (x.1.2 i73) (scq61 i73))), (fun i74 => (Cb (x.1.4 i74)))]), (Hr true Aq55 3 1 x.2 Dq58 [(fun i75 => (Ci (x.3 i75)))]), (Hr true Hq56 3 1 x.4 Ee59 [(fun i76 => (Ci (x.5 i76)))]), (Ho true (symRows true 3 x.1 soq60 scq61))]))))))))))))))))))))))))))))))) ∧
 ((symB kn g046 (11 : Int)) = false →
 (b29 = b29 ∧
 (b4 = b4 ∧
 (b4 = b4 ∧
 (∃ Oq77 : (Option Addr), (∃ Aq78 : (Option Addr), (∃ Hq79 : (Option Addr), (∃ Cq80 : Nat, (∃ Dq81 : Nat, (∃ Ee82 : Nat, (∃ soq83 : (Nat →
 (Option Addr)), (∃ scq84 : (Nat →
 Nat), ((Wa [(Ws Oq21 y6.1 Cq24), (Ws Aq22 x.2 Dq25), (Ws Hq23 x.4 Ee26)]) = (Wa [(Ws Oq77 x.1.1 Cq80), (Ws Aq78 x.2 Dq81), (Ws Hq79 x.4 Ee82)]) ∧
 (SelS [(Hr false O 0 2 x.1.1 0 [(fun i85 => (Cs 3 (so i85) (x.1.2 i85) (sc i85))), (fun i86 => (Cb (x.1.4 i86)))]), (Hr false A 0 1 x.2 0 [(fun i87 => (Ci (x.3 i87)))]), (Hr false H 0 1 x.4 0 [(fun i88 => (Ci (x.5 i88)))]), (Ho false (symRows false 0 x.1 so (fun x89 => 0))), (Hr false ko 0 1 kn 0 [(fun i90 => (Ci (kf i90)))]), (Hc b0 37 [(Ci gG), (Ci gB), (Ci gR), (Ci gC)]), (Hc b1 33 [(Cs 0 O x.1.1 C), (Cs 1 A x.2 D), (Cs 2 H x.4 E)]), (Hc b2 70 [(Ci dB), (Ci dR), (Ci dC)]), (Hc b3 52 [(Cs 4 ko kn kc), (Cb kb)]), (Hc b4 33 [(Cs 10 Oq21 y6.1 Cq24), (Cs 11 Aq22 x.2 Dq25), (Cs 12 Hq23 x.4 Ee26)]), (Hr true Oq21 52 2 y6.1 Cq24 [(fun i91 => (Cs 13 (soq27 i91) (y6.2 i91) (scq28 i91))), (fun i92 => (Cb (y6.4 i92)))]), (Hr true Aq22 3 1 x.2 Dq25 [(fun i93 => (Ci (ag10 i93)))]), (Hr true Hq23 3 1 x.4 Ee26 [(fun i94 => (Ci (hg11 i94)))]), (Ho true (symRows true 3 y6 soq27 scq28)), (Hc b29 33 [(Cs 10 Oq21 y6.1 Cq24), (Cs 11 Aq22 x.2 Dq25), (Cs 12 Hq23 x.4 Ee26)])] [10, 11, 12, 13] [(Hr true Oq77 52 2 x.1.1 Cq80 [(fun i95 => (Cs 3 (soq83 i95) (x.1.2 i95) (scq84 i95))), (fun i96 => (Cb (x.1.4 i96)))]), (Hr true Aq78 3 1 x.2 Dq81 [(fun i97 => (Ci (x.3 i97)))]), (Hr true Hq79 3 1 x.4 Ee82 [(fun i98 => (Ci (x.5 i98)))]), (Ho true (symRows true 3 x.1 soq83 scq84))])))))))))))))))))))) ∧
 ((adOk gG gB gR gC dB dR dC) = false →
 (b29 = b29 ∧
 (b4 = b4 ∧
 (b4 = b4 ∧
 (∃ Oq99 : (Option Addr), (∃ Aq100 : (Option Addr), (∃ Hq101 : (Option Addr), (∃ Cq102 : Nat, (∃ Dq103 : Nat, (∃ Ee104 : Nat, (∃ soq105 : (Nat →
 (Option Addr)), (∃ scq106 : (Nat →
 Nat), ((Wa [(Ws Oq21 y6.1 Cq24), (Ws Aq22 x.2 Dq25), (Ws Hq23 x.4 Ee26)]) = (Wa [(Ws Oq99 x.1.1 Cq102), (Ws Aq100 x.2 Dq103), (Ws Hq101 x.4 Ee104)]) ∧
 (SelS [(Hr false O 0 2 x.1.1 0 [(fun i107 => (Cs 3 (so i107) (x.1.2 i107) (sc i107))), (fun i108 => (Cb (x.1.4 i108)))]), (Hr false A 0 1 x.2 0 [(fun i109 => (Ci (x.3 i109)))]), (Hr false H 0 1 x.4 0 [(fun i110 => (Ci (x.5 i110)))]), (Ho false (symRows false 0 x.1 so (fun x111 => 0))), (Hr false ko 0 1 kn 0 [(fun i112 => (Ci (kf i112)))]), (Hc b0 37 [(Ci gG), (Ci gB), (Ci gR), (Ci gC)]), (Hc b1 33 [(Cs 0 O x.1.1 C), (Cs 1 A x.2 D), (Cs 2 H x.4 E)]), (Hc b2 70 [(Ci dB), (Ci dR), (Ci dC)]), (Hc b3 52 [(Cs 4 ko kn kc), (Cb kb)]), (Hc b4 33 [(Cs 10 Oq21 y6.1 Cq24), (Cs 11 Aq22 x.2 Dq25), (Cs 12 Hq23 x.4 Ee26)]), (Hr true Oq21 52 2 y6.1 Cq24 [(fun i113 => (Cs 13 (soq27 i113) (y6.2 i113) (scq28 i113))), (fun i114 => (Cb (y6.4 i114)))]), (Hr true Aq22 3 1 x.2 Dq25 [(fun i115 => (Ci (ag10 i115)))]), (Hr true Hq23 3 1 x.4 Ee26 [(fun i116 => (Ci (hg11 i116)))]), (Ho true (symRows true 3 y6 soq27 scq28)), (Hc b29 33 [(Cs 10 Oq21 y6.1 Cq24), (Cs 11 Aq22 x.2 Dq25), (Cs 12 Hq23 x.4 Ee26)])] [10, 11, 12, 13] [(Hr true Oq99 52 2 x.1.1 Cq102 [(fun i117 => (Cs 3 (soq105 i117) (x.1.2 i117) (scq106 i117))), (fun i118 => (Cb (x.1.4 i118)))]), (Hr true Aq100 3 1 x.2 Dq103 [(fun i119 => (Ci (x.3 i119)))]), (Hr true Hq101 3 1 x.4 Ee104 [(fun i120 => (Ci (x.5 i120)))]), (Ho true (symRows true 3 x.1 soq105 scq106))])))))))))))))))))) ∧
 ((arrOk gG gB gR gC (AD.mk y31 x.2 ag35 x.4 hg36)) = false →
 (b29 = b29 ∧
 (b4 = b4 ∧
 (b4 = b4 ∧
 (∃ Oq121 : (Option Addr), (∃ Aq122 : (Option Addr), (∃ Hq123 : (Option Addr), (∃ Cq124 : Nat, (∃ Dq125 : Nat, (∃ Ee126 : Nat, (∃ soq127 : (Nat →
 (Option Addr)), (∃ scq128 : (Nat →
 Nat), ((Wa [(Ws Oq21 y6.1 Cq24), (Ws Aq22 x.2 Dq25), (Ws Hq23 x.4 Ee26)]) = (Wa [(Ws Oq121 x.1.1 Cq124), (Ws Aq122 x.2 Dq125), (Ws Hq123 x.4 Ee126)]) ∧
 (SelS [(Hr false O 0 2 x.1.1 0 [(fun i129 => (Cs 3 (so i129) (x.1.2 i129) (sc i129))), (fun i130 => (Cb (x.1.4 i130)))]), (Hr false A 0 1 x.2 0 [(fun i131 => (Ci (x.3 i131)))]), (Hr false H 0 1 x.4 0 [(fun i132 => (Ci (x.5 i132)))]), (Ho false (symRows false 0 x.1 so (fun x133 => 0))), (Hr false ko 0 1 kn 0 [(fun i134 => (Ci (kf i134)))]), (Hc b0 37 [(Ci gG), (Ci gB), (Ci gR), (Ci gC)]), (Hc b1 33 [(Cs 0 O x.1.1 C), (Cs 1 A x.2 D), (Cs 2 H x.4 E)]), (Hc b2 70 [(Ci dB), (Ci dR), (Ci dC)]), (Hc b3 52 [(Cs 4 ko kn kc), (Cb kb)]), (Hc b4 33 [(Cs 10 Oq21 y6.1 Cq24), (Cs 11 Aq22 x.2 Dq25), (Cs 12 Hq23 x.4 Ee26)]), (Hr true Oq21 52 2 y6.1 Cq24 [(fun i135 => (Cs 13 (soq27 i135) (y6.2 i135) (scq28 i135))), (fun i136 => (Cb (y6.4 i136)))]), (Hr true Aq22 3 1 x.2 Dq25 [(fun i137 => (Ci (ag10 i137)))]), (Hr true Hq23 3 1 x.4 Ee26 [(fun i138 => (Ci (hg11 i138)))]), (Ho true (symRows true 3 y6 soq27 scq28)), (Hc b29 33 [(Cs 10 Oq21 y6.1 Cq24), (Cs 11 Aq22 x.2 Dq25), (Cs 12 Hq23 x.4 Ee26)])] [10, 11, 12, 13] [(Hr true Oq121 52 2 x.1.1 Cq124 [(fun i139 => (Cs 3 (soq127 i139) (x.1.2 i139) (scq128 i139))), (fun i140 => (Cb (x.1.4 i140)))]), (Hr true Aq122 3 1 x.2 Dq125 [(fun i141 => (Ci (x.3 i141)))]), (Hr true Hq123 3 1 x.4 Ee126 [(fun i142 => (Ci (x.5 i142)))]), (Ho true (symRows true 3 x.1 soq127 scq128))])))))))))))))))))))))))))))))))))))))))))))))))))))) := by kernel_rfl
theorem stN_any (x : AD) (O A H : Option Addr) (C D E : Nat) (so : Nat → Option Addr) (sc : Nat → Nat) (gG gB gR gC : Int) (dB dR dC : Int) (ko : Option Addr) (kn kc : Nat) (kf : Nat → Int) (kb : Bool) (w : World) (hA : SeenA w x O A H so sc) (hr : Row.sat w ⟨false, ko, 0, 1, kn, 0, [fun i => .int (kf i)]⟩) (hcap : capA x) (hkn : kn ≤ 2097152) (hst : stOk gG gB gR gC dB dR dC x kn kf = false) : Calls Try.prog 55 #[.agg #[.int .i64 gG, .int .i64 gB, .int .i64 gR, .int .i64 gC], arrV x O A H C D E, .agg #[.int .i64 dB, .int .i64 dR, .int .i64 dC], .agg #[.slice ko kn kc, .bool kb]] w fun e w' => ∃ (Oq Aq Hq : Option Addr) (Cq Dq Ee : Nat) (soq : Nat → Option Addr) (scq : Nat → Nat), e = .returned (arrV (x) Oq Aq Hq Cq Dq Ee) ∧ HS ⟨w, fun _ => False⟩ (arrO 0 (x) Oq Aq Hq Cq Dq Ee soq scq) w' := by
  refine fnB (tb := [(53, sCpA), (52, sArrOk), (95, sAdOk), (68, sSym), (69, sAdIx), (71, sCpC)]) ⟨sCpA_I, sArrOk_I, sAdOk_I, sSym_I, sAdIx_I, sCpC_I, trivial⟩ Try.func55 (@Eq.mpr _ _ (stN_T x O A H C D E so sc gG gB gR gC dB dR dC ko kn kc kf kb) ?_) (HS.seenAll (fun _ => False) _ (hA.all 0 (seenC_row rfl hr seenC_nil))) (fun v ch' w' ⟨Oq, Aq, Hq, Cq, Dq, Ee, soq, scq, hv, hc⟩ hs => ⟨Oq, Aq, Hq, Cq, Dq, Ee, soq, scq, by rw [hv], hc.hs hs⟩)
  clear hA hr
  have hl := lenA_of hcap
  have hk1 : capC kn := hkn
  cases hok : arrOk gG gB gR gC x
  · skip
    repeat' (first
      | with_reducible exact rfl
      | exact True.intro
      | with_reducible assumption
      | exact hl
      | exact hcap
      | (intro h; exfalso; rw [hok] at h; simp at h; done)
      | exact (by refine ⟨?_, rfl⟩; repeat' (first | exact True.intro | exact symRows_push | exact rfl | refine And.intro ?_ ?_ | (intro i hi; show _ = _; with_reducible rfl) | (intro i hi; show _ = _; rfl) | (intro i hi; show _ = _; simp only [SC.den]; split <;> rfl)))
      | refine And.intro ?_ ?_
      | apply Exists.intro
      | (intro h; exfalso; simp at h; done)
      | (intro h; replace h := of_decide_eq_true h; first | (exfalso; omega) | skip)
      | (intro h; replace h := of_decide_eq_false h; first | (exfalso; omega) | skip)
      | (intro i hi; with_reducible exact rfl)
      | intro _
      | omega
      | exact rfl)
  · cases had : adOk gG gB gR gC dB dR dC
    · skip
      repeat' (first
        | with_reducible exact rfl
        | exact True.intro
        | with_reducible assumption
        | exact hl
        | exact hcap
        | (intro h; exfalso; rw [hok] at h; simp at h; done)
        | (intro h; exfalso; rw [had] at h; simp at h; done)
        | exact (by refine ⟨?_, rfl⟩; repeat' (first | exact True.intro | exact symRows_push | exact rfl | refine And.intro ?_ ?_ | (intro i hi; show _ = _; with_reducible rfl) | (intro i hi; show _ = _; rfl) | (intro i hi; show _ = _; simp only [SC.den]; split <;> rfl)))
        | refine And.intro ?_ ?_
        | apply Exists.intro
        | (intro h; exfalso; simp at h; done)
        | (intro h; replace h := of_decide_eq_true h; first | (exfalso; omega) | skip)
        | (intro h; replace h := of_decide_eq_false h; first | (exfalso; omega) | skip)
        | (intro i hi; with_reducible exact rfl)
        | intro _
        | omega
        | exact rfl)
    · have hsy : symB kn kf 11 = false := by simpa [stOk, hok, had] using hst
      repeat' (first
        | with_reducible exact rfl
        | exact True.intro
        | with_reducible assumption
        | exact hl
        | exact hcap
        | (intro h; exfalso; rw [hok] at h; simp at h; done)
        | (intro h; exfalso; rw [had] at h; simp at h; done)
        | (intro h; exfalso; rw [hsy] at h; simp at h; done)
        | exact (by refine ⟨?_, rfl⟩; repeat' (first | exact True.intro | exact symRows_push | exact rfl | refine And.intro ?_ ?_ | (intro i hi; show _ = _; with_reducible rfl) | (intro i hi; show _ = _; rfl) | (intro i hi; show _ = _; simp only [SC.den]; split <;> rfl)))
        | refine And.intro ?_ ?_
        | apply Exists.intro
        | (intro h; exfalso; simp at h; done)
        | (intro h; replace h := of_decide_eq_true h; first | (exfalso; omega) | skip)
        | (intro h; replace h := of_decide_eq_false h; first | (exfalso; omega) | skip)
        | (intro i hi; with_reducible exact rfl)
        | intro _
        | omega
        | exact rfl)
theorem st_any (x : AD) (O A H : Option Addr) (C D E : Nat) (so : Nat → Option Addr) (sc : Nat → Nat) (gG gB gR gC : Int) (dB dR dC : Int) (ko : Option Addr) (kn kc : Nat) (kf : Nat → Int) (kb : Bool) (w : World) (hA : SeenA w x O A H so sc) (hr : Row.sat w ⟨false, ko, 0, 1, kn, 0, [fun i => .int (kf i)]⟩) (hcap : capA x) (hkn : kn ≤ 2097152) : Calls Try.prog 55 #[.agg #[.int .i64 gG, .int .i64 gB, .int .i64 gR, .int .i64 gC], arrV x O A H C D E, .agg #[.int .i64 dB, .int .i64 dR, .int .i64 dC], .agg #[.slice ko kn kc, .bool kb]] w fun e w' => ∃ (Oq Aq Hq : Option Addr) (Cq Dq Ee : Nat) (soq : Nat → Option Addr) (scq : Nat → Nat), e = .returned (arrV (stA gG gB gR gC dB dR dC x kn kf kb) Oq Aq Hq Cq Dq Ee) ∧ HS ⟨w, fun _ => False⟩ (arrO 0 (stA gG gB gR gC dB dR dC x kn kf kb) Oq Aq Hq Cq Dq Ee soq scq) w' := by
  cases hst : stOk gG gB gR gC dB dR dC x kn kf
  · have e : stA gG gB gR gC dB dR dC x kn kf kb = x := by simp [stA, hst]
    rw [e]
    exact stN_any x O A H C D E so sc gG gB gR gC dB dR dC ko kn kc kf kb w hA hr hcap hkn hst
  · have e : stA gG gB gR gC dB dR dC x kn kf kb = setA x (ixN gG gB gR gC dB dR dC) kn kf kb := by simp [stA, hst]
    rw [e]
    exact stY_any x O A H C D E so sc gG gB gR gC dB dR dC ko kn kc kf kb w hA hr hcap hkn hst
def sSt : Sm := fun args ch kk =>
  match args with
  | [.a (.agg [c0, c1, c2, c3]), .a c, .a (.agg [e0, e1, e2]), .a d] =>
    match ints [c0, c1, c2, c3, e0, e1, e2] with
    | some [gG, gB, gR, gC, dB, dR, dC] => rdA ch c fun x => rdC ch d fun kn kf kb => (capA x ∧ capC kn) ∧ ∀ (Oq Aq Hq : Option Addr) (Cq Dq Ee : Nat) (soq : Nat → Option Addr) (scq : Nat → Nat), kk (.a (arrS ch.length (stA gG gB gR gC dB dR dC x kn kf kb) Oq Aq Hq Cq Dq Ee)) (ch ++ arrO ch.length (stA gG gB gR gC dB dR dC x kn kf kb) Oq Aq Hq Cq Dq Ee soq scq) []
    | _ => False
  | _ => False
theorem sSt_ok : SmOK Try.prog 55 sSt := by
  refine smN Try.call55 fun args ch kk w X h0 hs => ?_
  unfold sSt at h0
  split at h0
  · rename_i c0 c1 c2 c3 c e0 e1 e2 d
    split at h0
    · rename_i gG gB gR gC dB dR dC hi
      obtain ⟨q0, hi⟩ := ints_cons hi
      obtain ⟨q1, hi⟩ := ints_cons hi
      obtain ⟨q2, hi⟩ := ints_cons hi
      obtain ⟨q3, hi⟩ := ints_cons hi
      obtain ⟨q4, hi⟩ := ints_cons hi
      obtain ⟨q5, hi⟩ := ints_cons hi
      obtain ⟨q6, hi⟩ := ints_cons hi
      obtain ⟨x, O, A, H, C, D, E, so, sc, e, hA, h1⟩ := rdA_ok h0 hs
      obtain ⟨ko, kn, kc, kf, kb, eD, hr, ⟨hc, hkn⟩, h2⟩ := rdC_ok h1 hs
      have e8 : SA.den (.agg [c0, c1, c2, c3]) = .agg #[.int .i64 gG, .int .i64 gB, .int .i64 gR, .int .i64 gC] := by simp only [SA.den, List.map_cons, List.map_nil, q0, q1, q2, q3]
      have e9 : SA.den (.agg [e0, e1, e2]) = .agg #[.int .i64 dB, .int .i64 dR, .int .i64 dC] := by simp only [SA.den, List.map_cons, List.map_nil, q4, q5, q6]
      simp only [List.map_cons, List.map_nil, den_a, e, eD, e8, e9]
      refine Calls.mono (st_any x O A H C D E so sc gG gB gR gC dB dR dC ko kn kc kf kb w hA hr hc hkn) fun e w' ⟨Oq, Aq, Hq, Cq, Dq, Ee, soq, scq, he, hs'⟩ => ⟨.a (arrS ch.length (stA gG gB gR gC dB dR dC x kn kf kb) Oq Aq Hq Cq Dq Ee), _, by rw [he]; rfl, arrO_at hs', rfl, h2 Oq Aq Hq Cq Dq Ee soq scq⟩
    · exact h0.elim
  · exact h0.elim
end Go.Proofs.Ytddeinpnadfgmaa

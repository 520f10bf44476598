/-
  Words put while a row moves.
-/
import Derived.Test.YtddeinpnadfgmaaSxM4
namespace Go.Proofs.Ytddeinpnadfgmaa
set_option linter.unusedVariables false
set_option linter.unusedSimpArgs false
open Go.RowKit
set_option maxRecDepth 100000
set_option maxHeartbeats 8000000

def mpOk (gG gB gR gC : Int) (mB mF mT mN : Int) (x : AD) (q y : Int) : Bool := arrOk gG gB gR gC x && mvOk gG gB gR gC mB mF mT mN && btw q 0 (gC - 1) && btw y 0 4294967295
def mpA (gG gB gR gC : Int) (mB mF mT mN : Int) (x : AD) (q y : Int) : AD := if mpOk gG gB gR gC mB mF mT mN x q y = true then (if ilt q mN = true then putA gG gB gR gC mB mT q (putA gG gB gR gC mB mF q x y) y else putA gG gB gR gC mB mF q x y) else x
theorem capA_set {x : AD} {k m : Nat} {f : Nat → Int} {b : Bool} (h : capA x) (hm : m ≤ 2097152) : capA (setA x k m f b) :=
  ⟨h.1, h.2.1, h.2.2.1, fun i hi => by
    show (if i = k then m else x.c.sn i) ≤ 2097152
    split
    · exact hm
    · exact h.2.2.2 i hi⟩
theorem capA_put {gG gB gR gC dB dR dC y : Int} {x : AD} (h : capA x) : capA (putA gG gB gR gC dB dR dC x y) := by
  unfold putA
  split
  · exact capA_set h (by omega)
  · exact h
theorem mptI_T (x : AD) (O A H : Option Addr) (C D E : Nat) (so : Nat → Option Addr) (sc : Nat → Nat) (gG gB gR gC : Int) (mB mF mT mN : Int) (q y : Int) (z : AD) (b : Bool) : (exFn Try.prog {tb := [(52, sArrOk), (41, sMvOk), (75, sBtw), (76, sIwI), (53, sCpA), (77, sPut)]} 400 Try.f27 ([.a (.agg [.int gG, .int gB, .int gR, .int gC]), .a (arrS 0 x O A H C D E), .a (.agg [.int mB, .int mF, .int mT, .int mN]), .a (.c (.int q)), .a (.c (.int y))]) (arrR 0 x O A H so sc) (fun v ch => ∃ (Oq Aq Hq : Option Addr) (Cq Dq Ee : Nat) (soq : Nat → Option Addr) (scq : Nat → Nat), v.den = .tuple #[arrV z Oq Aq Hq Cq Dq Ee, .bool b] ∧ SelS ch (idsArr v ch) (arrO 0 z Oq Aq Hq Cq Dq Ee soq scq))) = (
  (∀ b0 : Nat,
 (∀ b1 : Nat,
 (∀ b2 : Nat,
 (∀ b3 : Nat,
 (b0 = b0 ∧
 (b1 = b1 ∧
 (∃ t4 : Nat, (∃ y5 : CD, (∃ so6 : (Nat →
 (Option Addr)), (∃ sc7 : (Nat →
 Nat), (∃ sd8 : (Nat →
 Nat), (∃ ag9 : (Nat →
 Int), (∃ hg10 : (Nat →
 Int), (((symRows false 0 x.1 so (fun x11 => 0)) = (symRows false t4 y5 so6 sd8) ∧
 ([(fun i12 => (Cs 3 (so i12) (x.1.2 i12) (sc i12))), (fun i13 => (Cb (x.1.4 i13)))] = [(fun i14 => (Cs 3 (so6 i14) (y5.2 i14) (sc7 i14))), (fun i15 => (Cb (y5.4 i15)))] ∧
 (O = O ∧
 (x.1.1 = x.1.1 ∧
 (x.1.1 = y5.1 ∧
 (A = A ∧
 (x.2 = x.2 ∧
 ([(fun i16 => (Ci (x.3 i16)))] = [(fun i17 => (Ci (ag9 i17)))] ∧
 (H = H ∧
 (x.4 = x.4 ∧
 [(fun i18 => (Ci (x.5 i18)))] = [(fun i19 => (Ci (hg10 i19)))])))))))))) ∧
 ((lenA (AD.mk y5 x.2 ag9 x.4 hg10)) ∧
 (((!(arrOk gG gB gR gC (AD.mk y5 x.2 ag9 x.4 hg10))) = false →
 (b0 = b0 ∧
 (b2 = b2 ∧
 (((!(mvOk gG gB gR gC mB mF mT mN)) = false →
 (b0 = b0 ∧
 ((rng (gC - (1 : Int))) ∧
 (((!(btw q (0 : Int) (gC - (1 : Int)))) = false →
 (((!(btw y (0 : Int) (4294967295 : Int))) = true →
 (b1 = b1 ∧
 (∃ t20 : Nat, (∃ y21 : CD, (∃ so22 : (Nat →
 (Option Addr)), (∃ sc23 : (Nat →
 Nat), (∃ sd24 : (Nat →
 Nat), (∃ ag25 : (Nat →
 Int), (∃ hg26 : (Nat →
 Int), (((symRows false 0 x.1 so (fun x27 => 0)) = (symRows false t20 y21 so22 sd24) ∧
 ([(fun i28 => (Cs 3 (so i28) (x.1.2 i28) (sc i28))), (fun i29 => (Cb (x.1.4 i29)))] = [(fun i30 => (Cs 3 (so22 i30) (y21.2 i30) (sc23 i30))), (fun i31 => (Cb (y21.4 i31)))] ∧
 (O = O ∧
 (x.1.1 = x.1.1 ∧
 (x.1.1 = y21.1 ∧
 (A = A ∧
 (x.2 = x.2 ∧
 ([(fun i32 => (Ci (x.3 i32)))] = [(fun i33 => (Ci (ag25 i33)))] ∧
 (H = H ∧
 (x.4 = x.4 ∧
 [(fun i34 => (Ci (x.5 i34)))] = [(fun i35 => (Ci (hg26 i35)))])))))))))) ∧
 ((capA (AD.mk y21 x.2 ag25 x.4 hg26)) ∧
 (∀ Oq36 : (Option Addr),
 (∀ Aq37 : (Option Addr),
 (∀ Hq38 : (Option Addr),
 (∀ Cq39 : Nat,
 (∀ Dq40 : Nat,
 (∀ Ee41 : Nat,
 (∀ soq42 : (Nat →
 (Option Addr)),
 (∀ scq43 : (Nat →
 Nat),
 (b3 = b3 ∧
 (b3 = b3 ∧
 (∃ Oq44 : (Option Addr), (∃ Aq45 : (Option Addr), (∃ Hq46 : (Option Addr), (∃ Cq47 : Nat, (∃ Dq48 : Nat, (∃ Ee49 : Nat, (∃ soq50 : (Nat →
 (Option Addr)), (∃ scq51 : (Nat →
 Nat), ((Wu [(Wa [(Ws Oq36 y21.1 Cq39), (Ws Aq37 x.2 Dq40), (Ws Hq38 x.4 Ee41)]), (Wb false)]) = (Wu [(Wa [(Ws Oq44 z.1.1 Cq47), (Ws Aq45 z.2 Dq48), (Ws Hq46 z.4 Ee49)]), (Wb b)]) ∧
 (SelS [(Hr false O 0 2 x.1.1 0 [(fun i52 => (Cs 3 (so i52) (x.1.2 i52) (sc i52))), (fun i53 => (Cb (x.1.4 i53)))]), (Hr false A 0 1 x.2 0 [(fun i54 => (Ci (x.3 i54)))]), (Hr false H 0 1 x.4 0 [(fun i55 => (Ci (x.5 i55)))]), (Ho false (symRows false 0 x.1 so (fun x56 => 0))), (Hc b0 37 [(Ci gG), (Ci gB), (Ci gR), (Ci gC)]), (Hc b1 33 [(Cs 0 O x.1.1 C), (Cs 1 A x.2 D), (Cs 2 H x.4 E)]), (Hc b2 34 [(Ci mB), (Ci mF), (Ci mT), (Ci mN)]), (Hc b3 33 [(Cs 8 Oq36 y21.1 Cq39), (Cs 9 Aq37 x.2 Dq40), (Cs 10 Hq38 x.4 Ee41)]), (Hr true Oq36 52 2 y21.1 Cq39 [(fun i57 => (Cs 11 (soq42 i57) (y21.2 i57) (scq43 i57))), (fun i58 => (Cb (y21.4 i58)))]), (Hr true Aq37 3 1 x.2 Dq40 [(fun i59 => (Ci (ag25 i59)))]), (Hr true Hq38 3 1 x.4 Ee41 [(fun i60 => (Ci (hg26 i60)))]), (Ho true (symRows true 3 y21 soq42 scq43))] [8, 9, 10, 11] [(Hr true Oq44 52 2 z.1.1 Cq47 [(fun i61 => (Cs 3 (soq50 i61) (z.1.2 i61) (scq51 i61))), (fun i62 => (Cb (z.1.4 i62)))]), (Hr true Aq45 3 1 z.2 Dq48 [(fun i63 => (Ci (z.3 i63)))]), (Hr true Hq46 3 1 z.4 Ee49 [(fun i64 => (Ci (z.5 i64)))]), (Ho true (symRows true 3 z.1 soq50 scq51))]))))))))))))))))))))))))))))))) ∧
 ((!(btw y (0 : Int) (4294967295 : Int))) = false →
 (b0 = b0 ∧
 (b1 = b1 ∧
 (b2 = b2 ∧
 (b2 = b2 ∧
 (∃ t65 : Nat, (∃ y66 : CD, (∃ so67 : (Nat →
 (Option Addr)), (∃ sc68 : (Nat →
 Nat), (∃ sd69 : (Nat →
 Nat), (∃ ag70 : (Nat →
 Int), (∃ hg71 : (Nat →
 Int), (((symRows false 0 x.1 so (fun x72 => 0)) = (symRows false t65 y66 so67 sd69) ∧
 ([(fun i73 => (Cs 3 (so i73) (x.1.2 i73) (sc i73))), (fun i74 => (Cb (x.1.4 i74)))] = [(fun i75 => (Cs 3 (so67 i75) (y66.2 i75) (sc68 i75))), (fun i76 => (Cb (y66.4 i76)))] ∧
 (O = O ∧
 (x.1.1 = x.1.1 ∧
 (x.1.1 = y66.1 ∧
 (A = A ∧
 (x.2 = x.2 ∧
 ([(fun i77 => (Ci (x.3 i77)))] = [(fun i78 => (Ci (ag70 i78)))] ∧
 (H = H ∧
 (x.4 = x.4 ∧
 [(fun i79 => (Ci (x.5 i79)))] = [(fun i80 => (Ci (hg71 i80)))])))))))))) ∧
 ((capA (AD.mk y66 x.2 ag70 x.4 hg71)) ∧
 (∀ Oq81 : (Option Addr),
 (∀ Aq82 : (Option Addr),
 (∀ Hq83 : (Option Addr),
 (∀ Cq84 : Nat,
 (∀ Dq85 : Nat,
 (∀ Ee86 : Nat,
 (∀ soq87 : (Nat →
 (Option Addr)),
 (∀ scq88 : (Nat →
 Nat),
 (∀ b89 : Nat,
 (b89 = b89 ∧
 (b2 = b2 ∧
 (((decide (q < mN)) = true →
 (b0 = b0 ∧
 (b89 = b89 ∧
 (b2 = b2 ∧
 (b2 = b2 ∧
 (∃ t90 : Nat, (∃ y91 : CD, (∃ so92 : (Nat →
 (Option Addr)), (∃ sc93 : (Nat →
 Nat), (∃ sd94 : (Nat →
 Nat), (∃ ag95 : (Nat →
 Int), (∃ hg96 : (Nat →
 Int), (((symRows true 3 ((putA gG gB gR gC mB mF q (AD.mk y66 x.2 ag70 x.4 hg71) y)).1 soq87 scq88) = (symRows true t90 y91 so92 sd94) ∧
 ([(fun i97 => (Cs 11 (soq87 i97) (((putA gG gB gR gC mB mF q (AD.mk y66 x.2 ag70 x.4 hg71) y)).1.2 i97) (scq88 i97))), (fun i98 => (Cb (((putA gG gB gR gC mB mF q (AD.mk y66 x.2 ag70 x.4 hg71) y)).1.4 i98)))] = [(fun i99 => (Cs 11 (so92 i99) (y91.2 i99) (sc93 i99))), (fun i100 => (Cb (y91.4 i100)))] ∧
 (Oq81 = Oq81 ∧
 (((putA gG gB gR gC mB mF q (AD.mk y66 x.2 ag70 x.4 hg71) y)).1.1 = ((putA gG gB gR gC mB mF q (AD.mk y66 x.2 ag70 x.4 hg71) y)).1.1 ∧
 (((putA gG gB gR gC mB mF q (AD.mk y66 x.2 ag70 x.4 hg71) y)).1.1 = y91.1 ∧
 (Aq82 = Aq82 ∧
 (((putA gG gB gR gC mB mF q (AD.mk y66 x.2 ag70 x.4 hg71) y)).2 = ((putA gG gB gR gC mB mF q (AD.mk y66 x.2 ag70 x.4 hg71) y)).2 ∧
 ([(fun i101 => (Ci (((putA gG gB gR gC mB mF q (AD.mk y66 x.2 ag70 x.4 hg71) y)).3 i101)))] = [(fun i102 => (Ci (ag95 i102)))] ∧
 (Hq83 = Hq83 ∧
 (((putA gG gB gR gC mB mF q (AD.mk y66 x.2 ag70 x.4 hg71) y)).4 = ((putA gG gB gR gC mB mF q (AD.mk y66 x.2 ag70 x.4 hg71) y)).4 ∧
 [(fun i103 => (Ci (((putA gG gB gR gC mB mF q (AD.mk y66 x.2 ag70 x.4 hg71) y)).5 i103)))] = [(fun i104 => (Ci (hg96 i104)))])))))))))) ∧
 ((capA (AD.mk y91 ((putA gG gB gR gC mB mF q (AD.mk y66 x.2 ag70 x.4 hg71) y)).2 ag95 ((putA gG gB gR gC mB mF q (AD.mk y66 x.2 ag70 x.4 hg71) y)).4 hg96)) ∧
 (∀ Oq105 : (Option Addr),
 (∀ Aq106 : (Option Addr),
 (∀ Hq107 : (Option Addr),
 (∀ Cq108 : Nat,
 (∀ Dq109 : Nat,
 (∀ Ee110 : Nat,
 (∀ soq111 : (Nat →
 (Option Addr)),
 (∀ scq112 : (Nat →
 Nat),
 (b89 = b89 ∧
 (b89 = b89 ∧
 (b3 = b3 ∧
 (b3 = b3 ∧
 (∃ Oq113 : (Option Addr), (∃ Aq114 : (Option Addr), (∃ Hq115 : (Option Addr), (∃ Cq116 : Nat, (∃ Dq117 : Nat, (∃ Ee118 : Nat, (∃ soq119 : (Nat →
 (Option Addr)), (∃ scq120 : (Nat →
 Nat), ((Wu [(Wa [(Ws Oq105 ((putA gG gB gR gC mB mT q (AD.mk y91 ((putA gG gB gR gC mB mF q (AD.mk y66 x.2 ag70 x.4 hg71) y)).2 ag95 ((putA gG gB gR gC mB mF q (AD.mk y66 x.2 ag70 x.4 hg71) y)).4 hg96) y)).1.1 Cq108), (Ws Aq106 ((putA gG gB gR gC mB mT q (AD.mk y91 ((putA gG gB gR gC mB mF q (AD.mk y66 x.2 ag70 x.4 hg71) y)).2 ag95 ((putA gG gB gR gC mB mF q (AD.mk y66 x.2 ag70 x.4 hg71) y)).4 hg96) y)).2 Dq109), (Ws Hq107 ((putA gG gB gR gC mB mT q (AD.mk y91 ((putA gG gB gR gC mB mF q (AD.mk y66 x.2 ag70 x.4 hg71) y)).2 ag95 ((putA gG gB gR gC mB mF q (AD.mk y66 x.2 ag70 x.4 hg71) y)).4 hg96) y)).4 Ee110)]), (Wb true)]) = (Wu [(Wa [(Ws Oq113 z.1.1 Cq116), (Ws Aq114 z.2 Dq117), (Ws Hq115 z.4 Ee118)]), (Wb b)]) ∧
 (SelS [(Hr false O 0 2 x.1.1 0 [(fun i121 => (Cs 3 (so i121) (x.1.2 i121) (sc i121))), (fun i122 => (Cb (x.1.4 i122)))]), (Hr false A 0 1 x.2 0 [(fun i123 => (Ci (x.3 i123)))]), (Hr false H 0 1 x.4 0 [(fun i124 => (Ci (x.5 i124)))]), (Ho false (symRows false 0 x.1 so (fun x125 => 0))), (Hc b0 37 [(Ci gG), (Ci gB), (Ci gR), (Ci gC)]), (Hc b1 33 [(Cs 0 O x.1.1 C), (Cs 1 A x.2 D), (Cs 2 H x.4 E)]), (Hc b2 34 [(Ci mB), (Ci mF), (Ci mT), (Ci mN)]), (Hc b3 33 [(Cs 13 Oq105 ((putA gG gB gR gC mB mT q (AD.mk y91 ((putA gG gB gR gC mB mF q (AD.mk y66 x.2 ag70 x.4 hg71) y)).2 ag95 ((putA gG gB gR gC mB mF q (AD.mk y66 x.2 ag70 x.4 hg71) y)).4 hg96) y)).1.1 Cq108), (Cs 14 Aq106 ((putA gG gB gR gC mB mT q (AD.mk y91 ((putA gG gB gR gC mB mF q (AD.mk y66 x.2 ag70 x.4 hg71) y)).2 ag95 ((putA gG gB gR gC mB mF q (AD.mk y66 x.2 ag70 x.4 hg71) y)).4 hg96) y)).2 Dq109), (Cs 15 Hq107 ((putA gG gB gR gC mB mT q (AD.mk y91 ((putA gG gB gR gC mB mF q (AD.mk y66 x.2 ag70 x.4 hg71) y)).2 ag95 ((putA gG gB gR gC mB mF q (AD.mk y66 x.2 ag70 x.4 hg71) y)).4 hg96) y)).4 Ee110)]), (Hr true Oq81 52 2 ((putA gG gB gR gC mB mF q (AD.mk y66 x.2 ag70 x.4 hg71) y)).1.1 Cq84 [(fun i126 => (Cs 11 (soq87 i126) (((putA gG gB gR gC mB mF q (AD.mk y66 x.2 ag70 x.4 hg71) y)).1.2 i126) (scq88 i126))), (fun i127 => (Cb (((putA gG gB gR gC mB mF q (AD.mk y66 x.2 ag70 x.4 hg71) y)).1.4 i127)))]), (Hr true Aq82 3 1 ((putA gG gB gR gC mB mF q (AD.mk y66 x.2 ag70 x.4 hg71) y)).2 Dq85 [(fun i128 => (Ci (((putA gG gB gR gC mB mF q (AD.mk y66 x.2 ag70 x.4 hg71) y)).3 i128)))]), (Hr true Hq83 3 1 ((putA gG gB gR gC mB mF q (AD.mk y66 x.2 ag70 x.4 hg71) y)).4 Ee86 [(fun i129 => (Ci (((putA gG gB gR gC mB mF q (AD.mk y66 x.2 ag70 x.4 hg71) y)).5 i129)))]), (Ho true (symRows true 3 ((putA gG gB gR gC mB mF q (AD.mk y66 x.2 ag70 x.4 hg71) y)).1 soq87 scq88)), (Hc b89 33 [(Cs 13 Oq105 ((putA gG gB gR gC mB mT q (AD.mk y91 ((putA gG gB gR gC mB mF q (AD.mk y66 x.2 ag70 x.4 hg71) y)).2 ag95 ((putA gG gB gR gC mB mF q (AD.mk y66 x.2 ag70 x.4 hg71) y)).4 hg96) y)).1.1 Cq108), (Cs 14 Aq106 ((putA gG gB gR gC mB mT q (AD.mk y91 ((putA gG gB gR gC mB mF q (AD.mk y66 x.2 ag70 x.4 hg71) y)).2 ag95 ((putA gG gB gR gC mB mF q (AD.mk y66 x.2 ag70 x.4 hg71) y)).4 hg96) y)).2 Dq109), (Cs 15 Hq107 ((putA gG gB gR gC mB mT q (AD.mk y91 ((putA gG gB gR gC mB mF q (AD.mk y66 x.2 ag70 x.4 hg71) y)).2 ag95 ((putA gG gB gR gC mB mF q (AD.mk y66 x.2 ag70 x.4 hg71) y)).4 hg96) y)).4 Ee110)]), (Hr true Oq105 52 2 ((putA gG gB gR gC mB mT q (AD.mk y91 ((putA gG gB gR gC mB mF q (AD.mk y66 x.2 ag70 x.4 hg71) y)).2 ag95 ((putA gG gB gR gC mB mF q (AD.mk y66 x.2 ag70 x.4 hg71) y)).4 hg96) y)).1.1 Cq108 [(fun i130 => (Cs 16 (soq111 i130) (((putA gG gB gR gC mB mT q (AD.mk y91 ((putA gG gB gR gC mB mF q (AD.mk y66 x.2 ag70 x.4 hg71) y)).2 ag95 ((putA gG gB gR gC mB mF q (AD.mk y66 x.2 ag70 x.4 hg71) y)).4 hg96) y)).1.2 i130) (scq112 i130))), (fun i131 => (Cb (((putA gG gB gR gC mB mT q (AD.mk y91 ((putA gG gB gR gC mB mF q (AD.mk y66 x.2 ag70 x.4 hg71) y)).2 ag95 ((putA gG gB gR gC mB mF q (AD.mk y66 x.2 ag70 x.4 hg71) y)).4 hg96) y)).1.4 i131)))]), (Hr true Aq106 3 1 ((putA gG gB gR gC mB mT q (AD.mk y91 ((putA gG gB gR gC mB mF q (AD.mk y66 x.2 ag70 x.4 hg71) y)).2 ag95 ((putA gG gB gR gC mB mF q (AD.mk y66 x.2 ag70 x.4 hg71) y)).4 hg96) y)).2 Dq109 [(fun i132 => (Ci (((putA gG gB gR gC mB mT q (AD.mk y91 ((putA gG gB gR gC mB mF q (AD.mk y66 x.2 ag70 x.4 hg71) y)).2 ag95 ((putA gG gB gR gC mB mF q (AD.mk y66 x.2 ag70 x.4 hg71) y)).4 hg96) y)).3 i132)))]), (Hr true Hq107 3 1 ((putA gG gB gR gC mB mT q (AD.mk y91 ((putA gG gB gR gC mB mF q (AD.mk y66 x.2 ag70 x.4 hg71) y)).2 ag95 ((putA gG gB gR gC mB mF q (AD.mk y66 x.2 ag70 x.4 hg71) y)).4 hg96) y)).4 Ee110 [(fun i133 => (Ci (((putA gG gB gR gC mB mT q (AD.mk y91 ((putA gG gB gR gC mB mF q (AD.mk y66 x.2 ag70 x.4 hg71) y)).2 ag95 ((putA gG gB gR gC mB mF q (AD.mk y66 x.2 ag70 x.4 hg71) y)).4 hg96) y)).5 i133)))]), (Ho true (symRows true 3 ((putA gG gB gR gC mB mT q (AD.mk y91 ((putA gG gB gR gC mB mF q (AD.mk y66 x.2 ag70 x.4 hg71) y)).2 ag95 ((putA gG gB gR gC mB mF q (AD.mk y66 x.2 ag70 x.4 hg71) y)).4 hg96) y)).1 soq111 scq112))] [13, 14, 15, 16] [(Hr true Oq113 52 2 z.1.1 Cq116 [(fun i134 => (Cs 3 (soq119 i134) (z.1.2 i134) (scq120 i134))), (fun i135 => (Cb (z.1.4 i135)))]), (Hr true Aq114 3 1 z.2 Dq117 [(fun i136 => (Ci (z.3 i136)))]), (Hr true Hq115 3 1 z.4 Ee118 [(fun i137 => (Ci (z.5 i137)))]), (Ho true (symRows true 3 z.1 soq119 scq120))])))))))))))))))))))))))))))))))))))) ∧
 ((decide (q < mN)) = false →
 (b89 = b89 ∧
 (b3 = b3 ∧
 (b3 = b3 ∧
 (∃ Oq138 : (Option Addr), (∃ Aq139 : (Option Addr), (∃ Hq140 : (Option Addr), (∃ Cq141 : Nat, (∃ Dq142 : Nat, (∃ Ee143 : Nat, (∃ soq144 : (Nat →
 (Option Addr)), (∃ scq145 : (Nat →
 Nat), ((Wu [(Wa [(Ws Oq81 ((putA gG gB gR gC mB mF q (AD.mk y66 x.2 ag70 x.4 hg71) y)).1.1 Cq84), (Ws Aq82 ((putA gG gB gR gC mB mF q (AD.mk y66 x.2 ag70 x.4 hg71) y)).2 Dq85), (Ws Hq83 ((putA gG gB gR gC mB mF q (AD.mk y66 x.2 ag70 x.4 hg71) y)).4 Ee86)]), (Wb true)]) = (Wu [(Wa [(Ws Oq138 z.1.1 Cq141), (Ws Aq139 z.2 Dq142), (Ws Hq140 z.4 Ee143)]), (Wb b)]) ∧
 (SelS [(Hr false O 0 2 x.1.1 0 [(fun i146 => (Cs 3 (so i146) (x.1.2 i146) (sc i146))), (fun i147 => (Cb (x.1.4 i147)))]), (Hr false A 0 1 x.2 0 [(fun i148 => (Ci (x.3 i148)))]), (Hr false H 0 1 x.4 0 [(fun i149 => (Ci (x.5 i149)))]), (Ho false (symRows false 0 x.1 so (fun x150 => 0))), (Hc b0 37 [(Ci gG), (Ci gB), (Ci gR), (Ci gC)]), (Hc b1 33 [(Cs 0 O x.1.1 C), (Cs 1 A x.2 D), (Cs 2 H x.4 E)]), (Hc b2 34 [(Ci mB), (Ci mF), (Ci mT), (Ci mN)]), (Hc b3 33 [(Cs 8 Oq81 ((putA gG gB gR gC mB mF q (AD.mk y66 x.2 ag70 x.4 hg71) y)).1.1 Cq84), (Cs 9 Aq82 ((putA gG gB gR gC mB mF q (AD.mk y66 x.2 ag70 x.4 hg71) y)).2 Dq85), (Cs 10 Hq83 ((putA gG gB gR gC mB mF q (AD.mk y66 x.2 ag70 x.4 hg71) y)).4 Ee86)]), (Hr true Oq81 52 2 ((putA gG gB gR gC mB mF q (AD.mk y66 x.2 ag70 x.4 hg71) y)).1.1 Cq84 [(fun i151 => (Cs 11 (soq87 i151) (((putA gG gB gR gC mB mF q (AD.mk y66 x.2 ag70 x.4 hg71) y)).1.2 i151) (scq88 i151))), (fun i152 => (Cb (((putA gG gB gR gC mB mF q (AD.mk y66 x.2 ag70 x.4 hg71) y)).1.4 i152)))]), (Hr true Aq82 3 1 ((putA gG gB gR gC mB mF q (AD.mk y66 x.2 ag70 x.4 hg71) y)).2 Dq85 [(fun i153 => (Ci (((putA gG gB gR gC mB mF q (AD.mk y66 x.2 ag70 x.4 hg71) y)).3 i153)))]), (Hr true Hq83 3 1 ((putA gG gB gR gC mB mF q (AD.mk y66 x.2 ag70 x.4 hg71) y)).4 Ee86 [(fun i154 => (Ci (((putA gG gB gR gC mB mF q (AD.mk y66 x.2 ag70 x.4 hg71) y)).5 i154)))]), (Ho true (symRows true 3 ((putA gG gB gR gC mB mF q (AD.mk y66 x.2 ag70 x.4 hg71) y)).1 soq87 scq88)), (Hc b89 33 [(Cs 8 Oq81 ((putA gG gB gR gC mB mF q (AD.mk y66 x.2 ag70 x.4 hg71) y)).1.1 Cq84), (Cs 9 Aq82 ((putA gG gB gR gC mB mF q (AD.mk y66 x.2 ag70 x.4 hg71) y)).2 Dq85), (Cs 10 Hq83 ((putA gG gB gR gC mB mF q (AD.mk y66 x.2 ag70 x.4 hg71) y)).4 Ee86)])] [8, 9, 10, 11] [(Hr true Oq138 52 2 z.1.1 Cq141 [(fun i155 => (Cs 3 (soq144 i155) (z.1.2 i155) (scq145 i155))), (fun i156 => (Cb (z.1.4 i156)))]), (Hr true Aq139 3 1 z.2 Dq142 [(fun i157 => (Ci (z.3 i157)))]), (Hr true Hq140 3 1 z.4 Ee143 [(fun i158 => (Ci (z.5 i158)))]), (Ho true (symRows true 3 z.1 soq144 scq145))])))))))))))))))))))))))))))))))))))))))))) ∧
 ((!(btw q (0 : Int) (gC - (1 : Int)))) = true →
 (b1 = b1 ∧
 (∃ t159 : Nat, (∃ y160 : CD, (∃ so161 : (Nat →
 (Option Addr)), (∃ sc162 : (Nat →
 Nat), (∃ sd163 : (Nat →
 Nat), (∃ ag164 : (Nat →
 Int), (∃ hg165 : (Nat →
 Int), (((symRows false 0 x.1 so (fun x166 => 0)) = (symRows false t159 y160 so161 sd163) ∧
 ([(fun i167 => (Cs 3 (so i167) (x.1.2 i167) (sc i167))), (fun i168 => (Cb (x.1.4 i168)))] = [(fun i169 => (Cs 3 (so161 i169) (y160.2 i169) (sc162 i169))), (fun i170 => (Cb (y160.4 i170)))] ∧
 (O = O ∧
 (x.1.1 = x.1.1 ∧
 (x.1.1 = y160.1 ∧
 (A = A ∧
 (x.2 = x.2 ∧
 ([(fun i171 => (Ci (x.3 i171)))] = [(fun i172 => (Ci (ag164 i172)))] ∧
 (H = H ∧
 (x.4 = x.4 ∧
 [(fun i173 => (Ci (x.5 i173)))] = [(fun i174 => (Ci (hg165 i174)))])))))))))) ∧
 ((capA (AD.mk y160 x.2 ag164 x.4 hg165)) ∧
 (∀ Oq175 : (Option Addr),
 (∀ Aq176 : (Option Addr),
 (∀ Hq177 : (Option Addr),
 (∀ Cq178 : Nat,
 (∀ Dq179 : Nat,
 (∀ Ee180 : Nat,
 (∀ soq181 : (Nat →
 (Option Addr)),
 (∀ scq182 : (Nat →
 Nat),
 (b3 = b3 ∧
 (b3 = b3 ∧
 (∃ Oq183 : (Option Addr), (∃ Aq184 : (Option Addr), (∃ Hq185 : (Option Addr), (∃ Cq186 : Nat, (∃ Dq187 : Nat, (∃ Ee188 : Nat, (∃ soq189 : (Nat →
 (Option Addr)), (∃ scq190 : (Nat →
 Nat), ((Wu [(Wa [(Ws Oq175 y160.1 Cq178), (Ws Aq176 x.2 Dq179), (Ws Hq177 x.4 Ee180)]), (Wb false)]) = (Wu [(Wa [(Ws Oq183 z.1.1 Cq186), (Ws Aq184 z.2 Dq187), (Ws Hq185 z.4 Ee188)]), (Wb b)]) ∧
 (SelS [(Hr false O 0 2 x.1.1 0 [(fun i191 => (Cs 3 (so i191) (x.1.2 i191) (sc i191))), (fun i192 => (Cb (x.1.4 i192)))]), (Hr false A 0 1 x.2 0 [(fun i193 => (Ci (x.3 i193)))]), (Hr false H 0 1 x.4 0 [(fun i194 => (Ci (x.5 i194)))]), (Ho false (symRows false 0 x.1 so (fun x195 => 0))), (Hc b0 37 [(Ci gG), (Ci gB), (Ci gR), (Ci gC)]), (Hc b1 33 [(Cs 0 O x.1.1 C), (Cs 1 A x.2 D), (Cs 2 H x.4 E)]), (Hc b2 34 [(Ci mB), (Ci mF), (Ci mT), (Ci mN)]), (Hc b3 33 [(Cs 8 Oq175 y160.1 Cq178), (Cs 9 Aq176 x.2 Dq179), (Cs 10 Hq177 x.4 Ee180)]), (Hr true Oq175 52 2 y160.1 Cq178 [(fun i196 => (Cs 11 (soq181 i196) (y160.2 i196) (scq182 i196))), (fun i197 => (Cb (y160.4 i197)))]), (Hr true Aq176 3 1 x.2 Dq179 [(fun i198 => (Ci (ag164 i198)))]), (Hr true Hq177 3 1 x.4 Ee180 [(fun i199 => (Ci (hg165 i199)))]), (Ho true (symRows true 3 y160 soq181 scq182))] [8, 9, 10, 11] [(Hr true Oq183 52 2 z.1.1 Cq186 [(fun i200 => (Cs 3 (soq189 i200) (z.1.2 i200) (scq190 i200))), (fun i201 => (Cb (z.1.4 i201)))]), (Hr true Aq184 3 1 z.2 Dq187 [(fun i202 => (Ci (z.3 i202)))]), (Hr true Hq185 3 1 z.4 Ee188 [(fun i203 => (Ci (z.5 i203)))]), (Ho true (symRows true 3 z.1 soq189 scq190))]))))))))))))))))))))))))))))))))))) ∧
 ((!(mvOk gG gB gR gC mB mF mT mN)) = true →
 (b1 = b1 ∧
 (∃ t204 : Nat, (∃ y205 : CD, (∃ so206 : (Nat →
 (Option Addr)), (∃ sc207 : (Nat →
 Nat), (∃ sd208 : (Nat →
 Nat), (∃ ag209 : (Nat →
 Int), (∃ hg210 : (Nat →
 Int), (((symRows false 0 x.1 so (fun x211 => 0)) = (symRows false t204 y205 so206 sd208) ∧
 ([(fun i212 => (Cs 3 (so i212) (x.1.2 i212) (sc i212))), (fun i213 => (Cb (x.1.4 i213)))] = [(fun i214 => (Cs 3 (so206 i214) (y205.2 i214) (sc207 i214))), (fun i215 => (Cb (y205.4 i215)))] ∧
 (O = O ∧
 (x.1.1 = x.1.1 ∧
 (x.1.1 = y205.1 ∧
 (A = A ∧
 (x.2 = x.2 ∧
 ([(fun i216 => (Ci (x.3 i216)))] = [(fun i217 => (Ci (ag209 i217)))] ∧
 (H = H ∧
 (x.4 = x.4 ∧
 [(fun i218 => (Ci (x.5 i218)))] = [(fun i219 => (Ci (hg210 i219)))])))))))))) ∧
 ((capA (AD.mk y205 x.2 ag209 x.4 hg210)) ∧
 (∀ Oq220 : (Option Addr),
 (∀ Aq221 : (Option Addr),
 (∀ Hq222 : (Option Addr),
 (∀ Cq223 : Nat,
 (∀ Dq224 : Nat,
 (∀ Ee225 : Nat,
 (∀ soq226 : (Nat →
 (Option Addr)),
 (∀ scq227 : (Nat →
 Nat),
 (b3 = b3 ∧
 (b3 = b3 ∧
 (∃ Oq228 : (Option Addr), (∃ Aq229 : (Option Addr), (∃ Hq230 : (Option Addr), (∃ Cq231 : Nat, (∃ Dq232 : Nat, (∃ Ee233 : Nat, (∃ soq234 : (Nat →
 (Option Addr)), (∃ scq235 : (Nat →
 Nat), ((Wu [(Wa [(Ws Oq220 y205.1 Cq223), (Ws Aq221 x.2 Dq224), (Ws Hq222 x.4 Ee225)]), (Wb false)]) = (Wu [(Wa [(Ws Oq228 z.1.1 Cq231), (Ws Aq229 z.2 Dq232), (Ws Hq230 z.4 Ee233)]), (Wb b)]) ∧
 (SelS [(Hr false O 0 2 x.1.1 0 [(fun i236 => (Cs 3 (so i236) (x.1.2 i236) (sc i236))), (fun i237 => (Cb (x.1.4 i237)))]), (Hr false A 0 1 x.2 0 [(fun i238 => (Ci (x.3 i238)))]), (Hr false H 0 1 x.4 0 [(fun i239 => (Ci (x.5 i239)))]), (Ho false (symRows false 0 x.1 so (fun x240 => 0))), (Hc b0 37 [(Ci gG), (Ci gB), (Ci gR), (Ci gC)]), (Hc b1 33 [(Cs 0 O x.1.1 C), (Cs 1 A x.2 D), (Cs 2 H x.4 E)]), (Hc b2 34 [(Ci mB), (Ci mF), (Ci mT), (Ci mN)]), (Hc b3 33 [(Cs 8 Oq220 y205.1 Cq223), (Cs 9 Aq221 x.2 Dq224), (Cs 10 Hq222 x.4 Ee225)]), (Hr true Oq220 52 2 y205.1 Cq223 [(fun i241 => (Cs 11 (soq226 i241) (y205.2 i241) (scq227 i241))), (fun i242 => (Cb (y205.4 i242)))]), (Hr true Aq221 3 1 x.2 Dq224 [(fun i243 => (Ci (ag209 i243)))]), (Hr true Hq222 3 1 x.4 Ee225 [(fun i244 => (Ci (hg210 i244)))]), (Ho true (symRows true 3 y205 soq226 scq227))] [8, 9, 10, 11] [(Hr true Oq228 52 2 z.1.1 Cq231 [(fun i245 => (Cs 3 (soq234 i245) (z.1.2 i245) (scq235 i245))), (fun i246 => (Cb (z.1.4 i246)))]), (Hr true Aq229 3 1 z.2 Dq232 [(fun i247 => (Ci (z.3 i247)))]), (Hr true Hq230 3 1 z.4 Ee233 [(fun i248 => (Ci (z.5 i248)))]), (Ho true (symRows true 3 z.1 soq234 scq235))]))))))))))))))))))))))))))))))))))) ∧
 ((!(arrOk gG gB gR gC (AD.mk y5 x.2 ag9 x.4 hg10))) = true →
 (b1 = b1 ∧
 (∃ t249 : Nat, (∃ y250 : CD, (∃ so251 : (Nat →
 (Option Addr)), (∃ sc252 : (Nat →
 Nat), (∃ sd253 : (Nat →
 Nat), (∃ ag254 : (Nat →
 Int), (∃ hg255 : (Nat →
 Int), (((symRows false 0 x.1 so (fun x256 => 0)) = (symRows false t249 y250 so251 sd253) ∧
 ([(fun i257 => (Cs 3 (so i257) (x.1.2 i257) (sc i257))), (fun i258 => (Cb (x.1.4 i258)))] = [(fun i259 => (Cs 3 (so251 i259) (y250.2 i259) (sc252 i259))), (fun i260 => (Cb (y250.4 i260)))] ∧
 (O = O ∧
 (x.1.1 = x.1.1 ∧
 (x.1.1 = y250.1 ∧
 (A = A ∧
 (x.2 = x.2 ∧
 ([(fun i261 => (Ci (x.3 i261)))] = [(fun i262 => (Ci (ag254 i262)))] ∧
 (H = H ∧
 (x.4 = x.4 ∧
 [(fun i263 => (Ci (x.5 i263)))] = [(fun i264 => (Ci (hg255 i264)))])))))))))) ∧
 ((capA (AD.mk y250 x.2 ag254 x.4 hg255)) ∧
 (∀ Oq265 : (Option Addr),
 (∀ Aq266 : (Option Addr),
 (∀ Hq267 : (Option Addr),
 (∀ Cq268 : Nat,
 (∀ Dq269 : Nat,
 (∀ Ee270 : Nat,
 (∀ soq271 : (Nat →
 (Option Addr)),
 (∀ scq272 : (Nat →
 Nat),
 (b3 = b3 ∧
 (b3 = b3 ∧
 (∃ Oq273 : (Option Addr), (∃ Aq274 : (Option Addr), (∃ Hq275 : (Option Addr), (∃ Cq276 : Nat, (∃ Dq277 : Nat, (∃ Ee278 : Nat, (∃ soq279 : (Nat →
 (Option Addr)), (∃ scq280 : (Nat →
 Nat), ((Wu [(Wa [(Ws Oq265 y250.1 Cq268), (Ws Aq266 x.2 Dq269), (Ws Hq267 x.4 Ee270)]), (Wb false)]) = (Wu [(Wa [(Ws Oq273 z.1.1 Cq276), (Ws Aq274 z.2 Dq277), (Ws Hq275 z.4 Ee278)]), (Wb b)]) ∧
 (SelS [(Hr false O 0 2 x.1.1 0 [(fun i281 => (Cs 3 (so i281) (x.1.2 i281) (sc i281))), (fun i282 => (Cb (x.1.4 i282)))]), (Hr false A 0 1 x.2 0 [(fun i283 => (Ci (x.3 i283)))]), (Hr false H 0 1 x.4 0 [(fun i284 => (Ci (x.5 i284)))]), (Ho false (symRows false 0 x.1 so (fun x285 => 0))), (Hc b0 37 [(Ci gG), (Ci gB), (Ci gR), (Ci gC)]), (Hc b1 33 [(Cs 0 O x.1.1 C), (Cs 1 A x.2 D), (Cs 2 H x.4 E)]), (Hc b2 34 [(Ci mB), (Ci mF), (Ci mT), (Ci mN)]), (Hc b3 33 [(Cs 8 Oq265 y250.1 Cq268), (Cs 9 Aq266 x.2 Dq269), (Cs 10 Hq267 x.4 Ee270)]), (Hr true Oq265 52 2 y250.1 Cq268 [(fun i286 => (Cs 11 (soq271 i286) (y250.2 i286) (scq272 i286))), (fun i287 => (Cb (y250.4 i287)))]), (Hr true Aq266 3 1 x.2 Dq269 [(fun i288 => (Ci (ag254 i288)))]), (Hr true Hq267 3 1 x.4 Ee270 [(fun i289 => (Ci (hg255 i289)))]), (Ho true (symRows true 3 y250 soq271 scq272))] [8, 9, 10, 11] [(Hr true Oq273 52 2 z.1.1 Cq276 [(fun i290 => (Cs 3 (soq279 i290) (z.1.2 i290) (scq280 i290))), (fun i291 => (Cb (z.1.4 i291)))]), (Hr true Aq274 3 1 z.2 Dq277 [(fun i292 => (Ci (z.3 i292)))]), (Hr true Hq275 3 1 z.4 Ee278 [(fun i293 => (Ci (z.5 i293)))]), (Ho true (symRows true 3 z.1 soq279 scq280))])))))))))))))))))))))))))))))))))))))))))))))))) := by kernel_rfl
theorem mptI_all (x : AD) (O A H : Option Addr) (C D E : Nat) (so : Nat → Option Addr) (sc : Nat → Nat) (gG gB gR gC : Int) (mB mF mT mN : Int) (q y : Int) (w : World) (hA : SeenA w x O A H so sc) (hcap : capA x) : Calls Try.prog 27 #[.agg #[.int .i64 gG, .int .i64 gB, .int .i64 gR, .int .i64 gC], arrV x O A H C D E, .agg #[.int .i64 mB, .int .i64 mF, .int .i64 mT, .int .i64 mN], .int .i64 q, .int .i64 y] w fun e w' => ∃ (Oq Aq Hq : Option Addr) (Cq Dq Ee : Nat) (soq : Nat → Option Addr) (scq : Nat → Nat), e = .returned (.tuple #[arrV (mpA gG gB gR gC mB mF mT mN x q y) Oq Aq Hq Cq Dq Ee, .bool (mpOk gG gB gR gC mB mF mT mN x q y)]) ∧ HS ⟨w, fun _ => False⟩ (arrO 0 (mpA gG gB gR gC mB mF mT mN x q y) Oq Aq Hq Cq Dq Ee soq scq) w' := by
  generalize hz : mpA gG gB gR gC mB mF mT mN x q y = z
  generalize hb : mpOk gG gB gR gC mB mF mT mN x q y = b
  refine fnB (tb := [(52, sArrOk), (41, sMvOk), (75, sBtw), (76, sIwI), (53, sCpA), (77, sPut)]) ⟨sArrOk_I, sMvOk_I, sBtwI_ok, sIwI_ok, sCpA_I, sPut_I, trivial⟩ Try.func27 (@Eq.mpr _ _ (mptI_T x O A H C D E so sc gG gB gR gC mB mF mT mN q y z b) ?_) (HS.seenAll (fun _ => False) _ (hA.all 0 seenC_nil)) (fun v ch' w' ⟨Oq, Aq, Hq, Cq, Dq, Ee, soq, scq, hv, hc⟩ hs => ⟨Oq, Aq, Hq, Cq, Dq, Ee, soq, scq, by rw [hv], hc.hs hs⟩)
  clear hA
  have hl := lenA_of hcap
  cases hok : arrOk gG gB gR gC x
  · have e : mpOk gG gB gR gC mB mF mT mN x q y = false := by simp [mpOk, hok]
    have e2 : mpA gG gB gR gC mB mF mT mN x q y = x := by simp [mpA, e]
    rw [e] at hb
    rw [e2] at hz
    subst hb
    subst hz
    repeat' (first
      | with_reducible exact rfl
      | exact True.intro
      | with_reducible assumption
      | exact hl
      | exact hcap
      | (intro h; exfalso; rw [hok] at h; simp at h; done)
      | exact (by refine ⟨?_, rfl⟩; repeat' (first | exact True.intro | exact symRows_push | exact rfl | refine And.intro ?_ ?_ | (intro i hi; show _ = _; with_reducible rfl) | (intro i hi; show _ = _; rfl) | (intro i hi; show _ = _; simp only [SC.den]; split <;> rfl)))
      | refine And.intro ?_ ?_
      | apply Exists.intro
      | (intro h; exfalso; simp at h; done)
      | (intro h; replace h := of_decide_eq_true h; first | (exfalso; omega) | skip)
      | (intro h; replace h := of_decide_eq_false h; first | (exfalso; omega) | skip)
      | (intro i hi; with_reducible exact rfl)
      | intro _
      | omega
      | exact rfl)
  · have hg := geo_facts (arrOk_facts hok).1
    cases hmv : mvOk gG gB gR gC mB mF mT mN
    · have e : mpOk gG gB gR gC mB mF mT mN x q y = false := by simp [mpOk, hmv]
      have e2 : mpA gG gB gR gC mB mF mT mN x q y = x := by simp [mpA, e]
      rw [e] at hb
      rw [e2] at hz
      subst hb
      subst hz
      repeat' (first
        | with_reducible exact rfl
        | exact True.intro
        | with_reducible assumption
        | exact hl
        | exact hcap
        | (intro h; exfalso; rw [hok] at h; simp at h; done)
        | (intro h; exfalso; rw [hmv] at h; simp at h; done)
        | exact (by refine ⟨?_, rfl⟩; repeat' (first | exact True.intro | exact symRows_push | exact rfl | refine And.intro ?_ ?_ | (intro i hi; show _ = _; with_reducible rfl) | (intro i hi; show _ = _; rfl) | (intro i hi; show _ = _; simp only [SC.den]; split <;> rfl)))
        | refine And.intro ?_ ?_
        | apply Exists.intro
        | (intro h; exfalso; simp at h; done)
        | (intro h; replace h := of_decide_eq_true h; first | (exfalso; omega) | skip)
        | (intro h; replace h := of_decide_eq_false h; first | (exfalso; omega) | skip)
        | (intro i hi; with_reducible exact rfl)
        | intro _
        | omega
        | exact rfl)
    · cases hq : btw q 0 (gC - 1)
      · have e : mpOk gG gB gR gC mB mF mT mN x q y = false := by simp [mpOk, hq]
        have e2 : mpA gG gB gR gC mB mF mT mN x q y = x := by simp [mpA, e]
        rw [e] at hb
        rw [e2] at hz
        subst hb
        subst hz
        repeat' (first
          | with_reducible exact rfl
          | exact True.intro
          | with_reducible assumption
          | exact hl
          | exact hcap
          | (intro h; exfalso; rw [hok] at h; simp at h; done)
          | (intro h; exfalso; rw [hmv] at h; simp at h; done)
          | (intro h; exfalso; rw [hq] at h; simp at h; done)
          | (show rng _; simp only [rng]; omega)
          | exact (by refine ⟨?_, rfl⟩; repeat' (first | exact True.intro | exact symRows_push | exact rfl | refine And.intro ?_ ?_ | (intro i hi; show _ = _; with_reducible rfl) | (intro i hi; show _ = _; rfl) | (intro i hi; show _ = _; simp only [SC.den]; split <;> rfl)))
          | refine And.intro ?_ ?_
          | apply Exists.intro
          | (intro h; exfalso; simp at h; done)
          | (intro h; replace h := of_decide_eq_true h; first | (exfalso; omega) | skip)
          | (intro h; replace h := of_decide_eq_false h; first | (exfalso; omega) | skip)
          | (intro i hi; with_reducible exact rfl)
          | intro _
          | omega
          | exact rfl)
      · cases hy : btw y 0 4294967295
        · have e : mpOk gG gB gR gC mB mF mT mN x q y = false := by simp [mpOk, hy]
          have e2 : mpA gG gB gR gC mB mF mT mN x q y = x := by simp [mpA, e]
          rw [e] at hb
          rw [e2] at hz
          subst hb
          subst hz
          repeat' (first
            | with_reducible exact rfl
            | exact True.intro
            | with_reducible assumption
            | exact hl
            | exact hcap
            | (intro h; exfalso; rw [hok] at h; simp at h; done)
            | (intro h; exfalso; rw [hmv] at h; simp at h; done)
            | (intro h; exfalso; rw [hq] at h; simp at h; done)
            | (intro h; exfalso; rw [hy] at h; simp at h; done)
            | (show rng _; simp only [rng]; omega)
            | exact (by refine ⟨?_, rfl⟩; repeat' (first | exact True.intro | exact symRows_push | exact rfl | refine And.intro ?_ ?_ | (intro i hi; show _ = _; with_reducible rfl) | (intro i hi; show _ = _; rfl) | (intro i hi; show _ = _; simp only [SC.den]; split <;> rfl)))
            | refine And.intro ?_ ?_
            | apply Exists.intro
            | (intro h; exfalso; simp at h; done)
            | (intro h; replace h := of_decide_eq_true h; first | (exfalso; omega) | skip)
            | (intro h; replace h := of_decide_eq_false h; first | (exfalso; omega) | skip)
            | (intro i hi; with_reducible exact rfl)
            | intro _
            | omega
            | exact rfl)
        · have e : mpOk gG gB gR gC mB mF mT mN x q y = true := by simp [mpOk, hok, hmv, hq, hy]
          cases hn : ilt q mN
          · have e2 : mpA gG gB gR gC mB mF mT mN x q y = putA gG gB gR gC mB mF q x y := by simp [mpA, e, hn]
            rw [e] at hb
            rw [e2] at hz
            subst hb
            subst hz
            repeat' (first
              | with_reducible exact rfl
              | exact True.intro
              | with_reducible assumption
              | exact hl
              | exact hcap
              | (intro h; exfalso; rw [hok] at h; simp at h; done)
              | (intro h; exfalso; rw [hmv] at h; simp at h; done)
              | (intro h; exfalso; rw [hq] at h; simp at h; done)
              | (intro h; exfalso; rw [hy] at h; simp at h; done)
              | (intro h; exfalso; rw [hn] at h; simp at h; done)
              | (show rng _; simp only [rng]; omega)
              | (intro h; exfalso; rw [show decide (q < mN) = false from hn] at h; cases h; done)
              | exact capA_put hcap
              | exact (by refine ⟨?_, rfl⟩; repeat' (first | exact True.intro | exact symRows_push | exact rfl | refine And.intro ?_ ?_ | (intro i hi; show _ = _; with_reducible rfl) | (intro i hi; show _ = _; rfl) | (intro i hi; show _ = _; simp only [SC.den]; split <;> rfl)))
              | refine And.intro ?_ ?_
              | apply Exists.intro
              | (intro h; exfalso; simp at h; done)
              | (intro h; replace h := of_decide_eq_true h; first | (exfalso; omega) | skip)
              | (intro h; replace h := of_decide_eq_false h; first | (exfalso; omega) | skip)
              | (intro i hi; with_reducible exact rfl)
              | intro _
              | omega
              | exact rfl)
          · have e2 : mpA gG gB gR gC mB mF mT mN x q y = putA gG gB gR gC mB mT q (putA gG gB gR gC mB mF q x y) y := by simp [mpA, e, hn]
            rw [e] at hb
            rw [e2] at hz
            subst hb
            subst hz
            repeat' (first
              | with_reducible exact rfl
              | exact True.intro
              | with_reducible assumption
              | exact hl
              | exact hcap
              | (intro h; exfalso; rw [hok] at h; simp at h; done)
              | (intro h; exfalso; rw [hmv] at h; simp at h; done)
              | (intro h; exfalso; rw [hq] at h; simp at h; done)
              | (intro h; exfalso; rw [hy] at h; simp at h; done)
              | (intro h; exfalso; rw [hn] at h; simp at h; done)
              | (show rng _; simp only [rng]; omega)
              | (intro h; exfalso; rw [show decide (q < mN) = true from hn] at h; cases h; done)
              | exact capA_put hcap
              | exact (by refine ⟨?_, rfl⟩; repeat' (first | exact True.intro | exact symRows_push | exact rfl | refine And.intro ?_ ?_ | (intro i hi; show _ = _; with_reducible rfl) | (intro i hi; show _ = _; rfl) | (intro i hi; show _ = _; simp only [SC.den]; split <;> rfl)))
              | refine And.intro ?_ ?_
              | apply Exists.intro
              | (intro h; exfalso; simp at h; done)
              | (intro h; replace h := of_decide_eq_true h; first | (exfalso; omega) | skip)
              | (intro h; replace h := of_decide_eq_false h; first | (exfalso; omega) | skip)
              | (intro i hi; with_reducible exact rfl)
              | intro _
              | omega
              | exact rfl)
theorem mptS_T (x : AD) (O A H : Option Addr) (C D E : Nat) (so : Nat → Option Addr) (sc : Nat → Nat) (gG gB gR gC : Int) (mB mF mT mN : Int) (q y : Int) (z : AD) (b : Bool) : (exFn Try.prog {tb := [(46, sArrOk), (47, sMvOk), (63, sBtw), (74, sIwS), (45, sCpA), (33, sPut)]} 400 Try.f26 ([.a (.agg [.int gG, .int gB, .int gR, .int gC]), .a (arrS 0 x O A H C D E), .a (.agg [.int mB, .int mF, .int mT, .int mN]), .a (.c (.int q)), .a (.c (.int y))]) (arrR 0 x O A H so sc) (fun v ch => ∃ (Oq Aq Hq : Option Addr) (Cq Dq Ee : Nat) (soq : Nat → Option Addr) (scq : Nat → Nat), v.den = .tuple #[arrV z Oq Aq Hq Cq Dq Ee, .bool b] ∧ SelS ch (idsArr v ch) (arrO 0 z Oq Aq Hq Cq Dq Ee soq scq))) = (
  (∀ b0 : Nat,
 (∀ b1 : Nat,
 (∀ b2 : Nat,
 (∀ b3 : Nat,
 (b0 = b0 ∧
 (b1 = b1 ∧
 (∃ t4 : Nat, (∃ y5 : CD, (∃ so6 : (Nat →
 (Option Addr)), (∃ sc7 : (Nat →
 Nat), (∃ sd8 : (Nat →
 Nat), (∃ ag9 : (Nat →
 Int), (∃ hg10 : (Nat →
 Int), (((symRows false 0 x.1 so (fun x11 => 0)) = (symRows false t4 y5 so6 sd8) ∧
 ([(fun i12 => (Cs 3 (so i12) (x.1.2 i12) (sc i12))), (fun i13 => (Cb (x.1.4 i13)))] = [(fun i14 => (Cs 3 (so6 i14) (y5.2 i14) (sc7 i14))), (fun i15 => (Cb (y5.4 i15)))] ∧
 (O = O ∧
 (x.1.1 = x.1.1 ∧
 (x.1.1 = y5.1 ∧
 (A = A ∧
 (x.2 = x.2 ∧
 ([(fun i16 => (Ci (x.3 i16)))] = [(fun i17 => (Ci (ag9 i17)))] ∧
 (H = H ∧
 (x.4 = x.4 ∧
 [(fun i18 => (Ci (x.5 i18)))] = [(fun i19 => (Ci (hg10 i19)))])))))))))) ∧
 ((lenA (AD.mk y5 x.2 ag9 x.4 hg10)) ∧
 (((!(arrOk gG gB gR gC (AD.mk y5 x.2 ag9 x.4 hg10))) = false →
 (b0 = b0 ∧
 (b2 = b2 ∧
 (((!(mvOk gG gB gR gC mB mF mT mN)) = false →
 (b0 = b0 ∧
 ((rng (gC - (1 : Int))) ∧
 (((!(btw q (0 : Int) (gC - (1 : Int)))) = false →
 (((!(btw y (0 : Int) (4294967295 : Int))) = true →
 (b1 = b1 ∧
 (∃ t20 : Nat, (∃ y21 : CD, (∃ so22 : (Nat →
 (Option Addr)), (∃ sc23 : (Nat →
 Nat), (∃ sd24 : (Nat →
 Nat), (∃ ag25 : (Nat →
 Int), (∃ hg26 : (Nat →
 Int), (((symRows false 0 x.1 so (fun x27 => 0)) = (symRows false t20 y21 so22 sd24) ∧
 ([(fun i28 => (Cs 3 (so i28) (x.1.2 i28) (sc i28))), (fun i29 => (Cb (x.1.4 i29)))] = [(fun i30 => (Cs 3 (so22 i30) (y21.2 i30) (sc23 i30))), (fun i31 => (Cb (y21.4 i31)))] ∧
 (O = O ∧
 (x.1.1 = x.1.1 ∧
 (x.1.1 = y21.1 ∧
 (A = A ∧
 (x.2 = x.2 ∧
 ([(fun i32 => (Ci (x.3 i32)))] = [(fun i33 => (Ci (ag25 i33)))] ∧
 (H = H ∧
 (x.4 = x.4 ∧
 [(fun i34 => (Ci (x.5 i34)))] = [(fun i35 => (Ci (hg26 i35)))])))))))))) ∧
 ((capA (AD.mk y21 x.2 ag25 x.4 hg26)) ∧
 (∀ Oq36 : (Option Addr),
 (∀ Aq37 : (Option Addr),
 (∀ Hq38 : (Option Addr),
 (∀ Cq39 : Nat,
 (∀ Dq40 : Nat,
 (∀ Ee41 : Nat,
 (∀ soq42 : (Nat →
 (Option Addr)),
 (∀ scq43 : (Nat →
 Nat),
 (b3 = b3 ∧
 (b3 = b3 ∧
 (∃ Oq44 : (Option Addr), (∃ Aq45 : (Option Addr), (∃ Hq46 : (Option Addr), (∃ Cq47 : Nat, (∃ Dq48 : Nat, (∃ Ee49 : Nat, (∃ soq50 : (Nat →
 (Option Addr)), (∃ scq51 : (Nat →
 Nat), ((Wu [(Wa [(Ws Oq36 y21.1 Cq39), (Ws Aq37 x.2 Dq40), (Ws Hq38 x.4 Ee41)]), (Wb false)]) = (Wu [(Wa [(Ws Oq44 z.1.1 Cq47), (Ws Aq45 z.2 Dq48), (Ws Hq46 z.4 Ee49)]), (Wb b)]) ∧
 (SelS [(Hr false O 0 2 x.1.1 0 [(fun i52 => (Cs 3 (so i52) (x.1.2 i52) (sc i52))), (fun i53 => (Cb (x.1.4 i53)))]), (Hr false A 0 1 x.2 0 [(fun i54 => (Ci (x.3 i54)))]), (Hr false H 0 1 x.4 0 [(fun i55 => (Ci (x.5 i55)))]), (Ho false (symRows false 0 x.1 so (fun x56 => 0))), (Hc b0 37 [(Ci gG), (Ci gB), (Ci gR), (Ci gC)]), (Hc b1 33 [(Cs 0 O x.1.1 C), (Cs 1 A x.2 D), (Cs 2 H x.4 E)]), (Hc b2 34 [(Ci mB), (Ci mF), (Ci mT), (Ci mN)]), (Hc b3 33 [(Cs 8 Oq36 y21.1 Cq39), (Cs 9 Aq37 x.2 Dq40), (Cs 10 Hq38 x.4 Ee41)]), (Hr true Oq36 52 2 y21.1 Cq39 [(fun i57 => (Cs 11 (soq42 i57) (y21.2 i57) (scq43 i57))), (fun i58 => (Cb (y21.4 i58)))]), (Hr true Aq37 3 1 x.2 Dq40 [(fun i59 => (Ci (ag25 i59)))]), (Hr true Hq38 3 1 x.4 Ee41 [(fun i60 => (Ci (hg26 i60)))]), (Ho true (symRows true 3 y21 soq42 scq43))] [8, 9, 10, 11] [(Hr true Oq44 52 2 z.1.1 Cq47 [(fun i61 => (Cs 3 (soq50 i61) (z.1.2 i61) (scq51 i61))), (fun i62 => (Cb (z.1.4 i62)))]), (Hr true Aq45 3 1 z.2 Dq48 [(fun i63 => (Ci (z.3 i63)))]), (Hr true Hq46 3 1 z.4 Ee49 [(fun i64 => (Ci (z.5 i64)))]), (Ho true (symRows true 3 z.1 soq50 scq51))]))))))))))))))))))))))))))))))) ∧
 ((!(btw y (0 : Int) (4294967295 : Int))) = false →
 (b0 = b0 ∧
 (b1 = b1 ∧
 (b2 = b2 ∧
 (b2 = b2 ∧
 (∃ t65 : Nat, (∃ y66 : CD, (∃ so67 : (Nat →
 (Option Addr)), (∃ sc68 : (Nat →
 Nat), (∃ sd69 : (Nat →
 Nat), (∃ ag70 : (Nat →
 Int), (∃ hg71 : (Nat →
 Int), (((symRows false 0 x.1 so (fun x72 => 0)) = (symRows false t65 y66 so67 sd69) ∧
 ([(fun i73 => (Cs 3 (so i73) (x.1.2 i73) (sc i73))), (fun i74 => (Cb (x.1.4 i74)))] = [(fun i75 => (Cs 3 (so67 i75) (y66.2 i75) (sc68 i75))), (fun i76 => (Cb (y66.4 i76)))] ∧
 (O = O ∧
 (x.1.1 = x.1.1 ∧
 (x.1.1 = y66.1 ∧
 (A = A ∧
 (x.2 = x.2 ∧
 ([(fun i77 => (Ci (x.3 i77)))] = [(fun i78 => (Ci (ag70 i78)))] ∧
 (H = H ∧
 (x.4 = x.4 ∧
 [(fun i79 => (Ci (x.5 i79)))] = [(fun i80 => (Ci (hg71 i80)))])))))))))) ∧
 ((capA (AD.mk y66 x.2 ag70 x.4 hg71)) ∧
 (∀ Oq81 : (Option Addr),
 (∀ Aq82 : (Option Addr),
 (∀ Hq83 : (Option Addr),
 (∀ Cq84 : Nat,
 (∀ Dq85 : Nat,
 (∀ Ee86 : Nat,
 (∀ soq87 : (Nat →
 (Option Addr)),
 (∀ scq88 : (Nat →
 Nat),
 (∀ b89 : Nat,
 (b89 = b89 ∧
 (b2 = b2 ∧
 (((decide (q < mN)) = true →
 (b0 = b0 ∧
 (b89 = b89 ∧
 (b2 = b2 ∧
 (b2 = b2 ∧
 (∃ t90 : Nat, (∃ y91 : CD, (∃ so92 : (Nat →
 (Option Addr)), (∃ sc93 : (Nat →
 Nat), (∃ sd94 : (Nat →
 Nat), (∃ ag95 : (Nat →
 Int), (∃ hg96 : (Nat →
 Int), (((symRows true 3 ((putA gG gB gR gC mB mF q (AD.mk y66 x.2 ag70 x.4 hg71) y)).1 soq87 scq88) = (symRows true t90 y91 so92 sd94) ∧
 ([(fun i97 => (Cs 11 (soq87 i97) (((putA gG gB gR gC mB mF q (AD.mk y66 x.2 ag70 x.4 hg71) y)).1.2 i97) (scq88 i97))), (fun i98 => (Cb (((putA gG gB gR gC mB mF q (AD.mk y66 x.2 ag70 x.4 hg71) y)).1.4 i98)))] = [(fun i99 => (Cs 11 (so92 i99) (y91.2 i99) (sc93 i99))), (fun i100 => (Cb (y91.4 i100)))] ∧
 (Oq81 = Oq81 ∧
 (((putA gG gB gR gC mB mF q (AD.mk y66 x.2 ag70 x.4 hg71) y)).1.1 = ((putA gG gB gR gC mB mF q (AD.mk y66 x.2 ag70 x.4 hg71) y)).1.1 ∧
 (((putA gG gB gR gC mB mF q (AD.mk y66 x.2 ag70 x.4 hg71) y)).1.1 = y91.1 ∧
 (Aq82 = Aq82 ∧
 (((putA gG gB gR gC mB mF q (AD.mk y66 x.2 ag70 x.4 hg71) y)).2 = ((putA gG gB gR gC mB mF q (AD.mk y66 x.2 ag70 x.4 hg71) y)).2 ∧
 ([(fun i101 => (Ci (((putA gG gB gR gC mB mF q (AD.mk y66 x.2 ag70 x.4 hg71) y)).3 i101)))] = [(fun i102 => (Ci (ag95 i102)))] ∧
 (Hq83 = Hq83 ∧
 (((putA gG gB gR gC mB mF q (AD.mk y66 x.2 ag70 x.4 hg71) y)).4 = ((putA gG gB gR gC mB mF q (AD.mk y66 x.2 ag70 x.4 hg71) y)).4 ∧
 [(fun i103 => (Ci (((putA gG gB gR gC mB mF q (AD.mk y66 x.2 ag70 x.4 hg71) y)).5 i103)))] = [(fun i104 => (Ci (hg96 i104)))])))))))))) ∧
 ((capA (AD.mk y91 ((putA gG gB gR gC mB mF q (AD.mk y66 x.2 ag70 x.4 hg71) y)).2 ag95 ((putA gG gB gR gC mB mF q (AD.mk y66 x.2 ag70 x.4 hg71) y)).4 hg96)) ∧
 (∀ Oq105 : (Option Addr),
 (∀ Aq106 : (Option Addr),
 (∀ Hq107 : (Option Addr),
 (∀ Cq108 : Nat,
 (∀ Dq109 : Nat,
 (∀ Ee110 : Nat,
 (∀ soq111 : (Nat →
 (Option Addr)),
 (∀ scq112 : (Nat →
 Nat),
 (b89 = b89 ∧
 (b89 = b89 ∧
 (b3 = b3 ∧
 (b3 = b3 ∧
 (∃ Oq113 : (Option Addr), (∃ Aq114 : (Option Addr), (∃ Hq115 : (Option Addr), (∃ Cq116 : Nat, (∃ Dq117 : Nat, (∃ Ee118 : Nat, (∃ soq119 : (Nat →
 (Option Addr)), (∃ scq120 : (Nat →
 Nat), ((Wu [(Wa [(Ws Oq105 ((putA gG gB gR gC mB mT q (AD.mk y91 ((putA gG gB gR gC mB mF q (AD.mk y66 x.2 ag70 x.4 hg71) y)).2 ag95 ((putA gG gB gR gC mB mF q (AD.mk y66 x.2 ag70 x.4 hg71) y)).4 hg96) y)).1.1 Cq108), (Ws Aq106 ((putA gG gB gR gC mB mT q (AD.mk y91 ((putA gG gB gR gC mB mF q (AD.mk y66 x.2 ag70 x.4 hg71) y)).2 ag95 ((putA gG gB gR gC mB mF q (AD.mk y66 x.2 ag70 x.4 hg71) y)).4 hg96) y)).2 Dq109), (Ws Hq107 ((putA gG gB gR gC mB mT q (AD.mk y91 ((putA gG gB gR gC mB mF q (AD.mk y66 x.2 ag70 x.4 hg71) y)).2 ag95 ((putA gG gB gR gC mB mF q (AD.mk y66 x.2 ag70 x.4 hg71) y)).4 hg96) y)).4 Ee110)]), (Wb true)]) = (Wu [(Wa [(Ws Oq113 z.1.1 Cq116), (Ws Aq114 z.2 Dq117), (Ws Hq115 z.4 Ee118)]), (Wb b)]) ∧
 (SelS [(Hr false O 0 2 x.1.1 0 [(fun i121 => (Cs 3 (so i121) (x.1.2 i121) (sc i121))), (fun i122 => (Cb (x.1.4 i122)))]), (Hr false A 0 1 x.2 0 [(fun i123 => (Ci (x.3 i123)))]), (Hr false H 0 1 x.4 0 [(fun i124 => (Ci (x.5 i124)))]), (Ho false (symRows false 0 x.1 so (fun x125 => 0))), (Hc b0 37 [(Ci gG), (Ci gB), (Ci gR), (Ci gC)]), (Hc b1 33 [(Cs 0 O x.1.1 C), (Cs 1 A x.2 D), (Cs 2 H x.4 E)]), (Hc b2 34 [(Ci mB), (Ci mF), (Ci mT), (Ci mN)]), (Hc b3 33 [(Cs 13 Oq105 ((putA gG gB gR gC mB mT q (AD.mk y91 ((putA gG gB gR gC mB mF q (AD.mk y66 x.2 ag70 x.4 hg71) y)).2 ag95 ((putA gG gB gR gC mB mF q (AD.mk y66 x.2 ag70 x.4 hg71) y)).4 hg96) y)).1.1 Cq108), (Cs 14 Aq106 ((putA gG gB gR gC mB mT q (AD.mk y91 ((putA gG gB gR gC mB mF q (AD.mk y66 x.2 ag70 x.4 hg71) y)).2 ag95 ((putA gG gB gR gC mB mF q (AD.mk y66 x.2 ag70 x.4 hg71) y)).4 hg96) y)).2 Dq109), (Cs 15 Hq107 ((putA gG gB gR gC mB mT q (AD.mk y91 ((putA gG gB gR gC mB mF q (AD.mk y66 x.2 ag70 x.4 hg71) y)).2 ag95 ((putA gG gB gR gC mB mF q (AD.mk y66 x.2 ag70 x.4 hg71) y)).4 hg96) y)).4 Ee110)]), (Hr true Oq81 52 2 ((putA gG gB gR gC mB mF q (AD.mk y66 x.2 ag70 x.4 hg71) y)).1.1 Cq84 [(fun i126 => (Cs 11 (soq87 i126) (((putA gG gB gR gC mB mF q (AD.mk y66 x.2 ag70 x.4 hg71) y)).1.2 i126) (scq88 i126))), (fun i127 => (Cb (((putA gG gB gR gC mB mF q (AD.mk y66 x.2 ag70 x.4 hg71) y)).1.4 i127)))]), (Hr true Aq82 3 1 ((putA gG gB gR gC mB mF q (AD.mk y66 x.2 ag70 x.4 hg71) y)).2 Dq85 [(fun i128 => (Ci (((putA gG gB gR gC mB mF q (AD.mk y66 x.2 ag70 x.4 hg71) y)).3 i128)))]), (Hr true Hq83 3 1 ((putA gG gB gR gC mB mF q (AD.mk y66 x.2 ag70 x.4 hg71) y)).4 Ee86 [(fun i129 => (Ci (((putA gG gB gR gC mB mF q (AD.mk y66 x.2 ag70 x.4 hg71) y)).5 i129)))]), (Ho true (symRows true 3 ((putA gG gB gR gC mB mF q (AD.mk y66 x.2 ag70 x.4 hg71) y)).1 soq87 scq88)), (Hc b89 33 [(Cs 13 Oq105 ((putA gG gB gR gC mB mT q (AD.mk y91 ((putA gG gB gR gC mB mF q (AD.mk y66 x.2 ag70 x.4 hg71) y)).2 ag95 ((putA gG gB gR gC mB mF q (AD.mk y66 x.2 ag70 x.4 hg71) y)).4 hg96) y)).1.1 Cq108), (Cs 14 Aq106 ((putA gG gB gR gC mB mT q (AD.mk y91 ((putA gG gB gR gC mB mF q (AD.mk y66 x.2 ag70 x.4 hg71) y)).2 ag95 ((putA gG gB gR gC mB mF q (AD.mk y66 x.2 ag70 x.4 hg71) y)).4 hg96) y)).2 Dq109), (Cs 15 Hq107 ((putA gG gB gR gC mB mT q (AD.mk y91 ((putA gG gB gR gC mB mF q (AD.mk y66 x.2 ag70 x.4 hg71) y)).2 ag95 ((putA gG gB gR gC mB mF q (AD.mk y66 x.2 ag70 x.4 hg71) y)).4 hg96) y)).4 Ee110)]), (Hr true Oq105 52 2 ((putA gG gB gR gC mB mT q (AD.mk y91 ((putA gG gB gR gC mB mF q (AD.mk y66 x.2 ag70 x.4 hg71) y)).2 ag95 ((putA gG gB gR gC mB mF q (AD.mk y66 x.2 ag70 x.4 hg71) y)).4 hg96) y)).1.1 Cq108 [(fun i130 => (Cs 16 (soq111 i130) (((putA gG gB gR gC mB mT q (AD.mk y91 ((putA gG gB gR gC mB mF q (AD.mk y66 x.2 ag70 x.4 hg71) y)).2 ag95 ((putA gG gB gR gC mB mF q (AD.mk y66 x.2 ag70 x.4 hg71) y)).4 hg96) y)).1.2 i130) (scq112 i130))), (fun i131 => (Cb (((putA gG gB gR gC mB mT q (AD.mk y91 ((putA gG gB gR gC mB mF q (AD.mk y66 x.2 ag70 x.4 hg71) y)).2 ag95 ((putA gG gB gR gC mB mF q (AD.mk y66 x.2 ag70 x.4 hg71) y)).4 hg96) y)).1.4 i131)))]), (Hr true Aq106 3 1 ((putA gG gB gR gC mB mT q (AD.mk y91 ((putA gG gB gR gC mB mF q (AD.mk y66 x.2 ag70 x.4 hg71) y)).2 ag95 ((putA gG gB gR gC mB mF q (AD.mk y66 x.2 ag70 x.4 hg71) y)).4 hg96) y)).2 Dq109 [(fun i132 => (Ci (((putA gG gB gR gC mB mT q (AD.mk y91 ((putA gG gB gR gC mB mF q (AD.mk y66 x.2 ag70 x.4 hg71) y)).2 ag95 ((putA gG gB gR gC mB mF q (AD.mk y66 x.2 ag70 x.4 hg71) y)).4 hg96) y)).3 i132)))]), (Hr true Hq107 3 1 ((putA gG gB gR gC mB mT q (AD.mk y91 ((putA gG gB gR gC mB mF q (AD.mk y66 x.2 ag70 x.4 hg71) y)).2 ag95 ((putA gG gB gR gC mB mF q (AD.mk y66 x.2 ag70 x.4 hg71) y)).4 hg96) y)).4 Ee110 [(fun i133 => (Ci (((putA gG gB gR gC mB mT q (AD.mk y91 ((putA gG gB gR gC mB mF q (AD.mk y66 x.2 ag70 x.4 hg71) y)).2 ag95 ((putA gG gB gR gC mB mF q (AD.mk y66 x.2 ag70 x.4 hg71) y)).4 hg96) y)).5 i133)))]), (Ho true (symRows true 3 ((putA gG gB gR gC mB mT q (AD.mk y91 ((putA gG gB gR gC mB mF q (AD.mk y66 x.2 ag70 x.4 hg71) y)).2 ag95 ((putA gG gB gR gC mB mF q (AD.mk y66 x.2 ag70 x.4 hg71) y)).4 hg96) y)).1 soq111 scq112))] [13, 14, 15, 16] [(Hr true Oq113 52 2 z.1.1 Cq116 [(fun i134 => (Cs 3 (soq119 i134) (z.1.2 i134) (scq120 i134))), (fun i135 => (Cb (z.1.4 i135)))]), (Hr true Aq114 3 1 z.2 Dq117 [(fun i136 => (Ci (z.3 i136)))]), (Hr true Hq115 3 1 z.4 Ee118 [(fun i137 => (Ci (z.5 i137)))]), (Ho true (symRows true 3 z.1 soq119 scq120))])))))))))))))))))))))))))))))))))))) ∧
 ((decide (q < mN)) = false →
 (b89 = b89 ∧
 (b3 = b3 ∧
 (b3 = b3 ∧
 (∃ Oq138 : (Option Addr), (∃ Aq139 : (Option Addr), (∃ Hq140 : (Option Addr), (∃ Cq141 : Nat, (∃ Dq142 : Nat, (∃ Ee143 : Nat, (∃ soq144 : (Nat →
 (Option Addr)), (∃ scq145 : (Nat →
 Nat), ((Wu [(Wa [(Ws Oq81 ((putA gG gB gR gC mB mF q (AD.mk y66 x.2 ag70 x.4 hg71) y)).1.1 Cq84), (Ws Aq82 ((putA gG gB gR gC mB mF q (AD.mk y66 x.2 ag70 x.4 hg71) y)).2 Dq85), (Ws Hq83 ((putA gG gB gR gC mB mF q (AD.mk y66 x.2 ag70 x.4 hg71) y)).4 Ee86)]), (Wb true)]) = (Wu [(Wa [(Ws Oq138 z.1.1 Cq141), (Ws Aq139 z.2 Dq142), (Ws Hq140 z.4 Ee143)]), (Wb b)]) ∧
 (SelS [(Hr false O 0 2 x.1.1 0 [(fun i146 => (Cs 3 (so i146) (x.1.2 i146) (sc i146))), (fun i147 => (Cb (x.1.4 i147)))]), (Hr false A 0 1 x.2 0 [(fun i148 => (Ci (x.3 i148)))]), (Hr false H 0 1 x.4 0 [(fun i149 => (Ci (x.5 i149)))]), (Ho false (symRows false 0 x.1 so (fun x150 => 0))), (Hc b0 37 [(Ci gG), (Ci gB), (Ci gR), (Ci gC)]), (Hc b1 33 [(Cs 0 O x.1.1 C), (Cs 1 A x.2 D), (Cs 2 H x.4 E)]), (Hc b2 34 [(Ci mB), (Ci mF), (Ci mT), (Ci mN)]), (Hc b3 33 [(Cs 8 Oq81 ((putA gG gB gR gC mB mF q (AD.mk y66 x.2 ag70 x.4 hg71) y)).1.1 Cq84), (Cs 9 Aq82 ((putA gG gB gR gC mB mF q (AD.mk y66 x.2 ag70 x.4 hg71) y)).2 Dq85), (Cs 10 Hq83 ((putA gG gB gR gC mB mF q (AD.mk y66 x.2 ag70 x.4 hg71) y)).4 Ee86)]), (Hr true Oq81 52 2 ((putA gG gB gR gC mB mF q (AD.mk y66 x.2 ag70 x.4 hg71) y)).1.1 Cq84 [(fun i151 => (Cs 11 (soq87 i151) (((putA gG gB gR gC mB mF q (AD.mk y66 x.2 ag70 x.4 hg71) y)).1.2 i151) (scq88 i151))), (fun i152 => (Cb (((putA gG gB gR gC mB mF q (AD.mk y66 x.2 ag70 x.4 hg71) y)).1.4 i152)))]), (Hr true Aq82 3 1 ((putA gG gB gR gC mB mF q (AD.mk y66 x.2 ag70 x.4 hg71) y)).2 Dq85 [(fun i153 => (Ci (((putA gG gB gR gC mB mF q (AD.mk y66 x.2 ag70 x.4 hg71) y)).3 i153)))]), (Hr true Hq83 3 1 ((putA gG gB gR gC mB mF q (AD.mk y66 x.2 ag70 x.4 hg71) y)).4 Ee86 [(fun i154 => (Ci (((putA gG gB gR gC mB mF q (AD.mk y66 x.2 ag70 x.4 hg71) y)).5 i154)))]), (Ho true (symRows true 3 ((putA gG gB gR gC mB mF q (AD.mk y66 x.2 ag70 x.4 hg71) y)).1 soq87 scq88)), (Hc b89 33 [(Cs 8 Oq81 ((putA gG gB gR gC mB mF q (AD.mk y66 x.2 ag70 x.4 hg71) y)).1.1 Cq84), (Cs 9 Aq82 ((putA gG gB gR gC mB mF q (AD.mk y66 x.2 ag70 x.4 hg71) y)).2 Dq85), (Cs 10 Hq83 ((putA gG gB gR gC mB mF q (AD.mk y66 x.2 ag70 x.4 hg71) y)).4 Ee86)])] [8, 9, 10, 11] [(Hr true Oq138 52 2 z.1.1 Cq141 [(fun i155 => (Cs 3 (soq144 i155) (z.1.2 i155) (scq145 i155))), (fun i156 => (Cb (z.1.4 i156)))]), (Hr true Aq139 3 1 z.2 Dq142 [(fun i157 => (Ci (z.3 i157)))]), (Hr true Hq140 3 1 z.4 Ee143 [(fun i158 => (Ci (z.5 i158)))]), (Ho true (symRows true 3 z.1 soq144 scq145))])))))))))))))))))))))))))))))))))))))))))) ∧
 ((!(btw q (0 : Int) (gC - (1 : Int)))) = true →
 (b1 = b1 ∧
 (∃ t159 : Nat, (∃ y160 : CD, (∃ so161 : (Nat →
 (Option Addr)), (∃ sc162 : (Nat →
 Nat), (∃ sd163 : (Nat →
 Nat), (∃ ag164 : (Nat →
 Int), (∃ hg165 : (Nat →
 Int), (((symRows false 0 x.1 so (fun x166 => 0)) = (symRows false t159 y160 so161 sd163) ∧
 ([(fun i167 => (Cs 3 (so i167) (x.1.2 i167) (sc i167))), (fun i168 => (Cb (x.1.4 i168)))] = [(fun i169 => (Cs 3 (so161 i169) (y160.2 i169) (sc162 i169))), (fun i170 => (Cb (y160.4 i170)))] ∧
 (O = O ∧
 (x.1.1 = x.1.1 ∧
 (x.1.1 = y160.1 ∧
 (A = A ∧
 (x.2 = x.2 ∧
 ([(fun i171 => (Ci (x.3 i171)))] = [(fun i172 => (Ci (ag164 i172)))] ∧
 (H = H ∧
 (x.4 = x.4 ∧
 [(fun i173 => (Ci (x.5 i173)))] = [(fun i174 => (Ci (hg165 i174)))])))))))))) ∧
 ((capA (AD.mk y160 x.2 ag164 x.4 hg165)) ∧
 (∀ Oq175 : (Option Addr),
 (∀ Aq176 : (Option Addr),
 (∀ Hq177 : (Option Addr),
 (∀ Cq178 : Nat,
 (∀ Dq179 : Nat,
 (∀ Ee180 : Nat,
 (∀ soq181 : (Nat →
 (Option Addr)),
 (∀ scq182 : (Nat →
 Nat),
 (b3 = b3 ∧
 (b3 = b3 ∧
 (∃ Oq183 : (Option Addr), (∃ Aq184 : (Option Addr), (∃ Hq185 : (Option Addr), (∃ Cq186 : Nat, (∃ Dq187 : Nat, (∃ Ee188 : Nat, (∃ soq189 : (Nat →
 (Option Addr)), (∃ scq190 : (Nat →
 Nat), ((Wu [(Wa [(Ws Oq175 y160.1 Cq178), (Ws Aq176 x.2 Dq179), (Ws Hq177 x.4 Ee180)]), (Wb false)]) = (Wu [(Wa [(Ws Oq183 z.1.1 Cq186), (Ws Aq184 z.2 Dq187), (Ws Hq185 z.4 Ee188)]), (Wb b)]) ∧
 (SelS [(Hr false O 0 2 x.1.1 0 [(fun i191 => (Cs 3 (so i191) (x.1.2 i191) (sc i191))), (fun i192 => (Cb (x.1.4 i192)))]), (Hr false A 0 1 x.2 0 [(fun i193 => (Ci (x.3 i193)))]), (Hr false H 0 1 x.4 0 [(fun i194 => (Ci (x.5 i194)))]), (Ho false (symRows false 0 x.1 so (fun x195 => 0))), (Hc b0 37 [(Ci gG), (Ci gB), (Ci gR), (Ci gC)]), (Hc b1 33 [(Cs 0 O x.1.1 C), (Cs 1 A x.2 D), (Cs 2 H x.4 E)]), (Hc b2 34 [(Ci mB), (Ci mF), (Ci mT), (Ci mN)]), (Hc b3 33 [(Cs 8 Oq175 y160.1 Cq178), (Cs 9 Aq176 x.2 Dq179), (Cs 10 Hq177 x.4 Ee180)]), (Hr true Oq175 52 2 y160.1 Cq178 [(fun i196 => (Cs 11 (soq181 i196) (y160.2 i196) (scq182 i196))), (fun i197 => (Cb (y160.4 i197)))]), (Hr true Aq176 3 1 x.2 Dq179 [(fun i198 => (Ci (ag164 i198)))]), (Hr true Hq177 3 1 x.4 Ee180 [(fun i199 => (Ci (hg165 i199)))]), (Ho true (symRows true 3 y160 soq181 scq182))] [8, 9, 10, 11] [(Hr true Oq183 52 2 z.1.1 Cq186 [(fun i200 => (Cs 3 (soq189 i200) (z.1.2 i200) (scq190 i200))), (fun i201 => (Cb (z.1.4 i201)))]), (Hr true Aq184 3 1 z.2 Dq187 [(fun i202 => (Ci (z.3 i202)))]), (Hr true Hq185 3 1 z.4 Ee188 [(fun i203 => (Ci (z.5 i203)))]), (Ho true (symRows true 3 z.1 soq189 scq190))]))))))))))))))))))))))))))))))))))) ∧
 ((!(mvOk gG gB gR gC mB mF mT mN)) = true →
 (b1 = b1 ∧
 (∃ t204 : Nat, (∃ y205 : CD, (∃ so206 : (Nat →
 (Option Addr)), (∃ sc207 : (Nat →
 Nat), (∃ sd208 : (Nat →
 Nat), (∃ ag209 : (Nat →
 Int), (∃ hg210 : (Nat →
 Int), (((symRows false 0 x.1 so (fun x211 => 0)) = (symRows false t204 y205 so206 sd208) ∧
 ([(fun i212 => (Cs 3 (so i212) (x.1.2 i212) (sc i212))), (fun i213 => (Cb (x.1.4 i213)))] = [(fun i214 => (Cs 3 (so206 i214) (y205.2 i214) (sc207 i214))), (fun i215 => (Cb (y205.4 i215)))] ∧
 (O = O ∧
 (x.1.1 = x.1.1 ∧
 (x.1.1 = y205.1 ∧
 (A = A ∧
 (x.2 = x.2 ∧
 ([(fun i216 => (Ci (x.3 i216)))] = [(fun i217 => (Ci (ag209 i217)))] ∧
 (H = H ∧
 (x.4 = x.4 ∧
 [(fun i218 => (Ci (x.5 i218)))] = [(fun i219 => (Ci (hg210 i219)))])))))))))) ∧
 ((capA (AD.mk y205 x.2 ag209 x.4 hg210)) ∧
 (∀ Oq220 : (Option Addr),
 (∀ Aq221 : (Option Addr),
 (∀ Hq222 : (Option Addr),
 (∀ Cq223 : Nat,
 (∀ Dq224 : Nat,
 (∀ Ee225 : Nat,
 (∀ soq226 : (Nat →
 (Option Addr)),
 (∀ scq227 : (Nat →
 Nat),
 (b3 = b3 ∧
 (b3 = b3 ∧
 (∃ Oq228 : (Option Addr), (∃ Aq229 : (Option Addr), (∃ Hq230 : (Option Addr), (∃ Cq231 : Nat, (∃ Dq232 : Nat, (∃ Ee233 : Nat, (∃ soq234 : (Nat →
 (Option Addr)), (∃ scq235 : (Nat →
 Nat), ((Wu [(Wa [(Ws Oq220 y205.1 Cq223), (Ws Aq221 x.2 Dq224), (Ws Hq222 x.4 Ee225)]), (Wb false)]) = (Wu [(Wa [(Ws Oq228 z.1.1 Cq231), (Ws Aq229 z.2 Dq232), (Ws Hq230 z.4 Ee233)]), (Wb b)]) ∧
 (SelS [(Hr false O 0 2 x.1.1 0 [(fun i236 => (Cs 3 (so i236) (x.1.2 i236) (sc i236))), (fun i237 => (Cb (x.1.4 i237)))]), (Hr false A 0 1 x.2 0 [(fun i238 => (Ci (x.3 i238)))]), (Hr false H 0 1 x.4 0 [(fun i239 => (Ci (x.5 i239)))]), (Ho false (symRows false 0 x.1 so (fun x240 => 0))), (Hc b0 37 [(Ci gG), (Ci gB), (Ci gR), (Ci gC)]), (Hc b1 33 [(Cs 0 O x.1.1 C), (Cs 1 A x.2 D), (Cs 2 H x.4 E)]), (Hc b2 34 [(Ci mB), (Ci mF), (Ci mT), (Ci mN)]), (Hc b3 33 [(Cs 8 Oq220 y205.1 Cq223), (Cs 9 Aq221 x.2 Dq224), (Cs 10 Hq222 x.4 Ee225)]), (Hr true Oq220 52 2 y205.1 Cq223 [(fun i241 => (Cs 11 (soq226 i241) (y205.2 i241) (scq227 i241))), (fun i242 => (Cb (y205.4 i242)))]), (Hr true Aq221 3 1 x.2 Dq224 [(fun i243 => (Ci (ag209 i243)))]), (Hr true Hq222 3 1 x.4 Ee225 [(fun i244 => (Ci (hg210 i244)))]), (Ho true (symRows true 3 y205 soq226 scq227))] [8, 9, 10, 11] [(Hr true Oq228 52 2 z.1.1 Cq231 [(fun i245 => (Cs 3 (soq234 i245) (z.1.2 i245) (scq235 i245))), (fun i246 => (Cb (z.1.4 i246)))]), (Hr true Aq229 3 1 z.2 Dq232 [(fun i247 => (Ci (z.3 i247)))]), (Hr true Hq230 3 1 z.4 Ee233 [(fun i248 => (Ci (z.5 i248)))]), (Ho true (symRows true 3 z.1 soq234 scq235))]))))))))))))))))))))))))))))))))))) ∧
 ((!(arrOk gG gB gR gC (AD.mk y5 x.2 ag9 x.4 hg10))) = true →
 (b1 = b1 ∧
 (∃ t249 : Nat, (∃ y250 : CD, (∃ so251 : (Nat →
 (Option Addr)), (∃ sc252 : (Nat →
 Nat), (∃ sd253 : (Nat →
 Nat), (∃ ag254 : (Nat →
 Int), (∃ hg255 : (Nat →
 Int), (((symRows false 0 x.1 so (fun x256 => 0)) = (symRows false t249 y250 so251 sd253) ∧
 ([(fun i257 => (Cs 3 (so i257) (x.1.2 i257) (sc i257))), (fun i258 => (Cb (x.1.4 i258)))] = [(fun i259 => (Cs 3 (so251 i259) (y250.2 i259) (sc252 i259))), (fun i260 => (Cb (y250.4 i260)))] ∧
 (O = O ∧
 (x.1.1 = x.1.1 ∧
 (x.1.1 = y250.1 ∧
 (A = A ∧
 (x.2 = x.2 ∧
 ([(fun i261 => (Ci (x.3 i261)))] = [(fun i262 => (Ci (ag254 i262)))] ∧
 (H = H ∧
 (x.4 = x.4 ∧
 [(fun i263 => (Ci (x.5 i263)))] = [(fun i264 => (Ci (hg255 i264)))])))))))))) ∧
 ((capA (AD.mk y250 x.2 ag254 x.4 hg255)) ∧
 (∀ Oq265 : (Option Addr),
 (∀ Aq266 : (Option Addr),
 (∀ Hq267 : (Option Addr),
 (∀ Cq268 : Nat,
 (∀ Dq269 : Nat,
 (∀ Ee270 : Nat,
 (∀ soq271 : (Nat →
 (Option Addr)),
 (∀ scq272 : (Nat →
 Nat),
 (b3 = b3 ∧
 (b3 = b3 ∧
 (∃ Oq273 : (Option Addr), (∃ Aq274 : (Option Addr), (∃ Hq275 : (Option Addr), (∃ Cq276 : Nat, (∃ Dq277 : Nat, (∃ Ee278 : Nat, (∃ soq279 : (Nat →
 (Option Addr)), (∃ scq280 : (Nat →
 Nat), ((Wu [(Wa [(Ws Oq265 y250.1 Cq268), (Ws Aq266 x.2 Dq269), (Ws Hq267 x.4 Ee270)]), (Wb false)]) = (Wu [(Wa [(Ws Oq273 z.1.1 Cq276), (Ws Aq274 z.2 Dq277), (Ws Hq275 z.4 Ee278)]), (Wb b)]) ∧
 (SelS [(Hr false O 0 2 x.1.1 0 [(fun i281 => (Cs 3 (so i281) (x.1.2 i281) (sc i281))), (fun i282 => (Cb (x.1.4 i282)))]), (Hr false A 0 1 x.2 0 [(fun i283 => (Ci (x.3 i283)))]), (Hr false H 0 1 x.4 0 [(fun i284 => (Ci (x.5 i284)))]), (Ho false (symRows false 0 x.1 so (fun x285 => 0))), (Hc b0 37 [(Ci gG), (Ci gB), (Ci gR), (Ci gC)]), (Hc b1 33 [(Cs 0 O x.1.1 C), (Cs 1 A x.2 D), (Cs 2 H x.4 E)]), (Hc b2 34 [(Ci mB), (Ci mF), (Ci mT), (Ci mN)]), (Hc b3 33 [(Cs 8 Oq265 y250.1 Cq268), (Cs 9 Aq266 x.2 Dq269), (Cs 10 Hq267 x.4 Ee270)]), (Hr true Oq265 52 2 y250.1 Cq268 [(fun i286 => (Cs 11 (soq271 i286) (y250.2 i286) (scq272 i286))), (fun i287 => (Cb (y250.4 i287)))]), (Hr true Aq266 3 1 x.2 Dq269 [(fun i288 => (Ci (ag254 i288)))]), (Hr true Hq267 3 1 x.4 Ee270 [(fun i289 => (Ci (hg255 i289)))]), (Ho true (symRows true 3 y250 soq271 scq272))] [8, 9, 10, 11] [(Hr true Oq273 52 2 z.1.1 Cq276 [(fun i290 => (Cs 3 (soq279 i290) (z.1.2 i290) (scq280 i290))), (fun i291 => (Cb (z.1.4 i291)))]), (Hr true Aq274 3 1 z.2 Dq277 [(fun i292 => (Ci (z.3 i292)))]), (Hr true Hq275 3 1 z.4 Ee278 [(fun i293 => (Ci (z.5 i293)))]), (Ho true (symRows true 3 z.1 soq279 scq280))])))))))))))))))))))))))))))))))))))))))))))))))) := by kernel_rfl
theorem mptS_all (x : AD) (O A H : Option Addr) (C D E : Nat) (so : Nat → Option Addr) (sc : Nat → Nat) (gG gB gR gC : Int) (mB mF mT mN : Int) (q y : Int) (w : World) (hA : SeenA w x O A H so sc) (hcap : capA x) : Calls Try.prog 26 #[.agg #[.int .i64 gG, .int .i64 gB, .int .i64 gR, .int .i64 gC], arrV x O A H C D E, .agg #[.int .i64 mB, .int .i64 mF, .int .i64 mT, .int .i64 mN], .int .i64 q, .int .i64 y] w fun e w' => ∃ (Oq Aq Hq : Option Addr) (Cq Dq Ee : Nat) (soq : Nat → Option Addr) (scq : Nat → Nat), e = .returned (.tuple #[arrV (mpA gG gB gR gC mB mF mT mN x q y) Oq Aq Hq Cq Dq Ee, .bool (mpOk gG gB gR gC mB mF mT mN x q y)]) ∧ HS ⟨w, fun _ => False⟩ (arrO 0 (mpA gG gB gR gC mB mF mT mN x q y) Oq Aq Hq Cq Dq Ee soq scq) w' := by
  generalize hz : mpA gG gB gR gC mB mF mT mN x q y = z
  generalize hb : mpOk gG gB gR gC mB mF mT mN x q y = b
  refine fnB (tb := [(46, sArrOk), (47, sMvOk), (63, sBtw), (74, sIwS), (45, sCpA), (33, sPut)]) ⟨sArrOk_S, sMvOk_S, sBtwS_ok, sIwS_ok, sCpA_S, sPut_S, trivial⟩ Try.func26 (@Eq.mpr _ _ (mptS_T x O A H C D E so sc gG gB gR gC mB mF mT mN q y z b) ?_) (HS.seenAll (fun _ => False) _ (hA.all 0 seenC_nil)) (fun v ch' w' ⟨Oq, Aq, Hq, Cq, Dq, Ee, soq, scq, hv, hc⟩ hs => ⟨Oq, Aq, Hq, Cq, Dq, Ee, soq, scq, by rw [hv], hc.hs hs⟩)
  clear hA
  have hl := lenA_of hcap
  cases hok : arrOk gG gB gR gC x
  · have e : mpOk gG gB gR gC mB mF mT mN x q y = false := by simp [mpOk, hok]
    have e2 : mpA gG gB gR gC mB mF mT mN x q y = x := by simp [mpA, e]
    rw [e] at hb
    rw [e2] at hz
    subst hb
    subst hz
    repeat' (first
      | with_reducible exact rfl
      | exact True.intro
      | with_reducible assumption
      | exact hl
      | exact hcap
      | (intro h; exfalso; rw [hok] at h; simp at h; done)
      | exact (by refine ⟨?_, rfl⟩; repeat' (first | exact True.intro | exact symRows_push | exact rfl | refine And.intro ?_ ?_ | (intro i hi; show _ = _; with_reducible rfl) | (intro i hi; show _ = _; rfl) | (intro i hi; show _ = _; simp only [SC.den]; split <;> rfl)))
      | refine And.intro ?_ ?_
      | apply Exists.intro
      | (intro h; exfalso; simp at h; done)
      | (intro h; replace h := of_decide_eq_true h; first | (exfalso; omega) | skip)
      | (intro h; replace h := of_decide_eq_false h; first | (exfalso; omega) | skip)
      | (intro i hi; with_reducible exact rfl)
      | intro _
      | omega
      | exact rfl)
  · have hg := geo_facts (arrOk_facts hok).1
    cases hmv : mvOk gG gB gR gC mB mF mT mN
    · have e : mpOk gG gB gR gC mB mF mT mN x q y = false := by simp [mpOk, hmv]
      have e2 : mpA gG gB gR gC mB mF mT mN x q y = x := by simp [mpA, e]
      rw [e] at hb
      rw [e2] at hz
      subst hb
      subst hz
      repeat' (first
        | with_reducible exact rfl
        | exact True.intro
        | with_reducible assumption
        | exact hl
        | exact hcap
        | (intro h; exfalso; rw [hok] at h; simp at h; done)
        | (intro h; exfalso; rw [hmv] at h; simp at h; done)
        | exact (by refine ⟨?_, rfl⟩; repeat' (first | exact True.intro | exact symRows_push | exact rfl | refine And.intro ?_ ?_ | (intro i hi; show _ = _; with_reducible rfl) | (intro i hi; show _ = _; rfl) | (intro i hi; show _ = _; simp only [SC.den]; split <;> rfl)))
        | refine And.intro ?_ ?_
        | apply Exists.intro
        | (intro h; exfalso; simp at h; done)
        | (intro h; replace h := of_decide_eq_true h; first | (exfalso; omega) | skip)
        | (intro h; replace h := of_decide_eq_false h; first | (exfalso; omega) | skip)
        | (intro i hi; with_reducible exact rfl)
        | intro _
        | omega
        | exact rfl)
    · cases hq : btw q 0 (gC - 1)
      · have e : mpOk gG gB gR gC mB mF mT mN x q y = false := by simp [mpOk, hq]
        have e2 : mpA gG gB gR gC mB mF mT mN x q y = x := by simp [mpA, e]
        rw [e] at hb
        rw [e2] at hz
        subst hb
        subst hz
        repeat' (first
          | with_reducible exact rfl
          | exact True.intro
          | with_reducible assumption
          | exact hl
          | exact hcap
          | (intro h; exfalso; rw [hok] at h; simp at h; done)
          | (intro h; exfalso; rw [hmv] at h; simp at h; done)
          | (intro h; exfalso; rw [hq] at h; simp at h; done)
          | (show rng _; simp only [rng]; omega)
          | exact (by refine ⟨?_, rfl⟩; repeat' (first | exact True.intro | exact symRows_push | exact rfl | refine And.intro ?_ ?_ | (intro i hi; show _ = _; with_reducible rfl) | (intro i hi; show _ = _; rfl) | (intro i hi; show _ = _; simp only [SC.den]; split <;> rfl)))
          | refine And.intro ?_ ?_
          | apply Exists.intro
          | (intro h; exfalso; simp at h; done)
          | (intro h; replace h := of_decide_eq_true h; first | (exfalso; omega) | skip)
          | (intro h; replace h := of_decide_eq_false h; first | (exfalso; omega) | skip)
          | (intro i hi; with_reducible exact rfl)
          | intro _
          | omega
          | exact rfl)
      · cases hy : btw y 0 4294967295
        · have e : mpOk gG gB gR gC mB mF mT mN x q y = false := by simp [mpOk, hy]
          have e2 : mpA gG gB gR gC mB mF mT mN x q y = x := by simp [mpA, e]
          rw [e] at hb
          rw [e2] at hz
          subst hb
          subst hz
          repeat' (first
            | with_reducible exact rfl
            | exact True.intro
            | with_reducible assumption
            | exact hl
            | exact hcap
            | (intro h; exfalso; rw [hok] at h; simp at h; done)
            | (intro h; exfalso; rw [hmv] at h; simp at h; done)
            | (intro h; exfalso; rw [hq] at h; simp at h; done)
            | (intro h; exfalso; rw [hy] at h; simp at h; done)
            | (show rng _; simp only [rng]; omega)
            | exact (by refine ⟨?_, rfl⟩; repeat' (first | exact True.intro | exact symRows_push | exact rfl | refine And.intro ?_ ?_ | (intro i hi; show _ = _; with_reducible rfl) | (intro i hi; show _ = _; rfl) | (intro i hi; show _ = _; simp only [SC.den]; split <;> rfl)))
            | refine And.intro ?_ ?_
            | apply Exists.intro
            | (intro h; exfalso; simp at h; done)
            | (intro h; replace h := of_decide_eq_true h; first | (exfalso; omega) | skip)
            | (intro h; replace h := of_decide_eq_false h; first | (exfalso; omega) | skip)
            | (intro i hi; with_reducible exact rfl)
            | intro _
            | omega
            | exact rfl)
        · have e : mpOk gG gB gR gC mB mF mT mN x q y = true := by simp [mpOk, hok, hmv, hq, hy]
          cases hn : ilt q mN
          · have e2 : mpA gG gB gR gC mB mF mT mN x q y = putA gG gB gR gC mB mF q x y := by simp [mpA, e, hn]
            rw [e] at hb
            rw [e2] at hz
            subst hb
            subst hz
            repeat' (first
              | with_reducible exact rfl
              | exact True.intro
              | with_reducible assumption
              | exact hl
              | exact hcap
              | (intro h; exfalso; rw [hok] at h; simp at h; done)
              | (intro h; exfalso; rw [hmv] at h; simp at h; done)
              | (intro h; exfalso; rw [hq] at h; simp at h; done)
              | (intro h; exfalso; rw [hy] at h; simp at h; done)
              | (intro h; exfalso; rw [hn] at h; simp at h; done)
              | (show rng _; simp only [rng]; omega)
              | (intro h; exfalso; rw [show decide (q < mN) = false from hn] at h; cases h; done)
              | exact capA_put hcap
              | exact (by refine ⟨?_, rfl⟩; repeat' (first | exact True.intro | exact symRows_push | exact rfl | refine And.intro ?_ ?_ | (intro i hi; show _ = _; with_reducible rfl) | (intro i hi; show _ = _; rfl) | (intro i hi; show _ = _; simp only [SC.den]; split <;> rfl)))
              | refine And.intro ?_ ?_
              | apply Exists.intro
              | (intro h; exfalso; simp at h; done)
              | (intro h; replace h := of_decide_eq_true h; first | (exfalso; omega) | skip)
              | (intro h; replace h := of_decide_eq_false h; first | (exfalso; omega) | skip)
              | (intro i hi; with_reducible exact rfl)
              | intro _
              | omega
              | exact rfl)
          · have e2 : mpA gG gB gR gC mB mF mT mN x q y = putA gG gB gR gC mB mT q (putA gG gB gR gC mB mF q x y) y := by simp [mpA, e, hn]
            rw [e] at hb
            rw [e2] at hz
            subst hb
            subst hz
            repeat' (first
              | with_reducible exact rfl
              | exact True.intro
              | with_reducible assumption
              | exact hl
              | exact hcap
              | (intro h; exfalso; rw [hok] at h; simp at h; done)
              | (intro h; exfalso; rw [hmv] at h; simp at h; done)
              | (intro h; exfalso; rw [hq] at h; simp at h; done)
              | (intro h; exfalso; rw [hy] at h; simp at h; done)
              | (intro h; exfalso; rw [hn] at h; simp at h; done)
              | (show rng _; simp only [rng]; omega)
              | (intro h; exfalso; rw [show decide (q < mN) = true from hn] at h; cases h; done)
              | exact capA_put hcap
              | exact (by refine ⟨?_, rfl⟩; repeat' (first | exact True.intro | exact symRows_push | exact rfl | refine And.intro ?_ ?_ | (intro i hi; show _ = _; with_reducible rfl) | (intro i hi; show _ = _; rfl) | (intro i hi; show _ = _; simp only [SC.den]; split <;> rfl)))
              | refine And.intro ?_ ?_
              | apply Exists.intro
              | (intro h; exfalso; simp at h; done)
              | (intro h; replace h := of_decide_eq_true h; first | (exfalso; omega) | skip)
              | (intro h; replace h := of_decide_eq_false h; first | (exfalso; omega) | skip)
              | (intro i hi; with_reducible exact rfl)
              | intro _
              | omega
              | exact rfl)
end Go.Proofs.Ytddeinpnadfgmaa

/-
  Moves stepped.
-/
import Derived.Test.YtddeinpnadfgmaaSxM2
namespace Go.Proofs.Ytddeinpnadfgmaa
set_option linter.unusedVariables false
set_option linter.unusedSimpArgs false
open Go.RowKit
set_option maxRecDepth 100000
set_option maxHeartbeats 1000000

def stepOk (gG gB gR gC : Int) (mB mF mT mN : Int) (x : AD) : Bool := arrOk gG gB gR gC x && mvOk gG gB gR gC mB mF mT mN && ine mN gC
def stepA (gG gB gR gC : Int) (mB mF mT mN : Int) (x : AD) : AD := if stepOk gG gB gR gC mB mF mT mN x = true then setA x (ixN gG gB gR gC mB mT mN) (x.c.sn (ixN gG gB gR gC mB mF mN)) (x.c.sy (ixN gG gB gR gC mB mF mN)) (x.c.po (ixN gG gB gR gC mB mF mN)) else x
def stepN (gG gB gR gC : Int) (mB mF mT mN : Int) (x : AD) : Int := if stepOk gG gB gR gC mB mF mT mN x = true then mN + 1 else mN
theorem adOk_col {g b r c k x z : Int} (h : adOk g b r c k x 0 = true) (hz : 0 ≤ z ∧ z ≤ c - 1) : adOk g b r c k x z = true := by
  simp only [adOk, Bool.and_eq_true] at h ⊢
  exact ⟨h.1, btw_mk hz.1 hz.2⟩
theorem step_facts {gG gB gR gC mB mF mT mN : Int} {x : AD} (h : stepOk gG gB gR gC mB mF mT mN x = true) : arrOk gG gB gR gC x = true ∧ mvOk gG gB gR gC mB mF mT mN = true ∧ (ine mN gC = true ∧ ieq mN gC = false) ∧ adOk gG gB gR gC mB mF mN = true ∧ adOk gG gB gR gC mB mT mN = true ∧ (0 ≤ mN ∧ mN ≤ 7) := by
  simp only [stepOk, Bool.and_eq_true] at h
  obtain ⟨⟨h1, h2⟩, h3⟩ := h
  have h3' : mN ≠ gC := by simpa [ine] using h3
  have h4 := h2
  simp only [mvOk, mvB, Bool.and_eq_true] at h4
  obtain ⟨⟨⟨ha, hb⟩, _⟩, hn⟩ := h4
  have hn' := btw_f hn
  have hf := geo_facts (adOk_facts ha).1
  exact ⟨h1, h2, ⟨h3, by simpa [ieq] using h3'⟩, adOk_col ha ⟨hn'.1, by omega⟩, adOk_col hb ⟨hn'.1, by omega⟩, by omega⟩
theorem mstIY_T (x : AD) (O A H : Option Addr) (C D E : Nat) (so : Nat → Option Addr) (sc : Nat → Nat) (gG gB gR gC : Int) (mB mF mT mN : Int) : (exFn Try.prog {tb := [(53, sCpA), (52, sArrOk), (41, sMvOk), (54, sLd), (55, sSt)], D := fun _ => [7, 8]} 400 Try.f15 ([.a (.agg [.int gG, .int gB, .int gR, .int gC]), .a (arrS 0 x O A H C D E), .a (.agg [.int mB, .int mF, .int mT, .int mN])]) (arrR 0 x O A H so sc) (fun v ch => ∃ (Oq Aq Hq : Option Addr) (Cq Dq Ee : Nat) (soq : Nat → Option Addr) (scq : Nat → Nat), v.den = .tuple #[arrV (stA gG gB gR gC mB mT mN x (x.c.sn (ixN gG gB gR gC mB mF mN)) (x.c.sy (ixN gG gB gR gC mB mF mN)) (x.c.po (ixN gG gB gR gC mB mF mN))) Oq Aq Hq Cq Dq Ee, .agg #[.int .i64 mB, .int .i64 mF, .int .i64 mT, .int .i64 (iadd mN 1)], .bool true] ∧ SelS ch (idsArr v ch) (arrO 0 (stA gG gB gR gC mB mT mN x (x.c.sn (ixN gG gB gR gC mB mF mN)) (x.c.sy (ixN gG gB gR gC mB mF mN)) (x.c.po (ixN gG gB gR gC mB mF mN))) Oq Aq Hq Cq Dq Ee soq scq))) = (
  (∀ b0 : Nat,
 (∀ b1 : Nat,
 (∀ b2 : Nat,
 (∀ b3 : Nat,
 (∀ b4 : Nat,
 (b0 = b0 ∧
 (b1 = b1 ∧
 (∃ t5 : Nat, (∃ y6 : CD, (∃ so7 : (Nat →
 (Option Addr)), (∃ sc8 : (Nat →
 Nat), (∃ sd9 : (Nat →
 Nat), (∃ ag10 : (Nat →
 Int), (∃ hg11 : (Nat →
 Int), (((symRows false 0 x.1 so (fun x12 => 0)) = (symRows false t5 y6 so7 sd9) ∧
 ([(fun i13 => (Cs 3 (so i13) (x.1.2 i13) (sc i13))), (fun i14 => (Cb (x.1.4 i14)))] = [(fun i15 => (Cs 3 (so7 i15) (y6.2 i15) (sc8 i15))), (fun i16 => (Cb (y6.4 i16)))] ∧
 (O = O ∧
 (x.1.1 = x.1.1 ∧
 (x.1.1 = y6.1 ∧
 (A = A ∧
 (x.2 = x.2 ∧
 ([(fun i17 => (Ci (x.3 i17)))] = [(fun i18 => (Ci (ag10 i18)))] ∧
 (H = H ∧
 (x.4 = x.4 ∧
 [(fun i19 => (Ci (x.5 i19)))] = [(fun i20 => (Ci (hg11 i20)))])))))))))) ∧
 ((lenA (AD.mk y6 x.2 ag10 x.4 hg11)) ∧
 (((!(arrOk gG gB gR gC (AD.mk y6 x.2 ag10 x.4 hg11))) = false →
 (b0 = b0 ∧
 (b2 = b2 ∧
 (((!(mvOk gG gB gR gC mB mF mT mN)) = false →
 (b2 = b2 ∧
 (b0 = b0 ∧
 (((mN == gC) = true →
 (b1 = b1 ∧
 (b2 = b2 ∧
 (∃ t21 : Nat, (∃ y22 : CD, (∃ so23 : (Nat →
 (Option Addr)), (∃ sc24 : (Nat →
 Nat), (∃ sd25 : (Nat →
 Nat), (∃ ag26 : (Nat →
 Int), (∃ hg27 : (Nat →
 Int), (((symRows false 0 x.1 so (fun x28 => 0)) = (symRows false t21 y22 so23 sd25) ∧
 ([(fun i29 => (Cs 3 (so i29) (x.1.2 i29) (sc i29))), (fun i30 => (Cb (x.1.4 i30)))] = [(fun i31 => (Cs 3 (so23 i31) (y22.2 i31) (sc24 i31))), (fun i32 => (Cb (y22.4 i32)))] ∧
 (O = O ∧
 (x.1.1 = x.1.1 ∧
 (x.1.1 = y22.1 ∧
 (A = A ∧
 (x.2 = x.2 ∧
 ([(fun i33 => (Ci (x.3 i33)))] = [(fun i34 => (Ci (ag26 i34)))] ∧
 (H = H ∧
 (x.4 = x.4 ∧
 [(fun i35 => (Ci (x.5 i35)))] = [(fun i36 => (Ci (hg27 i36)))])))))))))) ∧
 ((capA (AD.mk y22 x.2 ag26 x.4 hg27)) ∧
 (∀ Oq37 : (Option Addr),
 (∀ Aq38 : (Option Addr),
 (∀ Hq39 : (Option Addr),
 (∀ Cq40 : Nat,
 (∀ Dq41 : Nat,
 (∀ Ee42 : Nat,
 (∀ soq43 : (Nat →
 (Option Addr)),
 (∀ scq44 : (Nat →
 Nat),
 (True ∧
 (b3 = b3 ∧
 (True ∧
 (b4 = b4 ∧
 (True ∧
 (b3 = b3 ∧
 (b4 = b4 ∧
 (∃ Oq45 : (Option Addr), (∃ Aq46 : (Option Addr), (∃ Hq47 : (Option Addr), (∃ Cq48 : Nat, (∃ Dq49 : Nat, (∃ Ee50 : Nat, (∃ soq51 : (Nat →
 (Option Addr)), (∃ scq52 : (Nat →
 Nat), ((Wu [(Wa [(Ws Oq37 y22.1 Cq40), (Ws Aq38 x.2 Dq41), (Ws Hq39 x.4 Ee42)]), (Wa [(Wi mB), (Wi mF), (Wi mT), (Wi mN)]), (Wb false)]) = (Wu [(Wa [(Ws Oq45 ((stA gG gB gR gC mB mT mN x (x.1.2 (ixN gG gB gR gC mB mF mN)) (x.1.3 (ixN gG gB gR gC mB mF mN)) (x.1.4 (ixN gG gB gR gC mB mF mN)))).1.1 Cq48), (Ws Aq46 ((stA gG gB gR gC mB mT mN x (x.1.2 (ixN gG gB gR gC mB mF mN)) (x.1.3 (ixN gG gB gR gC mB mF mN)) (x.1.4 (ixN gG gB gR gC mB mF mN)))).2 Dq49), (Ws Hq47 ((stA gG gB gR gC mB mT mN x (x.1.2 (ixN gG gB gR gC mB mF mN)) (x.1.3 (ixN gG gB gR gC mB mF mN)) (x.1.4 (ixN gG gB gR gC mB mF mN)))).4 Ee50)]), (Wa [(Wi mB), (Wi mF), (Wi mT), (Wi (mN + (1 : Int)))]), (Wb true)]) ∧
 (SelS [(Hr false O 0 2 x.1.1 0 [(fun i53 => (Cs 3 (so i53) (x.1.2 i53) (sc i53))), (fun i54 => (Cb (x.1.4 i54)))]), (Hr false A 0 1 x.2 0 [(fun i55 => (Ci (x.3 i55)))]), (Hr false H 0 1 x.4 0 [(fun i56 => (Ci (x.5 i56)))]), (Ho false (symRows false 0 x.1 so (fun x57 => 0))), (Hc b0 37 [(Ci gG), (Ci gB), (Ci gR), (Ci gC)]), (Hc b1 33 [(Cs 0 O x.1.1 C), (Cs 1 A x.2 D), (Cs 2 H x.4 E)]), (Hc b2 34 [(Ci mB), (Ci mF), (Ci mT), (Ci mN)]), (Hc b3 33 [(Cs 9 Oq37 y22.1 Cq40), (Cs 10 Aq38 x.2 Dq41), (Cs 11 Hq39 x.4 Ee42)]), (Hc b4 34 [(Ci mB), (Ci mF), (Ci mT), (Ci mN)]), (Hr true Oq37 52 2 y22.1 Cq40 [(fun i58 => (Cs 12 (soq43 i58) (y22.2 i58) (scq44 i58))), (fun i59 => (Cb (y22.4 i59)))]), (Hr true Aq38 3 1 x.2 Dq41 [(fun i60 => (Ci (ag26 i60)))]), (Hr true Hq39 3 1 x.4 Ee42 [(fun i61 => (Ci (hg27 i61)))]), (Ho true (symRows true 3 y22 soq43 scq44))] [9, 10, 11, 12] [(Hr true Oq45 52 2 ((stA gG gB gR gC mB mT mN x (x.1.2 (ixN gG gB gR gC mB mF mN)) (x.1.3 (ixN gG gB gR gC mB mF mN)) (x.1.4 (ixN gG gB gR gC mB mF mN)))).1.1 Cq48 [(fun i62 => (Cs 3 (soq51 i62) (((stA gG gB gR gC mB mT mN x (x.1.2 (ixN gG gB gR gC mB mF mN)) (x.1.3 (ixN gG gB gR gC mB mF mN)) (x.1.4 (ixN gG gB gR gC mB mF mN)))).1.2 i62) (scq52 i62))), (fun i63 => (Cb (((stA gG gB gR gC mB mT mN x (x.1.2 (ixN gG gB gR gC mB mF mN)) (x.1.3 (ixN gG gB gR gC mB mF mN)) (x.1.4 (ixN gG gB gR gC mB mF mN)))).1.4 i63)))]), (Hr true Aq46 3 1 ((stA gG gB gR gC mB mT mN x (x.1.2 (ixN gG gB gR gC mB mF mN)) (x.1.3 (ixN gG gB gR gC mB mF mN)) (x.1.4 (ixN gG gB gR gC mB mF mN)))).2 Dq49 [(fun i64 => (Ci (((stA gG gB gR gC mB mT mN x (x.1.2 (ixN gG gB gR gC mB mF mN)) (x.1.3 (ixN gG gB gR gC mB mF mN)) (x.1.4 (ixN gG gB gR gC mB mF mN)))).3 i64)))]), (Hr true Hq47 3 1 ((stA gG gB gR gC mB mT mN x (x.1.2 (ixN gG gB gR gC mB mF mN)) (x.1.3 (ixN gG gB gR gC mB mF mN)) (x.1.4 (ixN gG gB gR gC mB mF mN)))).4 Ee50 [(fun i65 => (Ci (((stA gG gB gR gC mB mT mN x (x.1.2 (ixN gG gB gR gC mB mF mN)) (x.1.3 (ixN gG gB gR gC mB mF mN)) (x.1.4 (ixN gG gB gR gC mB mF mN)))).5 i65)))]), (Ho true (symRows true 3 ((stA gG gB gR gC mB mT mN x (x.1.2 (ixN gG gB gR gC mB mF mN)) (x.1.3 (ixN gG gB gR gC mB mF mN)) (x.1.4 (ixN gG gB gR gC mB mF mN)))).1 soq51 scq52))]))))))))))))))))))))))))))))))))))))) ∧
 ((mN == gC) = false →
 (b0 = b0 ∧
 (b1 = b1 ∧
 (b2 = b2 ∧
 (b2 = b2 ∧
 (b2 = b2 ∧
 (∃ t66 : Nat, (∃ y67 : CD, (∃ so68 : (Nat →
 (Option Addr)), (∃ sc69 : (Nat →
 Nat), (∃ sd70 : (Nat →
 Nat), (∃ ag71 : (Nat →
 Int), (∃ hg72 : (Nat →
 Int), (((symRows false 0 x.1 so (fun x73 => 0)) = (symRows false t66 y67 so68 sd70) ∧
 ([(fun i74 => (Cs 3 (so i74) (x.1.2 i74) (sc i74))), (fun i75 => (Cb (x.1.4 i75)))] = [(fun i76 => (Cs 3 (so68 i76) (y67.2 i76) (sc69 i76))), (fun i77 => (Cb (y67.4 i77)))] ∧
 (O = O ∧
 (x.1.1 = x.1.1 ∧
 (x.1.1 = y67.1 ∧
 (A = A ∧
 (x.2 = x.2 ∧
 ([(fun i78 => (Ci (x.3 i78)))] = [(fun i79 => (Ci (ag71 i79)))] ∧
 (H = H ∧
 (x.4 = x.4 ∧
 [(fun i80 => (Ci (x.5 i80)))] = [(fun i81 => (Ci (hg72 i81)))])))))))))) ∧
 (((capA (AD.mk y67 x.2 ag71 x.4 hg72)) ∧
 ((arrOk gG gB gR gC (AD.mk y67 x.2 ag71 x.4 hg72)) = true ∧
 (adOk gG gB gR gC mB mF mN) = true)) ∧
 (∀ ro82 : (Option Addr),
 (∀ rc83 : Nat,
 (∀ b84 : Nat,
 (b84 = b84 ∧
 (b0 = b0 ∧
 (b1 = b1 ∧
 (b2 = b2 ∧
 (b2 = b2 ∧
 (b2 = b2 ∧
 (b84 = b84 ∧
 (∃ t85 : Nat, (∃ y86 : CD, (∃ so87 : (Nat →
 (Option Addr)), (∃ sc88 : (Nat →
 Nat), (∃ sd89 : (Nat →
 Nat), (∃ ag90 : (Nat →
 Int), (∃ hg91 : (Nat →
 Int), (((symRows false 0 x.1 so (fun x92 => 0)) = (symRows false t85 y86 so87 sd89) ∧
 ([(fun i93 => (Cs 3 (so i93) (x.1.2 i93) (sc i93))), (fun i94 => (Cb (x.1.4 i94)))] = [(fun i95 => (Cs 3 (so87 i95) (y86.2 i95) (sc88 i95))), (fun i96 => (Cb (y86.4 i96)))] ∧
 (O = O ∧
 (x.1.1 = x.1.1 ∧
 (x.1.1 = y86.1 ∧
 (A = A ∧
 (x.2 = x.2 ∧
 ([(fun i97 => (Ci (x.3 i97)))] = [(fun i98 => (Ci (ag90 i98)))] ∧
 (H = H ∧
 (x.4 = x.4 ∧
 [(fun i99 => (Ci (x.5 i99)))] = [(fun i100 => (Ci (hg91 i100)))])))))))))) ∧
 (∃ g0101 : (Nat →
 Int), ((ro82 = ro82 ∧
 ((y67.2 (ixN gG gB gR gC mB mF mN)) = (y67.2 (ixN gG gB gR gC mB mF mN)) ∧
 [(fun i102 => (Ci (y67.3 (ixN gG gB gR gC mB mF mN) i102)))] = [(fun i103 => (Ci (g0101 i103)))])) ∧
 (((capA (AD.mk y86 x.2 ag90 x.4 hg91)) ∧
 (capC (y67.2 (ixN gG gB gR gC mB mF mN)))) ∧
 (∀ Oq104 : (Option Addr),
 (∀ Aq105 : (Option Addr),
 (∀ Hq106 : (Option Addr),
 (∀ Cq107 : Nat,
 (∀ Dq108 : Nat,
 (∀ Ee109 : Nat,
 (∀ soq110 : (Nat →
 (Option Addr)),
 (∀ scq111 : (Nat →
 Nat),
 (∀ b112 : Nat,
 (b112 = b112 ∧
 (b2 = b2 ∧
 ((rng (mN + (1 : Int))) ∧
 (b2 = b2 ∧
 (b112 = b112 ∧
 (b2 = b2 ∧
 (b3 = b3 ∧
 (True ∧
 (b4 = b4 ∧
 (True ∧
 (b3 = b3 ∧
 (b4 = b4 ∧
 (∃ Oq113 : (Option Addr), (∃ Aq114 : (Option Addr), (∃ Hq115 : (Option Addr), (∃ Cq116 : Nat, (∃ Dq117 : Nat, (∃ Ee118 : Nat, (∃ soq119 : (Nat →
 (Option Addr)), (∃ scq120 : (Nat →
 Nat), ((Wu [(Wa [(Ws Oq104 ((stA gG gB gR gC mB mT mN (AD.mk y86 x.2 ag90 x.4 hg91) (y67.2 (ixN gG gB gR gC mB mF mN)) g0101 (y67.4 (ixN gG gB gR gC mB mF mN)))).1.1 Cq107), (Ws Aq105 ((stA gG gB gR gC mB mT mN (AD.mk y86 x.2 ag90 x.4 hg91) (y67.2 (ixN gG gB gR gC mB mF mN)) g0101 (y67.4 (ixN gG gB gR gC mB mF mN)))).2 Dq108), (Ws Hq106 ((stA gG gB gR gC mB mT mN (AD.mk y86 x.2 ag90 x.4 hg91) (y67.2 (ixN gG gB gR gC mB mF mN)) g0101 (y67.4 (ixN gG gB gR gC mB mF mN)))).4 Ee109)]), (Wa [(Wi mB), (Wi mF), (Wi mT), (Wi (mN + (1 : Int)))]), (Wb true)]) = (Wu [(Wa [(Ws Oq113 ((stA gG gB gR gC mB mT mN x (x.1.2 (ixN gG gB gR gC mB mF mN)) (x.1.3 (ixN gG gB gR gC mB mF mN)) (x.1.4 (ixN gG gB gR gC mB mF mN)))).1.1 Cq116), (Ws Aq114 ((stA gG gB gR gC mB mT mN x (x.1.2 (ixN gG gB gR gC mB mF mN)) (x.1.3 (ixN gG gB gR gC mB mF mN)) (x.1.4 (ixN gG gB gR gC mB mF mN)))).2 Dq117), (Ws Hq115 ((stA gG gB gR gC mB mT mN x (x.1.2 (ixN gG gB gR gC mB mF mN)) (x.1.3 (ixN gG gB gR gC mB mF mN)) (x.1.4 (ixN gG gB gR gC mB mF mN)))).4 Ee118)]), (Wa [(Wi mB), (Wi mF), (Wi mT), (Wi (mN + (1 : Int)))]), (Wb true)]) ∧
 (SelS [(Hr false O 0 2 x.1.1 0 [(fun i121 => (Cs 3 (so i121) (x.1.2 i121) (sc i121))), (fun i122 => (Cb (x.1.4 i122)))]), (Hr false A 0 1 x.2 0 [(fun i123 => (Ci (x.3 i123)))]), (Hr false H 0 1 x.4 0 [(fun i124 => (Ci (x.5 i124)))]), (Ho false (symRows false 0 x.1 so (fun x125 => 0))), (Hc b0 37 [(Ci gG), (Ci gB), (Ci gR), (Ci gC)]), (Hc b1 33 [(Cs 0 O x.1.1 C), (Cs 1 A x.2 D), (Cs 2 H x.4 E)]), (Hc b2 34 [(Ci mB), (Ci mF), (Ci mT), (Ci (mN + (1 : Int)))]), (Hc b3 33 [(Cs 11 Oq104 ((stA gG gB gR gC mB mT mN (AD.mk y86 x.2 ag90 x.4 hg91) (y67.2 (ixN gG gB gR gC mB mF mN)) g0101 (y67.4 (ixN gG gB gR gC mB mF mN)))).1.1 Cq107), (Cs 12 Aq105 ((stA gG gB gR gC mB mT mN (AD.mk y86 x.2 ag90 x.4 hg91) (y67.2 (ixN gG gB gR gC mB mF mN)) g0101 (y67.4 (ixN gG gB gR gC mB mF mN)))).2 Dq108), (Cs 13 Hq106 ((stA gG gB gR gC mB mT mN (AD.mk y86 x.2 ag90 x.4 hg91) (y67.2 (ixN gG gB gR gC mB mF mN)) g0101 (y67.4 (ixN gG gB gR gC mB mF mN)))).4 Ee109)]), (Hc b4 34 [(Ci mB), (Ci mF), (Ci mT), (Ci (mN + (1 : Int)))]), (Hr true ro82 3 1 (y67.2 (ixN gG gB gR gC mB mF mN)) rc83 [(fun i126 => (Ci (y67.3 (ixN gG gB gR gC mB mF mN) i126)))]), (Hc b84 52 [(Cs 9 ro82 (y67.2 (ixN gG gB gR gC mB mF mN)) rc83), (Cb (y67.4 (ixN gG gB gR gC mB mF mN)))]), (Hr true Oq104 52 2 ((stA gG gB gR gC mB mT mN (AD.mk y86 x.2 ag90 x.4 hg91) (y67.2 (ixN gG gB gR gC mB mF mN)) g0101 (y67.4 (ixN gG gB gR gC mB mF mN)))).1.1 Cq107 [(fun i127 => (Cs 14 (soq110 i127) (((stA gG gB gR gC mB mT mN (AD.mk y86 x.2 ag90 x.4 hg91) (y67.2 (ixN gG gB gR gC mB mF mN)) g0101 (y67.4 (ixN gG gB gR gC mB mF mN)))).1.2 i127) (scq111 i127))), (fun i128 => (Cb (((stA gG gB gR gC mB mT mN (AD.mk y86 x.2 ag90 x.4 hg91) (y67.2 (ixN gG gB gR gC mB mF mN)) g0101 (y67.4 (ixN gG gB gR gC mB mF mN)))).1.4 i128)))]), (Hr true Aq105 3 1 ((stA gG gB gR gC mB mT mN (AD.mk y86 x.2 ag90 x.4 hg91) (y67.2 (ixN gG gB gR gC mB mF mN)) g0101 (y67.4 (ixN gG gB gR gC mB mF mN)))).2 Dq108 [(fun i129 => (Ci (((stA gG gB gR gC mB mT mN (AD.mk y86 x.2 ag90 x.4 hg91) (y67.2 (ixN gG gB gR gC mB mF mN)) g0101 (y67.4 (ixN gG gB gR gC mB mF mN)))).3 i129)))]), (Hr true Hq106 3 1 ((stA gG gB gR gC mB mT mN (AD.mk y86 x.2 ag90 x.4 hg91) (y67.2 (ixN gG gB gR gC mB mF mN)) g0101 (y67.4 (ixN gG gB gR gC mB mF mN)))).4 Ee109 [(fun i130 => (Ci (((stA gG gB gR gC mB mT mN (AD.mk y86 x.2 ag90 x.4 hg91) (y67.2 (ixN gG gB gR gC mB mF mN)) g0101 (y67.4 (ixN gG gB gR gC mB mF mN)))).5 i130)))]), (Ho true (symRows true 3 ((stA gG gB gR gC mB mT mN (AD.mk y86 x.2 ag90 x.4 hg91) (y67.2 (ixN gG gB gR gC mB mF mN)) g0101 (y67.4 (ixN gG gB gR gC mB mF mN)))).1 soq110 scq111)), (Hc b112 33 [(Cs 11 Oq104 ((stA gG gB gR gC mB mT mN (AD.mk y86 x.2 ag90 x.4 hg91) (y67.2 (ixN gG gB gR gC mB mF mN)) g0101 (y67.4 (ixN gG gB gR gC mB mF mN)))).1.1 Cq107), (Cs 12 Aq105 ((stA gG gB gR gC mB mT mN (AD.mk y86 x.2 ag90 x.4 hg91) (y67.2 (ixN gG gB gR gC mB mF mN)) g0101 (y67.4 (ixN gG gB gR gC mB mF mN)))).2 Dq108), (Cs 13 Hq106 ((stA gG gB gR gC mB mT mN (AD.mk y86 x.2 ag90 x.4 hg91) (y67.2 (ixN gG gB gR gC mB mF mN)) g0101 (y67.4 (ixN gG gB gR gC mB mF mN)))).4 Ee109)])] [11, 12, 13, 14] [(Hr true Oq113 52 2 ((stA gG gB gR gC mB mT mN x (x.1.2 (ixN gG gB gR gC mB mF mN)) (x.1.3 (ixN gG gB gR gC mB mF mN)) (x.1.4 (ixN gG gB gR gC mB mF mN)))).1.1 Cq116 [(fun i131 => (Cs 3 (soq119 i131) (((stA gG gB gR gC mB mT mN x (x.1.2 (ixN gG gB gR gC mB mF mN)) (x.1.3 (ixN gG gB gR gC mB mF mN)) (x.1.4 (ixN gG gB gR gC mB mF mN)))).1.2 i131) (scq120 i131))), (fun i132 => (Cb (((stA gG gB gR gC mB mT mN x (x.1.2 (ixN gG gB gR gC mB mF mN)) (x.1.3 (ixN gG gB gR gC mB mF mN)) (x.1.4 (ixN gG gB gR gC mB mF mN)))).1.4 i132)))]), (Hr true Aq114 3 1 ((stA gG gB gR gC mB mT mN x (x.1.2 (ixN gG gB gR gC mB mF mN)) (x.1.3 (ixN gG gB gR gC mB mF mN)) (x.1.4 (ixN gG gB gR gC mB mF mN)))).2 Dq117 [(fun i133 => (Ci (((stA gG gB gR gC mB mT mN x (x.1.2 (ixN gG gB gR gC mB mF mN)) (x.1.3 (ixN gG gB gR gC mB mF mN)) (x.1.4 (ixN gG gB gR gC mB mF mN)))).3 i133)))]), (Hr true Hq115 3 1 ((stA gG gB gR gC mB mT mN x (x.1.2 (ixN gG gB gR gC mB mF mN)) (x.1.3 (ixN gG gB gR gC mB mF mN)) (x.1.4 (ixN gG gB gR gC mB mF mN)))).4 Ee118 [(fun i134 => (Ci (((stA gG gB gR gC mB mT mN x (x.1.2 (ixN gG gB gR gC mB mF mN)) (x.1.3 (ixN gG gB gR gC mB mF mN)) (x.1.4 (ixN gG gB gR gC mB mF mN)))).5 i134)))]), (Ho true (symRows true 3 ((stA gG gB gR gC mB mT mN x (x.1.2 (ixN gG gB gR gC mB mF mN)) (x.1.3 (ixN gG gB gR gC mB mF mN)) (x.1.4 (ixN gG gB gR gC mB mF mN)))).1 soq119 scq120))]))))))))))))))))))))))))))))))))))))))))))))))))))))))))))))))))))))))) ∧
 ((!(mvOk gG gB gR gC mB mF mT mN)) = true →
 (b1 = b1 ∧
 (b2 = b2 ∧
 (∃ t135 : Nat, (∃ y136 : CD, (∃ so137 : (Nat →
 (Option Addr)), (∃ sc138 : (Nat →
 Nat), (∃ sd139 : (Nat →
 Nat), (∃ ag140 : (Nat →
 Int), (∃ hg141 : (Nat →
 Int), (((symRows false 0 x.1 so (fun x142 => 0)) = (symRows false t135 y136 so137 sd139) ∧
 ([(fun i143 => (Cs 3 (so i143) (x.1.2 i143) (sc i143))), (fun i144 => (Cb (x.1.4 i144)))] = [(fun i145 => (Cs 3 (so137 i145) (y136.2 i145) (sc138 i145))), (fun i146 => (Cb (y136.4 i146)))] ∧
 (O = O ∧
 (x.1.1 = x.1.1 ∧
 (x.1.1 = y136.1 ∧
 (A = A ∧
 (x.2 = x.2 ∧
 ([(fun i147 => (Ci (x.3 i147)))] = [(fun i148 => (Ci (ag140 i148)))] ∧
 (H = H ∧
 (x.4 = x.4 ∧
 [(fun i149 => (Ci (x.5 i149)))] = [(fun i150 => (Ci (hg141 i150)))])))))))))) ∧
 ((capA (AD.mk y136 x.2 ag140 x.4 hg141)) ∧
 (∀ Oq151 : (Option Addr),
 (∀ Aq152 : (Option Addr),
 (∀ Hq153 : (Option Addr),
 (∀ Cq154 : Nat,
 (∀ Dq155 : Nat,
 (∀ Ee156 : Nat,
 (∀ soq157 : (Nat →
 (Option Addr)),
 (∀ scq158 : (Nat →
 Nat),
 (True ∧
 (b3 = b3 ∧
 (True ∧
 (b4 = b4 ∧
 (True ∧
 (b3 = b3 ∧
 (b4 = b4 ∧
 (∃ Oq159 : (Option Addr), (∃ Aq160 : (Option Addr), (∃ Hq161 : (Option Addr), (∃ Cq162 : Nat, (∃ Dq163 : Nat, (∃ Ee164 : Nat, (∃ soq165 : (Nat →
 (Option Addr)), (∃ scq166 : (Nat →
 Nat), ((Wu [(Wa [(Ws Oq151 y136.1 Cq154), (Ws Aq152 x.2 Dq155), (Ws Hq153 x.4 Ee156)]), (Wa [(Wi mB), (Wi mF), (Wi mT), (Wi mN)]), (Wb false)]) = (Wu [(Wa [(Ws Oq159 ((stA gG gB gR gC mB mT mN x (x.1.2 (ixN gG gB gR gC mB mF mN)) (x.1.3 (ixN gG gB gR gC mB mF mN)) (x.1.4 (ixN gG gB gR gC mB mF mN)))).1.1 Cq162), (Ws Aq160 ((stA gG gB gR gC mB mT mN x (x.1.2 (ixN gG gB gR gC mB mF mN)) (x.1.3 (ixN gG gB gR gC mB mF mN)) (x.1.4 (ixN gG gB gR gC mB mF mN)))).2 Dq163), (Ws Hq161 ((stA gG gB gR gC mB mT mN x (x.1.2 (ixN gG gB gR gC mB mF mN)) (x.1.3 (ixN gG gB gR gC mB mF mN)) (x.1.4 (ixN gG gB gR gC mB mF mN)))).4 Ee164)]), (Wa [(Wi mB), (Wi mF), (Wi mT), (Wi (mN + (1 : Int)))]), (Wb true)]) ∧
 (SelS [(Hr false O 0 2 x.1.1 0 [(fun i167 => (Cs 3 (so i167) (x.1.2 i167) (sc i167))), (fun i168 => (Cb (x.1.4 i168)))]), (Hr false A 0 1 x.2 0 [(fun i169 => (Ci (x.3 i169)))]), (Hr false H 0 1 x.4 0 [(fun i170 => (Ci (x.5 i170)))]), (Ho false (symRows false 0 x.1 so (fun x171 => 0))), (Hc b0 37 [(Ci gG), (Ci gB), (Ci gR), (Ci gC)]), (Hc b1 33 [(Cs 0 O x.1.1 C), (Cs 1 A x.2 D), (Cs 2 H x.4 E)]), (Hc b2 34 [(Ci mB), (Ci mF), (Ci mT), (Ci mN)]), (Hc b3 33 [(Cs 9 Oq151 y136.1 Cq154), (Cs 10 Aq152 x.2 Dq155), (Cs 11 Hq153 x.4 Ee156)]), (Hc b4 34 [(Ci mB), (Ci mF), (Ci mT), (Ci mN)]), (Hr true Oq151 52 2 y136.1 Cq154 [(fun i172 => (Cs 12 (soq157 i172) (y136.2 i172) (scq158 i172))), (fun i173 => (Cb (y136.4 i173)))]), (Hr true Aq152 3 1 x.2 Dq155 [(fun i174 => (Ci (ag140 i174)))]), (Hr true Hq153 3 1 x.4 Ee156 [(fun i175 => (Ci (hg141 i175)))]), (Ho true (symRows true 3 y136 soq157 scq158))] [9, 10, 11, 12] [(Hr true Oq159 52 2 ((stA gG gB gR gC mB mT mN x (x.1.2 (ixN gG gB gR gC mB mF mN)) (x.1.3 (ixN gG gB gR gC mB mF mN)) (x.1.4 (ixN gG gB gR gC mB mF mN)))).1.1 Cq162 [(fun i176 => (Cs 3 (soq165 i176) (((stA gG gB gR gC mB mT mN x (x.1.2 (ixN gG gB gR gC mB mF mN)) (x.1.3 (ixN gG gB gR gC mB mF mN)) (x.1.4 (ixN gG gB gR gC mB mF mN)))).1.2 i176) (scq166 i176))), (fun i177 => (Cb (((stA gG gB gR gC mB mT mN x (x.1.2 (ixN gG gB gR gC mB mF mN)) (x.1.3 (ixN gG gB gR gC mB mF mN)) (x.1.4 (ixN gG gB gR gC mB mF mN)))).1.4 i177)))]), (Hr true Aq160 3 1 ((stA gG gB gR gC mB mT mN x (x.1.2 (ixN gG gB gR gC mB mF mN)) (x.1.3 (ixN gG gB gR gC mB mF mN)) (x.1.4 (ixN gG gB gR gC mB mF mN)))).2 Dq163 [(fun i178 => (Ci (((stA gG gB gR gC mB mT mN x (x.1.2 (ixN gG gB gR gC mB mF mN)) (x.1.3 (ixN gG gB gR gC mB mF mN)) (x.1.4 (ixN gG gB gR gC mB mF mN)))).3 i178)))]), (Hr true Hq161 3 1 ((stA gG gB gR gC mB mT mN x (x.1.2 (ixN gG gB gR gC mB mF mN)) (x.1.3 (ixN gG gB gR gC mB mF mN)) (x.1.4 (ixN gG gB gR gC mB mF mN)))).4 Ee164 [(fun i179 => (Ci (((stA gG gB gR gC mB mT mN x (x.1.2 (ixN gG gB gR gC mB mF mN)) (x.1.3 (ixN gG gB gR gC mB mF mN)) (x.1.4 (ixN gG gB gR gC mB mF mN)))).5 i179)))]), (Ho true (symRows true 3 ((stA gG gB gR gC mB mT mN x (x.1.2 (ixN gG gB gR gC mB mF mN)) (x.1.3 (ixN gG gB gR gC mB mF mN)) (x.1.4 (ixN gG gB gR gC mB mF mN)))).1 soq165 scq166))]))))))))))))))))))))))))))))))))))))))))) ∧
 ((!(arrOk gG gB gR gC (AD.mk y6 x.2 ag10 x.4 hg11))) = true →
 (b1 = b1 ∧
 (b2 = b2 ∧
 (∃ t180 : Nat, (∃ y181 : CD, (∃ so182 : (Nat →
 (Option Addr)), (∃ sc183 : (Nat →
 Nat), (∃ sd184 : (Nat →
 Nat), (∃ ag185 : (Nat →
 Int), (∃ hg186 : (Nat →
 Int), (((symRows false 0 x.1 so (fun x187 => 0)) = (symRows false t180 y181 so182 sd184) ∧
 ([(fun i188 => (Cs 3 (so i188) (x.1.2 i188) (sc i188))), (fun i189 => (Cb (x.1.4 i189)))] = [(fun i190 => (Cs 3 (so182 i190) (y181.2 i190) (sc183 i190))), (fun i191 => (Cb (y181.4 i191)))] ∧
 (O = O ∧
 (x.1.1 = x.1.1 ∧
 (x.1.1 = y181.1 ∧
 (A = A ∧
 (x.2 = x.2 ∧
 ([(fun i192 => (Ci (x.3 i192)))] = [(fun i193 => (Ci (ag185 i193)))] ∧
 (H = H ∧
 (x.4 = x.4 ∧
 [(fun i194 => (Ci (x.5 i194)))] = [(fun i195 => (Ci (hg186 i195)))])))))))))) ∧
 ((capA (AD.mk y181 x.2 ag185 x.4 hg186)) ∧
 (∀ Oq196 : (Option Addr),
 (∀ Aq197 : (Option Addr),
 (∀ Hq198 : (Option Addr),
 (∀ Cq199 : Nat,
 (∀ Dq200 : Nat,
 (∀ Ee201 : Nat,
 (∀ soq202 : (Nat →
 (Option Addr)),
 (∀ scq203 : (Nat →
 Nat),
 (True ∧
 (b3 = b3 ∧
 (True ∧
 (b4 = b4 ∧
 (True ∧
 (b3 = b3 ∧
 (b4 = b4 ∧
 (∃ Oq204 : (Option Addr), (∃ Aq205 : (Option Addr), (∃ Hq206 : (Option Addr), (∃ Cq207 : Nat, (∃ Dq208 : Nat, (∃ Ee209 : Nat, (∃ soq210 : (Nat →
 (Option Addr)), (∃ scq211 : (Nat →
 Nat), ((Wu [(Wa [(Ws Oq196 y181.1 Cq199), (Ws Aq197 x.2 Dq200), (Ws Hq198 x.4 Ee201)]), (Wa [(Wi mB), (Wi mF), (Wi mT), (Wi mN)]), (Wb false)]) = (Wu [(Wa [(Ws Oq204 ((stA gG gB gR gC mB mT mN x (x.1.2 (ixN gG gB gR gC mB mF mN)) (x.1.3 (ixN gG gB gR gC mB mF mN)) (x.1.4 (ixN gG gB gR gC mB mF mN)))).1.1 Cq207), (Ws Aq205 ((stA gG gB gR gC mB mT mN x (x.1.2 (ixN gG gB gR gC mB mF mN)) (x.1.3 (ixN gG gB gR gC mB mF mN)) (x.1.4 (ixN gG gB gR gC mB mF mN)))).2 Dq208), (Ws Hq206 ((stA gG gB gR gC mB mT mN x (x.1.2 (ixN gG gB gR gC mB mF mN)) (x.1.3 (ixN gG gB gR gC mB mF mN)) (x.1.4 (ixN gG gB gR gC mB mF mN)))).4 Ee209)]), (Wa [(Wi mB), (Wi mF), (Wi mT), (Wi (mN + (1 : Int)))]), (Wb true)]) ∧
 (SelS [(Hr false O 0 2 x.1.1 0 [(fun i212 => (Cs 3 (so i212) (x.1.2 i212) (sc i212))), (fun i213 => (Cb (x.1.4 i213)))]), (Hr false A 0 1 x.2 0 [(fun i214 => (Ci (x.3 i214)))]), (Hr false H 0 1 x.4 0 [(fun i215 => (Ci (x.5 i215)))]), (Ho false (symRows false 0 x.1 so (fun x216 => 0))), (Hc b0 37 [(Ci gG), (Ci gB), (Ci gR), (Ci gC)]), (Hc b1 33 [(Cs 0 O x.1.1 C), (Cs 1 A x.2 D), (Cs 2 H x.4 E)]), (Hc b2 34 [(Ci mB), (Ci mF), (Ci mT), (Ci mN)]), (Hc b3 33 [(Cs 9 Oq196 y181.1 Cq199), (Cs 10 Aq197 x.2 Dq200), (Cs 11 Hq198 x.4 Ee201)]), (Hc b4 34 [(Ci mB), (Ci mF), (Ci mT), (Ci mN)]), (Hr true Oq196 52 2 y181.1 Cq199 [(fun i217 => (Cs 12 (soq202 i217) (y181.2 i217) (scq203 i217))), (fun i218 => (Cb (y181.4 i218)))]), (Hr true Aq197 3 1 x.2 Dq200 [(fun i219 => (Ci (ag185 i219)))]), (Hr true Hq198 3 1 x.4 Ee201 [(fun i220 => (Ci (hg186 i220)))]), (Ho true (symRows true 3 y181 soq202 scq203))] [9, 10, 11, 12] [(Hr true Oq204 52 2 ((stA gG gB gR gC mB mT mN x (x.1.2 (ixN gG gB gR gC mB mF mN)) (x.1.3 (ixN gG gB gR gC mB mF mN)) (x.1.4 (ixN gG gB gR gC mB mF mN)))).1.1 Cq207 [(fun i221 => (Cs 3 (soq210 i221) (((stA gG gB gR gC mB mT mN x (x.1.2 (ixN gG gB gR gC mB mF mN)) (x.1.3 (ixN gG gB gR gC mB mF mN)) (x.1.4 (ixN gG gB gR gC mB mF mN)))).1.2 i221) (scq211 i221))), (fun i222 => (Cb (((stA gG gB gR gC mB mT mN x (x.1.2 (ixN gG gB gR gC mB mF mN)) (x.1.3 (ixN gG gB gR gC mB mF mN)) (x.1.4 (ixN gG gB gR gC mB mF mN)))).1.4 i222)))]), (Hr true Aq205 3 1 ((stA gG gB gR gC mB mT mN x (x.1.2 (ixN gG gB gR gC mB mF mN)) (x.1.3 (ixN gG gB gR gC mB mF mN)) (x.1.4 (ixN gG gB gR gC mB mF mN)))).2 Dq208 [(fun i223 => (Ci (((stA gG gB gR gC mB mT mN x (x.1.2 (ixN gG gB gR gC mB mF mN)) (x.1.3 (ixN gG gB gR gC mB mF mN)) (x.1.4 (ixN gG gB gR gC mB mF mN)))).3 i223)))]), (Hr true Hq206 3 1 ((stA gG gB gR gC mB mT mN x (x.1.2 (ixN gG gB gR gC mB mF mN)) (x.1.3 (ixN gG gB gR gC mB mF mN)) (x.1.4 (ixN gG gB gR gC mB mF mN)))).4 Ee209 [(fun i224 => (Ci (((stA gG gB gR gC mB mT mN x (x.1.2 (ixN gG gB gR gC mB mF mN)) (x.1.3 (ixN gG gB gR gC mB mF mN)) (x.1.4 (ixN gG gB gR gC mB mF mN)))).5 i224)))]), (Ho true (symRows true 3 ((stA gG gB gR gC mB mT mN x (x.1.2 (ixN gG gB gR gC mB mF mN)) (x.1.3 (ixN gG gB gR gC mB mF mN)) (x.1.4 (ixN gG gB gR gC mB mF mN)))).1 soq210 scq211))]))))))))))))))))))))))))))))))))))))))))))))))))))))))) := by kernel_rfl
theorem mstIY_any (x : AD) (O A H : Option Addr) (C D E : Nat) (so : Nat → Option Addr) (sc : Nat → Nat) (gG gB gR gC : Int) (mB mF mT mN : Int) (w : World) (hA : SeenA w x O A H so sc) (hcap : capA x) (hst : stepOk gG gB gR gC mB mF mT mN x = true) : Calls Try.prog 15 #[.agg #[.int .i64 gG, .int .i64 gB, .int .i64 gR, .int .i64 gC], arrV x O A H C D E, .agg #[.int .i64 mB, .int .i64 mF, .int .i64 mT, .int .i64 mN]] w fun e w' => ∃ (Oq Aq Hq : Option Addr) (Cq Dq Ee : Nat) (soq : Nat → Option Addr) (scq : Nat → Nat), e = .returned (.tuple #[arrV (stA gG gB gR gC mB mT mN x (x.c.sn (ixN gG gB gR gC mB mF mN)) (x.c.sy (ixN gG gB gR gC mB mF mN)) (x.c.po (ixN gG gB gR gC mB mF mN))) Oq Aq Hq Cq Dq Ee, .agg #[.int .i64 mB, .int .i64 mF, .int .i64 mT, .int .i64 (iadd mN 1)], .bool true]) ∧ HS ⟨w, fun _ => False⟩ (arrO 0 (stA gG gB gR gC mB mT mN x (x.c.sn (ixN gG gB gR gC mB mF mN)) (x.c.sy (ixN gG gB gR gC mB mF mN)) (x.c.po (ixN gG gB gR gC mB mF mN))) Oq Aq Hq Cq Dq Ee soq scq) w' := by
  refine fnB (tb := [(53, sCpA), (52, sArrOk), (41, sMvOk), (54, sLd), (55, sSt)]) (D := fun _ => [7, 8]) ⟨sCpA_I, sArrOk_I, sMvOk_I, sLd_ok, sSt_ok, trivial⟩ Try.func15 (@Eq.mpr _ _ (mstIY_T x O A H C D E so sc gG gB gR gC mB mF mT mN) ?_) (HS.seenAll (fun _ => False) _ (hA.all 0 seenC_nil)) (fun v ch' w' ⟨Oq, Aq, Hq, Cq, Dq, Ee, soq, scq, hv, hc⟩ hs => ⟨Oq, Aq, Hq, Cq, Dq, Ee, soq, scq, by rw [hv], hc.hs hs⟩)
  clear hA
  have hl := lenA_of hcap
  obtain ⟨hok, hmv, ⟨hne, heq⟩, hdf, hdt, hn⟩ := step_facts hst
  have hif := arr_in hok hdf
  have hit := arr_in hok hdt
  have i1 := hif.1
  have i2 := hif.2.1
  have i3 : ltN (tn (adIx gG gB gR gC mB mF mN)) x.c.n := hif.2.2
  have i4 := hit.1
  have i5 := hit.2.1
  have i6 : ltN (tn (adIx gG gB gR gC mB mT mN)) x.c.n := hit.2.2
  have hcp : capC (x.c.sn (adIx gG gB gR gC mB mF mN).toNat) := hcap.2.2.2 _ hif.2.2
  have hcp2 : capC (x.c.sn (ixN gG gB gR gC mB mF mN)) := hcp
  have heq2 : (mN == gC) = false := heq
  repeat' (first
    | with_reducible exact rfl
    | exact True.intro
    | with_reducible assumption
    | exact hl
    | exact hcap
    | (intro h; exfalso; rw [hok] at h; simp at h; done)
    | (intro h; exfalso; rw [hmv] at h; simp at h; done)
    | (intro h; exfalso; rw [heq2] at h; simp at h; done)
    | (refine ⟨_, _, _, _, _, ⟨rfl, rfl, rfl, ?_⟩, ?_⟩)
    | exact (by refine ⟨?_, rfl⟩; repeat' (first | exact True.intro | exact symRows_push | exact rfl | refine And.intro ?_ ?_ | (intro i hi; show _ = _; with_reducible rfl) | (intro i hi; show _ = _; rfl) | (intro i hi; show _ = _; simp only [SC.den]; split <;> rfl)))
    | refine And.intro ?_ ?_
    | apply Exists.intro
    | (intro h; exfalso; simp at h; done)
    | (intro h; replace h := of_decide_eq_true h; first | (exfalso; omega) | skip)
    | (intro h; replace h := of_decide_eq_false h; first | (exfalso; omega) | skip)
    | (intro i hi; with_reducible exact rfl)
    | intro _
    | omega
    | exact rfl)
theorem mstIN_T (x : AD) (O A H : Option Addr) (C D E : Nat) (so : Nat → Option Addr) (sc : Nat → Nat) (gG gB gR gC : Int) (mB mF mT mN : Int) : (exFn Try.prog {tb := [(53, sCpA), (52, sArrOk), (41, sMvOk), (54, sLd), (55, sSt)], D := fun _ => [7, 8]} 400 Try.f15 ([.a (.agg [.int gG, .int gB, .int gR, .int gC]), .a (arrS 0 x O A H C D E), .a (.agg [.int mB, .int mF, .int mT, .int mN])]) (arrR 0 x O A H so sc) (fun v ch => ∃ (Oq Aq Hq : Option Addr) (Cq Dq Ee : Nat) (soq : Nat → Option Addr) (scq : Nat → Nat), v.den = .tuple #[arrV (x) Oq Aq Hq Cq Dq Ee, .agg #[.int .i64 mB, .int .i64 mF, .int .i64 mT, .int .i64 mN], .bool false] ∧ SelS ch (idsArr v ch) (arrO 0 x Oq Aq Hq Cq Dq Ee soq scq))) = (
  (∀ b0 : Nat,
 (∀ b1 : Nat,
 (∀ b2 : Nat,
 (∀ b3 : Nat,
 (∀ b4 : Nat,
 (b0 = b0 ∧
 (b1 = b1 ∧
 (∃ t5 : Nat, (∃ y6 : CD, (∃ so7 : (Nat →
 (Option Addr)), (∃ sc8 : (Nat →
 Nat), (∃ sd9 : (Nat →
 Nat), (∃ ag10 : (Nat →
 Int), (∃ hg11 : (Nat →
 Int), (((symRows false 0 x.1 so (fun x12 => 0)) = (symRows false t5 y6 so7 sd9) ∧
 ([(fun i13 => (Cs 3 (so i13) (x.1.2 i13) (sc i13))), (fun i14 => (Cb (x.1.4 i14)))] = [(fun i15 => (Cs 3 (so7 i15) (y6.2 i15) (sc8 i15))), (fun i16 => (Cb (y6.4 i16)))] ∧
 (O = O ∧
 (x.1.1 = x.1.1 ∧
 (x.1.1 = y6.1 ∧
 (A = A ∧
 (x.2 = x.2 ∧
 ([(fun i17 => (Ci (x.3 i17)))] = [(fun i18 => (Ci (ag10 i18)))] ∧
 (H = H ∧
 (x.4 = x.4 ∧
 [(fun i19 => (Ci (x.5 i19)))] = [(fun i20 => (Ci (hg11 i20)))])))))))))) ∧
 ((lenA (AD.mk y6 x.2 ag10 x.4 hg11)) ∧
 (((!(arrOk gG gB gR gC (AD.mk y6 x.2 ag10 x.4 hg11))) = false →
 (b0 = b0 ∧
 (b2 = b2 ∧
 (((!(mvOk gG gB gR gC mB mF mT mN)) = false →
 (b2 = b2 ∧
 (b0 = b0 ∧
 (((mN == gC) = true →
 (b1 = b1 ∧
 (b2 = b2 ∧
 (∃ t21 : Nat, (∃ y22 : CD, (∃ so23 : (Nat →
 (Option Addr)), (∃ sc24 : (Nat →
 Nat), (∃ sd25 : (Nat →
 Nat), (∃ ag26 : (Nat →
 Int), (∃ hg27 : (Nat →
 Int), (((symRows false 0 x.1 so (fun x28 => 0)) = (symRows false t21 y22 so23 sd25) ∧
 ([(fun i29 => (Cs 3 (so i29) (x.1.2 i29) (sc i29))), (fun i30 => (Cb (x.1.4 i30)))] = [(fun i31 => (Cs 3 (so23 i31) (y22.2 i31) (sc24 i31))), (fun i32 => (Cb (y22.4 i32)))] ∧
 (O = O ∧
 (x.1.1 = x.1.1 ∧
 (x.1.1 = y22.1 ∧
 (A = A ∧
 (x.2 = x.2 ∧
 ([(fun i33 => (Ci (x.3 i33)))] = [(fun i34 => (Ci (ag26 i34)))] ∧
 (H = H ∧
 (x.4 = x.4 ∧
 [(fun i35 => (Ci (x.5 i35)))] = [(fun i36 => (Ci (hg27 i36)))])))))))))) ∧
 ((capA (AD.mk y22 x.2 ag26 x.4 hg27)) ∧
 (∀ Oq37 : (Option Addr),
 (∀ Aq38 : (Option Addr),
 (∀ Hq39 : (Option Addr),
 (∀ Cq40 : Nat,
 (∀ Dq41 : Nat,
 (∀ Ee42 : Nat,
 (∀ soq43 : (Nat →
 (Option Addr)),
 (∀ scq44 : (Nat →
 Nat),
 (True ∧
 (b3 = b3 ∧
 (True ∧
 (b4 = b4 ∧
 (True ∧
 (b3 = b3 ∧
 (b4 = b4 ∧
 (∃ Oq45 : (Option Addr), (∃ Aq46 : (Option Addr), (∃ Hq47 : (Option Addr), (∃ Cq48 : Nat, (∃ Dq49 : Nat, (∃ Ee50 : Nat, (∃ soq51 : (Nat →
 (Option Addr)), (∃ scq52 : (Nat →
 Nat), ((Wu [(Wa [(Ws Oq37 y22.1 Cq40), (Ws Aq38 x.2 Dq41), (Ws Hq39 x.4 Ee42)]), (Wa [(Wi mB), (Wi mF), (Wi mT), (Wi mN)]), (Wb false)]) = (Wu [(Wa [(Ws Oq45 x.1.1 Cq48), (Ws Aq46 x.2 Dq49), (Ws Hq47 x.4 Ee50)]), (Wa [(Wi mB), (Wi mF), (Wi mT), (Wi mN)]), (Wb false)]) ∧
 (SelS [(Hr false O 0 2 x.1.1 0 [(fun i53 => (Cs 3 (so i53) (x.1.2 i53) (sc i53))), (fun i54 => (Cb (x.1.4 i54)))]), (Hr false A 0 1 x.2 0 [(fun i55 => (Ci (x.3 i55)))]), (Hr false H 0 1 x.4 0 [(fun i56 => (Ci (x.5 i56)))]), (Ho false (symRows false 0 x.1 so (fun x57 => 0))), (Hc b0 37 [(Ci gG), (Ci gB), (Ci gR), (Ci gC)]), (Hc b1 33 [(Cs 0 O x.1.1 C), (Cs 1 A x.2 D), (Cs 2 H x.4 E)]), (Hc b2 34 [(Ci mB), (Ci mF), (Ci mT), (Ci mN)]), (Hc b3 33 [(Cs 9 Oq37 y22.1 Cq40), (Cs 10 Aq38 x.2 Dq41), (Cs 11 Hq39 x.4 Ee42)]), (Hc b4 34 [(Ci mB), (Ci mF), (Ci mT), (Ci mN)]), (Hr true Oq37 52 2 y22.1 Cq40 [(fun i58 => (Cs 12 (soq43 i58) (y22.2 i58) (scq44 i58))), (fun i59 => (Cb (y22.4 i59)))]), (Hr true Aq38 3 1 x.2 Dq41 [(fun i60 => (Ci (ag26 i60)))]), (Hr true Hq39 3 1 x.4 Ee42 [(fun i61 => (Ci (hg27 i61)))]), (Ho true (symRows true 3 y22 soq43 scq44))] [9, 10, 11, 12] [(Hr true Oq45 52 2 x.1.1 Cq48 [(fun i62 => (Cs 3 (soq51 i62) (x.1.2 i62) (scq52 i62))), (fun i63 => (Cb (x.1.4 i63)))]), (Hr true Aq46 3 1 x.2 Dq49 [(fun i64 => (Ci (x.3 i64)))]), (Hr true Hq47 3 1 x.4 Ee50 [(fun i65 => (Ci (x.5 i65)))]), (Ho true (symRows true 3 x.1 soq51 scq52))]))))))))))))))))))))))))))))))))))))) ∧
 ((mN == gC) = false →
 (b0 = b0 ∧
 (b1 = b1 ∧
 (b2 = b2 ∧
 (b2 = b2 ∧
 (b2 = b2 ∧
 (∃ t66 : Nat, (∃ y67 : CD, (∃ so68 : (Nat →
 (Option Addr)), (∃ sc69 : (Nat →
 Nat), (∃ sd70 : (Nat →
 Nat), (∃ ag71 : (Nat →
 Int), (∃ hg72 : (Nat →
 Int), (((symRows false 0 x.1 so (fun x73 => 0)) = (symRows false t66 y67 so68 sd70) ∧
 ([(fun i74 => (Cs 3 (so i74) (x.1.2 i74) (sc i74))), (fun i75 => (Cb (x.1.4 i75)))] = [(fun i76 => (Cs 3 (so68 i76) (y67.2 i76) (sc69 i76))), (fun i77 => (Cb (y67.4 i77)))] ∧
 (O = O ∧
 (x.1.1 = x.1.1 ∧
 (x.1.1 = y67.1 ∧
 (A = A ∧
 (x.2 = x.2 ∧
 ([(fun i78 => (Ci (x.3 i78)))] = [(fun i79 => (Ci (ag71 i79)))] ∧
 (H = H ∧
 (x.4 = x.4 ∧
 [(fun i80 => (Ci (x.5 i80)))] = [(fun i81 => (Ci (hg72 i81)))])))))))))) ∧
 (((capA (AD.mk y67 x.2 ag71 x.4 hg72)) ∧
 ((arrOk gG gB gR gC (AD.mk y67 x.2 ag71 x.4 hg72)) = true ∧
 (adOk gG gB gR gC mB mF mN) = true)) ∧
 (∀ ro82 : (Option Addr),
 (∀ rc83 : Nat,
 (∀ b84 : Nat,
 (b84 = b84 ∧
 (b0 = b0 ∧
 (b1 = b1 ∧
 (b2 = b2 ∧
 (b2 = b2 ∧
 (b2 = b2 ∧
 (b84 = b84 ∧
 (∃ t85 : Nat, (∃ y86 : CD, (∃ so87 : (Nat →
 (Option Addr)), (∃ sc88 : (Nat →
 Nat), (∃ sd89 : (Nat →
 Nat), (∃ ag90 : (Nat →
 Int), (∃ hg91 : (Nat →
 Int), (((symRows false 0 x.1 so (fun x92 => 0)) = (symRows false t85 y86 so87 sd89) ∧
 ([(fun i93 => (Cs 3 (so i93) (x.1.2 i93) (sc i93))), (fun i94 => (Cb (x.1.4 i94)))] = [(fun i95 => (Cs 3 (so87 i95) (y86.2 i95) (sc88 i95))), (fun i96 => (Cb (y86.4 i96)))] ∧
 (O = O ∧
 (x.1.1 = x.1.1 ∧
 (x.1.1 = y86.1 ∧
 (A = A ∧
 (x.2 = x.2 ∧
 ([(fun i97 => (Ci (x.3 i97)))] = [(fun i98 => (Ci (ag90 i98)))] ∧
 (H = H ∧
 (x.4 = x.4 ∧
 [(fun i99 => (Ci (x.5 i99)))] = [(fun i100 => (Ci (hg91 i100)))])))))))))) ∧
 (∃ g0101 : (Nat →
 Int), ((ro82 = ro82 ∧
 ((y67.2 (ixN gG gB gR gC mB mF mN)) = (y67.2 (ixN gG gB gR gC mB mF mN)) ∧
 [(fun i102 => (Ci (y67.3 (ixN gG gB gR gC mB mF mN) i102)))] = [(fun i103 => (Ci (g0101 i103)))])) ∧
 (((capA (AD.mk y86 x.2 ag90 x.4 hg91)) ∧
 (capC (y67.2 (ixN gG gB gR gC mB mF mN)))) ∧
 (∀ Oq104 : (Option Addr),
 (∀ Aq105 : (Option Addr),
 (∀ Hq106 : (Option Addr),
 (∀ Cq107 : Nat,
 (∀ Dq108 : Nat,
 (∀ Ee109 : Nat,
 (∀ soq110 : (Nat →
 (Option Addr)),
 (∀ scq111 : (Nat →
 Nat),
 (∀ b112 : Nat,
 (b112 = b112 ∧
 (b2 = b2 ∧
 ((rng (mN + (1 : Int))) ∧
 (b2 = b2 ∧
 (b112 = b112 ∧
 (b2 = b2 ∧
 (b3 = b3 ∧
 (True ∧
 (b4 = b4 ∧
 (True ∧
 (b3 = b3 ∧
 (b4 = b4 ∧
 (∃ Oq113 : (Option Addr), (∃ Aq114 : (Option Addr), (∃ Hq115 : (Option Addr), (∃ Cq116 : Nat, (∃ Dq117 : Nat, (∃ Ee118 : Nat, (∃ soq119 : (Nat →
 (Option Addr)), (∃ scq120 : (Nat →
 Nat), ((Wu [(Wa [(Ws Oq104 ((stA gG gB gR gC mB mT mN (AD.mk y86 x.2 ag90 x.4 hg91) (y67.2 (ixN gG gB gR gC mB mF mN)) g0101 (y67.4 (ixN gG gB gR gC mB mF mN)))).1.1 Cq107), (Ws Aq105 ((stA gG gB gR gC mB mT mN (AD.mk y86 x.2 ag90 x.4 hg91) (y67.2 (ixN gG gB gR gC mB mF mN)) g0101 (y67.4 (ixN gG gB gR gC mB mF mN)))).2 Dq108), (Ws Hq106 ((stA gG gB gR gC mB mT mN (AD.mk y86 x.2 ag90 x.4 hg91) (y67.2 (ixN gG gB gR gC mB mF mN)) g0101 (y67.4 (ixN gG gB gR gC mB mF mN)))).4 Ee109)]), (Wa [(Wi mB), (Wi mF), (Wi mT), (Wi (mN + (1 : Int)))]), (Wb true)]) = (Wu [(Wa [(Ws Oq113 x.1.1 Cq116), (Ws Aq114 x.2 Dq117), (Ws Hq115 x.4 Ee118)]), (Wa [(Wi mB), (Wi mF), (Wi mT), (Wi mN)]), (Wb false)]) ∧
 (SelS [(Hr false O 0 2 x.1.1 0 [(fun i121 => (Cs 3 (so i121) (x.1.2 i121) (sc i121))), (fun i122 => (Cb (x.1.4 i122)))]), (Hr false A 0 1 x.2 0 [(fun i123 => (Ci (x.3 i123)))]), (Hr false H 0 1 x.4 0 [(fun i124 => (Ci (x.5 i124)))]), (Ho false (symRows false 0 x.1 so (fun x125 => 0))), (Hc b0 37 [(Ci gG), (Ci gB), (Ci gR), (Ci gC)]), (Hc b1 33 [(Cs 0 O x.1.1 C), (Cs 1 A x.2 D), (Cs 2 H x.4 E)]), (Hc b2 34 [(Ci mB), (Ci mF), (Ci mT), (Ci (mN + (1 : Int)))]), (Hc b3 33 [(Cs 11 Oq104 ((stA gG gB gR gC mB mT mN (AD.mk y86 x.2 ag90 x.4 hg91) (y67.2 (ixN gG gB gR gC mB mF mN)) g0101 (y67.4 (ixN gG gB gR gC mB mF mN)))).1.1 Cq107), (Cs 12 Aq105 ((stA gG gB gR gC mB mT mN (AD.mk y86 x.2 ag90 x.4 hg91) (y67.2 (ixN gG gB gR gC mB mF mN)) g0101 (y67.4 (ixN gG gB gR gC mB mF mN)))).2 Dq108), (Cs 13 Hq106 ((stA gG gB gR gC mB mT mN (AD.mk y86 x.2 ag90 x.4 hg91) (y67.2 (ixN gG gB gR gC mB mF mN)) g0101 (y67.4 (ixN gG gB gR gC mB mF mN)))).4 Ee109)]), (Hc b4 34 [(Ci mB), (Ci mF), (Ci mT), (Ci (mN + (1 : Int)))]), (Hr true ro82 3 1 (y67.2 (ixN gG gB gR gC mB mF mN)) rc83 [(fun i126 => (Ci (y67.3 (ixN gG gB gR gC mB mF mN) i126)))]), (Hc b84 52 [(Cs 9 ro82 (y67.2 (ixN gG gB gR gC mB mF mN)) rc83), (Cb (y67.4 (ixN gG gB gR gC mB mF mN)))]), (Hr true Oq104 52 2 ((stA gG gB gR gC mB mT mN (AD.mk y86 x.2 ag90 x.4 hg91) (y67.2 (ixN gG gB gR gC mB mF mN)) g0101 (y67.4 (ixN gG gB gR gC mB mF mN)))).1.1 Cq107 [(fun i127 => (Cs 14 (soq110 i127) (((stA gG gB gR gC mB mT mN (AD.mk y86 x.2 ag90 x.4 hg91) (y67.2 (ixN gG gB gR gC mB mF mN)) g0101 (y67.4 (ixN gG gB gR gC mB mF mN)))).1.2 i127) (scq111 i127))), (fun i128 => (Cb (((stA gG gB gR gC mB mT mN (AD.mk y86 x.2 ag90 x.4 hg91) (y67.2 (ixN gG gB gR gC mB mF mN)) g0101 (y67.4 (ixN gG gB gR gC mB mF mN)))).1.4 i128)))]), (Hr true Aq105 3 1 ((stA gG gB gR gC mB mT mN (AD.mk y86 x.2 ag90 x.4 hg91) (y67.2 (ixN gG gB gR gC mB mF mN)) g0101 (y67.4 (ixN gG gB gR gC mB mF mN)))).2 Dq108 [(fun i129 => (Ci (((stA gG gB gR gC mB mT mN (AD.mk y86 x.2 ag90 x.4 hg91) (y67.2 (ixN gG gB gR gC mB mF mN)) g0101 (y67.4 (ixN gG gB gR gC mB mF mN)))).3 i129)))]), (Hr true Hq106 3 1 ((stA gG gB gR gC mB mT mN (AD.mk y86 x.2 ag90 x.4 hg91) (y67.2 (ixN gG gB gR gC mB mF mN)) g0101 (y67.4 (ixN gG gB gR gC mB mF mN)))).4 Ee109 [(fun i130 => (Ci (((stA gG gB gR gC mB mT mN (AD.mk y86 x.2 ag90 x.4 hg91) (y67.2 (ixN gG gB gR gC mB mF mN)) g0101 (y67.4 (ixN gG gB gR gC mB mF mN)))).5 i130)))]), (Ho true (symRows true 3 ((stA gG gB gR gC mB mT mN (AD.mk y86 x.2 ag90 x.4 hg91) (y67.2 (ixN gG gB gR gC mB mF mN)) g0101 (y67.4 (ixN gG gB gR gC mB mF mN)))).1 soq110 scq111)), (Hc b112 33 [(Cs 11 Oq104 ((stA gG gB gR gC mB mT mN (AD.mk y86 x.2 ag90 x.4 hg91) (y67.2 (ixN gG gB gR gC mB mF mN)) g0101 (y67.4 (ixN gG gB gR gC mB mF mN)))).1.1 Cq107), (Cs 12 Aq105 ((stA gG gB gR gC mB mT mN (AD.mk y86 x.2 ag90 x.4 hg91) (y67.2 (ixN gG gB gR gC mB mF mN)) g0101 (y67.4 (ixN gG gB gR gC mB mF mN)))).2 Dq108), (Cs 13 Hq106 ((stA gG gB gR gC mB mT mN (AD.mk y86 x.2 ag90 x.4 hg91) (y67.2 (ixN gG gB gR gC mB mF mN)) g0101 (y67.4 (ixN gG gB gR gC mB mF mN)))).4 Ee109)])] [11, 12, 13, 14] [(Hr true Oq113 52 2 x.1.1 Cq116 [(fun i131 => (Cs 3 (soq119 i131) (x.1.2 i131) (scq120 i131))), (fun i132 => (Cb (x.1.4 i132)))]), (Hr true Aq114 3 1 x.2 Dq117 [(fun i133 => (Ci (x.3 i133)))]), (Hr true Hq115 3 1 x.4 Ee118 [(fun i134 => (Ci (x.5 i134)))]), (Ho true (symRows true 3 x.1 soq119 scq120))]))))))))))))))))))))))))))))))))))))))))))))))))))))))))))))))))))))))) ∧
 ((!(mvOk gG gB gR gC mB mF mT mN)) = true →
 (b1 = b1 ∧
 (b2 = b2 ∧
 (∃ t135 : Nat, (∃ y136 : CD, (∃ so137 : (Nat →
 (Option Addr)), (∃ sc138 : (Nat →
 Nat), (∃ sd139 : (Nat →
 Nat), (∃ ag140 : (Nat →
 Int), (∃ hg141 : (Nat →
 Int), (((symRows false 0 x.1 so (fun x142 => 0)) = (symRows false t135 y136 so137 sd139) ∧
 ([(fun i143 => (Cs 3 (so i143) (x.1.2 i143) (sc i143))), (fun i144 => (Cb (x.1.4 i144)))] = [(fun i145 => (Cs 3 (so137 i145) (y136.2 i145) (sc138 i145))), (fun i146 => (Cb (y136.4 i146)))] ∧
 (O = O ∧
 (x.1.1 = x.1.1 ∧
 (x.1.1 = y136.1 ∧
 (A = A ∧
 (x.2 = x.2 ∧
 ([(fun i147 => (Ci (x.3 i147)))] = [(fun i148 => (Ci (ag140 i148)))] ∧
 (H = H ∧
 (x.4 = x.4 ∧
 [(fun i149 => (Ci (x.5 i149)))] = [(fun i150 => (Ci (hg141 i150)))])))))))))) ∧
 ((capA (AD.mk y136 x.2 ag140 x.4 hg141)) ∧
 (∀ Oq151 : (Option Addr),
 (∀ Aq152 : (Option Addr),
 (∀ Hq153 : (Option Addr),
 (∀ Cq154 : Nat,
 (∀ Dq155 : Nat,
 (∀ Ee156 : Nat,
 (∀ soq157 : (Nat →
 (Option Addr)),
 (∀ scq158 : (Nat →
 Nat),
 (True ∧
 (b3 = b3 ∧
 (True ∧
 (b4 = b4 ∧
 (True ∧
 (b3 = b3 ∧
 (b4 = b4 ∧
 (∃ Oq159 : (Option Addr), (∃ Aq160 : (Option Addr), (∃ Hq161 : (Option Addr), (∃ Cq162 : Nat, (∃ Dq163 : Nat, (∃ Ee164 : Nat, (∃ soq165 : (Nat →
 (Option Addr)), (∃ scq166 : (Nat →
 Nat), ((Wu [(Wa [(Ws Oq151 y136.1 Cq154), (Ws Aq152 x.2 Dq155), (Ws Hq153 x.4 Ee156)]), (Wa [(Wi mB), (Wi mF), (Wi mT), (Wi mN)]), (Wb false)]) = (Wu [(Wa [(Ws Oq159 x.1.1 Cq162), (Ws Aq160 x.2 Dq163), (Ws Hq161 x.4 Ee164)]), (Wa [(Wi mB), (Wi mF), (Wi mT), (Wi mN)]), (Wb false)]) ∧
 (SelS [(Hr false O 0 2 x.1.1 0 [(fun i167 => (Cs 3 (so i167) (x.1.2 i167) (sc i167))), (fun i168 => (Cb (x.1.4 i168)))]), (Hr false A 0 1 x.2 0 [(fun i169 => (Ci (x.3 i169)))]), (Hr false H 0 1 x.4 0 [(fun i170 => (Ci (x.5 i170)))]), (Ho false (symRows false 0 x.1 so (fun x171 => 0))), (Hc b0 37 [(Ci gG), (Ci gB), (Ci gR), (Ci gC)]), (Hc b1 33 [(Cs 0 O x.1.1 C), (Cs 1 A x.2 D), (Cs 2 H x.4 E)]), (Hc b2 34 [(Ci mB), (Ci mF), (Ci mT), (Ci mN)]), (Hc b3 33 [(Cs 9 Oq151 y136.1 Cq154), (Cs 10 Aq152 x.2 Dq155), (Cs 11 Hq153 x.4 Ee156)]), (Hc b4 34 [(Ci mB), (Ci mF), (Ci mT), (Ci mN)]), (Hr true Oq151 52 2 y136.1 Cq154 [(fun i172 => (Cs 12 (soq157 i172) (y136.2 i172) (scq158 i172))), (fun i173 => (Cb (y136.4 i173)))]), (Hr true Aq152 3 1 x.2 Dq155 [(fun i174 => (Ci (ag140 i174)))]), (Hr true Hq153 3 1 x.4 Ee156 [(fun i175 => (Ci (hg141 i175)))]), (Ho true (symRows true 3 y136 soq157 scq158))] [9, 10, 11, 12] [(Hr true Oq159 52 2 x.1.1 Cq162 [(fun i176 => (Cs 3 (soq165 i176) (x.1.2 i176) (scq166 i176))), (fun i177 => (Cb (x.1.4 i177)))]), (Hr true Aq160 3 1 x.2 Dq163 [(fun i178 => (Ci (x.3 i178)))]), (Hr true Hq161 3 1 x.4 Ee164 [(fun i179 => (Ci (x.5 i179)))]), (Ho true (symRows true 3 x.1 soq165 scq166))]))))))))))))))))))))))))))))))))))))))))) ∧
 ((!(arrOk gG gB gR gC (AD.mk y6 x.2 ag10 x.4 hg11))) = true →
 (b1 = b1 ∧
 (b2 = b2 ∧
 (∃ t180 : Nat, (∃ y181 : CD, (∃ so182 : (Nat →
 (Option Addr)), (∃ sc183 : (Nat →
 Nat), (∃ sd184 : (Nat →
 Nat), (∃ ag185 : (Nat →
 Int), (∃ hg186 : (Nat →
 Int), (((symRows false 0 x.1 so (fun x187 => 0)) = (symRows false t180 y181 so182 sd184) ∧
 ([(fun i188 => (Cs 3 (so i188) (x.1.2 i188) (sc i188))), (fun i189 => (Cb (x.1.4 i189)))] = [(fun i190 => (Cs 3 (so182 i190) (y181.2 i190) (sc183 i190))), (fun i191 => (Cb (y181.4 i191)))] ∧
 (O = O ∧
 (x.1.1 = x.1.1 ∧
 (x.1.1 = y181.1 ∧
 (A = A ∧
 (x.2 = x.2 ∧
 ([(fun i192 => (Ci (x.3 i192)))] = [(fun i193 => (Ci (ag185 i193)))] ∧
 (H = H ∧
 (x.4 = x.4 ∧
 [(fun i194 => (Ci (x.5 i194)))] = [(fun i195 => (Ci (hg186 i195)))])))))))))) ∧
 ((capA (AD.mk y181 x.2 ag185 x.4 hg186)) ∧
 (∀ Oq196 : (Option Addr),
 (∀ Aq197 : (Option Addr),
 (∀ Hq198 : (Option Addr),
 (∀ Cq199 : Nat,
 (∀ Dq200 : Nat,
 (∀ Ee201 : Nat,
 (∀ soq202 : (Nat →
 (Option Addr)),
 (∀ scq203 : (Nat →
 Nat),
 (True ∧
 (b3 = b3 ∧
 (True ∧
 (b4 = b4 ∧
 (True ∧
 (b3 = b3 ∧
 (b4 = b4 ∧
 (∃ Oq204 : (Option Addr), (∃ Aq205 : (Option Addr), (∃ Hq206 : (Option Addr), (∃ Cq207 : Nat, (∃ Dq208 : Nat, (∃ Ee209 : Nat, (∃ soq210 : (Nat →
 (Option Addr)), (∃ scq211 : (Nat →
 Nat), ((Wu [(Wa [(Ws Oq196 y181.1 Cq199), (Ws Aq197 x.2 Dq200), (Ws Hq198 x.4 Ee201)]), (Wa [(Wi mB), (Wi mF), (Wi mT), (Wi mN)]), (Wb false)]) = (Wu [(Wa [(Ws Oq204 x.1.1 Cq207), (Ws Aq205 x.2 Dq208), (Ws Hq206 x.4 Ee209)]), (Wa [(Wi mB), (Wi mF), (Wi mT), (Wi mN)]), (Wb false)]) ∧
 (SelS [(Hr false O 0 2 x.1.1 0 [(fun i212 => (Cs 3 (so i212) (x.1.2 i212) (sc i212))), (fun i213 => (Cb (x.1.4 i213)))]), (Hr false A 0 1 x.2 0 [(fun i214 => (Ci (x.3 i214)))]), (Hr false H 0 1 x.4 0 [(fun i215 => (Ci (x.5 i215)))]), (Ho false (symRows false 0 x.1 so (fun x216 => 0))), (Hc b0 37 [(Ci gG), (Ci gB), (Ci gR), (Ci gC)]), (Hc b1 33 [(Cs 0 O x.1.1 C), (Cs 1 A x.2 D), (Cs 2 H x.4 E)]), (Hc b2 34 [(Ci mB), (Ci mF), (Ci mT), (Ci mN)]), (Hc b3 33 [(Cs 9 Oq196 y181.1 Cq199), (Cs 10 Aq197 x.2 Dq200), (Cs 11 Hq198 x.4 Ee201)]), (Hc b4 34 [(Ci mB), (Ci mF), (Ci mT), (Ci mN)]), (Hr true Oq196 52 2 y181.1 Cq199 [(fun i217 => (Cs 12 (soq202 i217) (y181.2 i217) (scq203 i217))), (fun i218 => (Cb (y181.4 i218)))]), (Hr true Aq197 3 1 x.2 Dq200 [(fun i219 => (Ci (ag185 i219)))]), (Hr true Hq198 3 1 x.4 Ee201 [(fun i220 => (Ci (hg186 i220)))]), (Ho true (symRows true 3 y181 soq202 scq203))] [9, 10, 11, 12] [(Hr true Oq204 52 2 x.1.1 Cq207 [(fun i221 => (Cs 3 (soq210 i221) (x.1.2 i221) (scq211 i221))), (fun i222 => (Cb (x.1.4 i222)))]), (Hr true Aq205 3 1 x.2 Dq208 [(fun i223 => (Ci (x.3 i223)))]), (Hr true Hq206 3 1 x.4 Ee209 [(fun i224 => (Ci (x.5 i224)))]), (Ho true (symRows true 3 x.1 soq210 scq211))]))))))))))))))))))))))))))))))))))))))))))))))))))))))) := by kernel_rfl
theorem mstIN_any (x : AD) (O A H : Option Addr) (C D E : Nat) (so : Nat → Option Addr) (sc : Nat → Nat) (gG gB gR gC : Int) (mB mF mT mN : Int) (w : World) (hA : SeenA w x O A H so sc) (hcap : capA x) (hst : stepOk gG gB gR gC mB mF mT mN x = false) : Calls Try.prog 15 #[.agg #[.int .i64 gG, .int .i64 gB, .int .i64 gR, .int .i64 gC], arrV x O A H C D E, .agg #[.int .i64 mB, .int .i64 mF, .int .i64 mT, .int .i64 mN]] w fun e w' => ∃ (Oq Aq Hq : Option Addr) (Cq Dq Ee : Nat) (soq : Nat → Option Addr) (scq : Nat → Nat), e = .returned (.tuple #[arrV (x) Oq Aq Hq Cq Dq Ee, .agg #[.int .i64 mB, .int .i64 mF, .int .i64 mT, .int .i64 mN], .bool false]) ∧ HS ⟨w, fun _ => False⟩ (arrO 0 (x) Oq Aq Hq Cq Dq Ee soq scq) w' := by
  refine fnB (tb := [(53, sCpA), (52, sArrOk), (41, sMvOk), (54, sLd), (55, sSt)]) (D := fun _ => [7, 8]) ⟨sCpA_I, sArrOk_I, sMvOk_I, sLd_ok, sSt_ok, trivial⟩ Try.func15 (@Eq.mpr _ _ (mstIN_T x O A H C D E so sc gG gB gR gC mB mF mT mN) ?_) (HS.seenAll (fun _ => False) _ (hA.all 0 seenC_nil)) (fun v ch' w' ⟨Oq, Aq, Hq, Cq, Dq, Ee, soq, scq, hv, hc⟩ hs => ⟨Oq, Aq, Hq, Cq, Dq, Ee, soq, scq, by rw [hv], hc.hs hs⟩)
  clear hA
  have hl := lenA_of hcap
  cases hok : arrOk gG gB gR gC x
  · skip
    repeat' (first
      | with_reducible exact rfl
      | exact True.intro
      | with_reducible assumption
      | exact hl
      | exact hcap
      | (intro h; exfalso; rw [hok] at h; simp at h; done)
      | exact (by refine ⟨?_, rfl⟩; repeat' (first | exact True.intro | exact symRows_push | exact rfl | refine And.intro ?_ ?_ | (intro i hi; show _ = _; with_reducible rfl) | (intro i hi; show _ = _; rfl) | (intro i hi; show _ = _; simp only [SC.den]; split <;> rfl)))
      | refine And.intro ?_ ?_
      | apply Exists.intro
      | (intro h; exfalso; simp at h; done)
      | (intro h; replace h := of_decide_eq_true h; first | (exfalso; omega) | skip)
      | (intro h; replace h := of_decide_eq_false h; first | (exfalso; omega) | skip)
      | (intro i hi; with_reducible exact rfl)
      | intro _
      | omega
      | exact rfl)
  · cases hmv : mvOk gG gB gR gC mB mF mT mN
    · skip
      repeat' (first
        | with_reducible exact rfl
        | exact True.intro
        | with_reducible assumption
        | exact hl
        | exact hcap
        | (intro h; exfalso; rw [hok] at h; simp at h; done)
        | (intro h; exfalso; rw [hmv] at h; simp at h; done)
        | exact (by refine ⟨?_, rfl⟩; repeat' (first | exact True.intro | exact symRows_push | exact rfl | refine And.intro ?_ ?_ | (intro i hi; show _ = _; with_reducible rfl) | (intro i hi; show _ = _; rfl) | (intro i hi; show _ = _; simp only [SC.den]; split <;> rfl)))
        | refine And.intro ?_ ?_
        | apply Exists.intro
        | (intro h; exfalso; simp at h; done)
        | (intro h; replace h := of_decide_eq_true h; first | (exfalso; omega) | skip)
        | (intro h; replace h := of_decide_eq_false h; first | (exfalso; omega) | skip)
        | (intro i hi; with_reducible exact rfl)
        | intro _
        | omega
        | exact rfl)
    · have heq : (mN == gC) = true := by simpa [stepOk, hok, hmv, ine] using hst
      repeat' (first
        | with_reducible exact rfl
        | exact True.intro
        | with_reducible assumption
        | exact hl
        | exact hcap
        | (intro h; exfalso; rw [hok] at h; simp at h; done)
        | (intro h; exfalso; rw [hmv] at h; simp at h; done)
        | (intro h; exfalso; rw [heq] at h; simp at h; done)
        | exact (by refine ⟨?_, rfl⟩; repeat' (first | exact True.intro | exact symRows_push | exact rfl | refine And.intro ?_ ?_ | (intro i hi; show _ = _; with_reducible rfl) | (intro i hi; show _ = _; rfl) | (intro i hi; show _ = _; simp only [SC.den]; split <;> rfl)))
        | refine And.intro ?_ ?_
        | apply Exists.intro
        | (intro h; exfalso; simp at h; done)
        | (intro h; replace h := of_decide_eq_true h; first | (exfalso; omega) | skip)
        | (intro h; replace h := of_decide_eq_false h; first | (exfalso; omega) | skip)
        | (intro i hi; with_reducible exact rfl)
        | intro _
        | omega
        | exact rfl)
theorem mstI_any (x : AD) (O A H : Option Addr) (C D E : Nat) (so : Nat → Option Addr) (sc : Nat → Nat) (gG gB gR gC : Int) (mB mF mT mN : Int) (w : World) (hA : SeenA w x O A H so sc) (hcap : capA x) : Calls Try.prog 15 #[.agg #[.int .i64 gG, .int .i64 gB, .int .i64 gR, .int .i64 gC], arrV x O A H C D E, .agg #[.int .i64 mB, .int .i64 mF, .int .i64 mT, .int .i64 mN]] w fun e w' => ∃ (Oq Aq Hq : Option Addr) (Cq Dq Ee : Nat) (soq : Nat → Option Addr) (scq : Nat → Nat), e = .returned (.tuple #[arrV (stepA gG gB gR gC mB mF mT mN x) Oq Aq Hq Cq Dq Ee, .agg #[.int .i64 mB, .int .i64 mF, .int .i64 mT, .int .i64 (stepN gG gB gR gC mB mF mT mN x)], .bool (stepOk gG gB gR gC mB mF mT mN x)]) ∧ HS ⟨w, fun _ => False⟩ (arrO 0 (stepA gG gB gR gC mB mF mT mN x) Oq Aq Hq Cq Dq Ee soq scq) w' := by
  cases hst : stepOk gG gB gR gC mB mF mT mN x
  · have e : stepA gG gB gR gC mB mF mT mN x = x := by simp [stepA, hst]
    have e2 : stepN gG gB gR gC mB mF mT mN x = mN := by simp [stepN, hst]
    rw [e, e2]
    exact mstIN_any x O A H C D E so sc gG gB gR gC mB mF mT mN w hA hcap hst
  · have e : stepA gG gB gR gC mB mF mT mN x = stA gG gB gR gC mB mT mN x (x.c.sn (ixN gG gB gR gC mB mF mN)) (x.c.sy (ixN gG gB gR gC mB mF mN)) (x.c.po (ixN gG gB gR gC mB mF mN)) := by
      obtain ⟨hok, hmv, _, hdf, hdt, _⟩ := step_facts hst
      have hsy := (arrOk_facts hok).2.2.2.2 _ (arr_in hok hdf).2.2
      have hsy2 : symB (x.c.sn (ixN gG gB gR gC mB mF mN)) (x.c.sy (ixN gG gB gR gC mB mF mN)) 11 = true := hsy
      simp [stepA, hst, stA, stOk, hok, hdt, hsy2]
    have e2 : stepN gG gB gR gC mB mF mT mN x = iadd mN 1 := by simp [stepN, hst, iadd]
    rw [e, e2]
    exact mstIY_any x O A H C D E so sc gG gB gR gC mB mF mT mN w hA hcap hst
theorem mstSY_T (x : AD) (O A H : Option Addr) (C D E : Nat) (so : Nat → Option Addr) (sc : Nat → Nat) (gG gB gR gC : Int) (mB mF mT mN : Int) : (exFn Try.prog {tb := [(45, sCpA), (46, sArrOk), (47, sMvOk), (48, sAdIx), (49, sCpC)], D := fun _ => [7, 8]} 400 Try.f11 ([.a (.agg [.int gG, .int gB, .int gR, .int gC]), .a (arrS 0 x O A H C D E), .a (.agg [.int mB, .int mF, .int mT, .int mN])]) (arrR 0 x O A H so sc) (fun v ch => ∃ (Oq Aq Hq : Option Addr) (Cq Dq Ee : Nat) (soq : Nat → Option Addr) (scq : Nat → Nat) (ro : Option Addr) (rc : Nat), v.den = .tuple #[arrV (x) Oq Aq Hq Cq Dq Ee, .agg #[.int .i64 mB, .int .i64 mF, .int .i64 mT, .int .i64 (iadd mN 1)], .bool true] ∧ SelS ch (idsSt v ch) (storedCh x (ixN gG gB gR gC mB mT mN) (x.c.sn (ixN gG gB gR gC mB mF mN)) (x.c.sy (ixN gG gB gR gC mB mF mN)) (x.c.po (ixN gG gB gR gC mB mF mN)) Oq Aq Hq Cq Dq Ee soq scq ro rc))) = (
  (∀ b0 : Nat,
 (∀ b1 : Nat,
 (∀ b2 : Nat,
 (∀ b3 : Nat,
 (∀ b4 : Nat,
 (b1 = b1 ∧
 (∃ t5 : Nat, (∃ y6 : CD, (∃ so7 : (Nat →
 (Option Addr)), (∃ sc8 : (Nat →
 Nat), (∃ sd9 : (Nat →
 Nat), (∃ ag10 : (Nat →
 Int), (∃ hg11 : (Nat →
 Int), (((symRows false 0 x.1 so (fun x12 => 0)) = (symRows false t5 y6 so7 sd9) ∧
 ([(fun i13 => (Cs 3 (so i13) (x.1.2 i13) (sc i13))), (fun i14 => (Cb (x.1.4 i14)))] = [(fun i15 => (Cs 3 (so7 i15) (y6.2 i15) (sc8 i15))), (fun i16 => (Cb (y6.4 i16)))] ∧
 (O = O ∧
 (x.1.1 = x.1.1 ∧
 (x.1.1 = y6.1 ∧
 (A = A ∧
 (x.2 = x.2 ∧
 ([(fun i17 => (Ci (x.3 i17)))] = [(fun i18 => (Ci (ag10 i18)))] ∧
 (H = H ∧
 (x.4 = x.4 ∧
 [(fun i19 => (Ci (x.5 i19)))] = [(fun i20 => (Ci (hg11 i20)))])))))))))) ∧
 ((capA (AD.mk y6 x.2 ag10 x.4 hg11)) ∧
 (∀ Oq21 : (Option Addr),
 (∀ Aq22 : (Option Addr),
 (∀ Hq23 : (Option Addr),
 (∀ Cq24 : Nat,
 (∀ Dq25 : Nat,
 (∀ Ee26 : Nat,
 (∀ soq27 : (Nat →
 (Option Addr)),
 (∀ scq28 : (Nat →
 Nat),
 (∀ b29 : Nat,
 (b29 = b29 ∧
 (b0 = b0 ∧
 (b1 = b1 ∧
 (∃ t30 : Nat, (∃ y31 : CD, (∃ so32 : (Nat →
 (Option Addr)), (∃ sc33 : (Nat →
 Nat), (∃ sd34 : (Nat →
 Nat), (∃ ag35 : (Nat →
 Int), (∃ hg36 : (Nat →
 Int), (((symRows false 0 x.1 so (fun x37 => 0)) = (symRows false t30 y31 so32 sd34) ∧
 ([(fun i38 => (Cs 3 (so i38) (x.1.2 i38) (sc i38))), (fun i39 => (Cb (x.1.4 i39)))] = [(fun i40 => (Cs 3 (so32 i40) (y31.2 i40) (sc33 i40))), (fun i41 => (Cb (y31.4 i41)))] ∧
 (O = O ∧
 (x.1.1 = x.1.1 ∧
 (x.1.1 = y31.1 ∧
 (A = A ∧
 (x.2 = x.2 ∧
 ([(fun i42 => (Ci (x.3 i42)))] = [(fun i43 => (Ci (ag35 i43)))] ∧
 (H = H ∧
 (x.4 = x.4 ∧
 [(fun i44 => (Ci (x.5 i44)))] = [(fun i45 => (Ci (hg36 i45)))])))))))))) ∧
 ((lenA (AD.mk y31 x.2 ag35 x.4 hg36)) ∧
 (((!(arrOk gG gB gR gC (AD.mk y31 x.2 ag35 x.4 hg36))) = false →
 (b0 = b0 ∧
 (b2 = b2 ∧
 (((!(mvOk gG gB gR gC mB mF mT mN)) = false →
 (b2 = b2 ∧
 (b0 = b0 ∧
 (((mN == gC) = true →
 (b29 = b29 ∧
 (b2 = b2 ∧
 (b3 = b3 ∧
 (True ∧
 (b4 = b4 ∧
 (True ∧
 (b3 = b3 ∧
 (b4 = b4 ∧
 (∃ Oq46 : (Option Addr), (∃ Aq47 : (Option Addr), (∃ Hq48 : (Option Addr), (∃ Cq49 : Nat, (∃ Dq50 : Nat, (∃ Ee51 : Nat, (∃ soq52 : (Nat →
 (Option Addr)), (∃ scq53 : (Nat →
 Nat), (∃ ro54 : (Option Addr), (∃ rc55 : Nat, ((Wu [(Wa [(Ws Oq21 y6.1 Cq24), (Ws Aq22 x.2 Dq25), (Ws Hq23 x.4 Ee26)]), (Wa [(Wi mB), (Wi mF), (Wi mT), (Wi mN)]), (Wb false)]) = (Wu [(Wa [(Ws Oq46 x.1.1 Cq49), (Ws Aq47 x.2 Dq50), (Ws Hq48 x.4 Ee51)]), (Wa [(Wi mB), (Wi mF), (Wi mT), (Wi (mN + (1 : Int)))]), (Wb true)]) ∧
 (SelS [(Hr false O 0 2 x.1.1 0 [(fun i56 => (Cs 3 (so i56) (x.1.2 i56) (sc i56))), (fun i57 => (Cb (x.1.4 i57)))]), (Hr false A 0 1 x.2 0 [(fun i58 => (Ci (x.3 i58)))]), (Hr false H 0 1 x.4 0 [(fun i59 => (Ci (x.5 i59)))]), (Ho false (symRows false 0 x.1 so (fun x60 => 0))), (Hc b0 37 [(Ci gG), (Ci gB), (Ci gR), (Ci gC)]), (Hc b1 33 [(Cs 0 O x.1.1 C), (Cs 1 A x.2 D), (Cs 2 H x.4 E)]), (Hc b2 34 [(Ci mB), (Ci mF), (Ci mT), (Ci mN)]), (Hc b3 33 [(Cs 9 Oq21 y6.1 Cq24), (Cs 10 Aq22 x.2 Dq25), (Cs 11 Hq23 x.4 Ee26)]), (Hc b4 34 [(Ci mB), (Ci mF), (Ci mT), (Ci mN)]), (Hr true Oq21 52 2 y6.1 Cq24 [(fun i61 => (Cs 12 (soq27 i61) (y6.2 i61) (scq28 i61))), (fun i62 => (Cb (y6.4 i62)))]), (Hr true Aq22 3 1 x.2 Dq25 [(fun i63 => (Ci (ag10 i63)))]), (Hr true Hq23 3 1 x.4 Ee26 [(fun i64 => (Ci (hg11 i64)))]), (Ho true (symRows true 3 y6 soq27 scq28)), (Hc b29 33 [(Cs 9 Oq21 y6.1 Cq24), (Cs 10 Aq22 x.2 Dq25), (Cs 11 Hq23 x.4 Ee26)])] [9, 10, 11, 12, 13] [(Hr true Oq46 52 2 x.1.1 Cq49 [(fun i65 => (Cv (if i65 = (ixN gG gB gR gC mB mT mN) then (Ws ro54 (x.1.2 (ixN gG gB gR gC mB mF mN)) rc55) else (Ws (soq52 i65) (x.1.2 i65) (scq53 i65))))), (fun i66 => (Cb (if i66 = (ixN gG gB gR gC mB mT mN) then (x.1.4 (ixN gG gB gR gC mB mF mN)) else (x.1.4 i66))))]), (Hr true Aq47 3 1 x.2 Dq50 [(fun i67 => (Ci (x.3 i67)))]), (Hr true Hq48 3 1 x.4 Ee51 [(fun i68 => (Ci (x.5 i68)))]), (Ho true (symRows true 3 x.1 soq52 scq53)), (Hr true ro54 3 1 (x.1.2 (ixN gG gB gR gC mB mF mN)) rc55 [(fun i69 => (Ci (x.1.3 (ixN gG gB gR gC mB mF mN) i69)))])]))))))))))))))))))))) ∧
 ((mN == gC) = false →
 (b0 = b0 ∧
 (b2 = b2 ∧
 (b2 = b2 ∧
 (b2 = b2 ∧
 (b0 = b0 ∧
 (b2 = b2 ∧
 (b2 = b2 ∧
 (b2 = b2 ∧
 (b29 = b29 ∧
 (b29 = b29 ∧
 (Oq21 = Oq21 ∧
 (y6.1 = y6.1 ∧
 ((0 ≤ (adIx gG gB gR gC mB mF mN) ∧ (adIx gG gB gR gC mB mF mN) < ((y6.1 : Nat) : Int)) ∧
 (Oq21 = Oq21 ∧
 ((Int.toNat (adIx gG gB gR gC mB mF mN)) < y6.1 ∧
 (∃ t70 : Nat, (∃ y71 : CD, (∃ so72 : (Nat →
 (Option Addr)), (∃ sc73 : (Nat →
 Nat), (∃ i74 : Nat, (((symRows true 3 y6 soq27 scq28) = (symRows true t70 y71 so72 sc73) ∧
 ((soq27 (Int.toNat (adIx gG gB gR gC mB mF mN))) = (so72 i74) ∧
 ((y6.2 (Int.toNat (adIx gG gB gR gC mB mF mN))) = (y71.2 i74) ∧
 i74 < y71.1))) ∧
 ((capC (y6.2 (Int.toNat (adIx gG gB gR gC mB mF mN)))) ∧
 (∀ ro75 : (Option Addr),
 (∀ rc76 : Nat,
 (True ∧
 (Oq21 = Oq21 ∧
 (y6.1 = y6.1 ∧
 ((0 ≤ (adIx gG gB gR gC mB mT mN) ∧ (adIx gG gB gR gC mB mT mN) < ((y6.1 : Nat) : Int)) ∧
 (Oq21 = Oq21 ∧
 ((Int.toNat (adIx gG gB gR gC mB mT mN)) < y6.1 ∧
 (True ∧
 (b2 = b2 ∧
 ((rng (mN + (1 : Int))) ∧
 (b2 = b2 ∧
 (b29 = b29 ∧
 (b2 = b2 ∧
 (b3 = b3 ∧
 (True ∧
 (b4 = b4 ∧
 (True ∧
 (b3 = b3 ∧
 (b4 = b4 ∧
 (∃ Oq77 : (Option Addr), (∃ Aq78 : (Option Addr), (∃ Hq79 : (Option Addr), (∃ Cq80 : Nat, (∃ Dq81 : Nat, (∃ Ee82 : Nat, (∃ soq83 : (Nat →
 (Option Addr)), (∃ scq84 : (Nat →
 Nat), (∃ ro85 : (Option Addr), (∃ rc86 : Nat, ((Wu [(Wa [(Ws Oq21 y6.1 Cq24), (Ws Aq22 x.2 Dq25), (Ws Hq23 x.4 Ee26)]), (Wa [(Wi mB), (Wi mF), (Wi mT), (Wi (mN + (1 : Int)))]), (Wb true)]) = (Wu [(Wa [(Ws Oq77 x.1.1 Cq80), (Ws Aq78 x.2 Dq81), (Ws Hq79 x.4 Ee82)]), (Wa [(Wi mB), (Wi mF), (Wi mT), (Wi (mN + (1 : Int)))]), (Wb true)]) ∧
 (SelS [(Hr false O 0 2 x.1.1 0 [(fun i87 => (Cs 3 (so i87) (x.1.2 i87) (sc i87))), (fun i88 => (Cb (x.1.4 i88)))]), (Hr false A 0 1 x.2 0 [(fun i89 => (Ci (x.3 i89)))]), (Hr false H 0 1 x.4 0 [(fun i90 => (Ci (x.5 i90)))]), (Ho false (symRows false 0 x.1 so (fun x91 => 0))), (Hc b0 37 [(Ci gG), (Ci gB), (Ci gR), (Ci gC)]), (Hc b1 33 [(Cs 0 O x.1.1 C), (Cs 1 A x.2 D), (Cs 2 H x.4 E)]), (Hc b2 34 [(Ci mB), (Ci mF), (Ci mT), (Ci (mN + (1 : Int)))]), (Hc b3 33 [(Cs 9 Oq21 y6.1 Cq24), (Cs 10 Aq22 x.2 Dq25), (Cs 11 Hq23 x.4 Ee26)]), (Hc b4 34 [(Ci mB), (Ci mF), (Ci mT), (Ci (mN + (1 : Int)))]), (Hr true Oq21 52 2 y6.1 Cq24 [(fun j92 => (Cv (if j92 = (Int.toNat (adIx gG gB gR gC mB mT mN)) then (Ws ro75 (y6.2 (Int.toNat (adIx gG gB gR gC mB mF mN))) rc76) else (Ws (soq27 j92) (y6.2 j92) (scq28 j92))))), (fun j93 => (Cb (if j93 = (Int.toNat (adIx gG gB gR gC mB mT mN)) then (y6.4 (Int.toNat (adIx gG gB gR gC mB mF mN))) else (y6.4 j93))))]), (Hr true Aq22 3 1 x.2 Dq25 [(fun i94 => (Ci (ag10 i94)))]), (Hr true Hq23 3 1 x.4 Ee26 [(fun i95 => (Ci (hg11 i95)))]), (Ho true (symRows true 3 y6 soq27 scq28)), (Hc b29 33 [(Cs 9 Oq21 y6.1 Cq24), (Cs 10 Aq22 x.2 Dq25), (Cs 11 Hq23 x.4 Ee26)]), (Hr true ro75 3 1 (y6.2 (Int.toNat (adIx gG gB gR gC mB mF mN))) rc76 [(fun i96 => (Ci (y71.3 i74 i96)))])] [9, 10, 11, 12, 14] [(Hr true Oq77 52 2 x.1.1 Cq80 [(fun i97 => (Cv (if i97 = (ixN gG gB gR gC mB mT mN) then (Ws ro85 (x.1.2 (ixN gG gB gR gC mB mF mN)) rc86) else (Ws (soq83 i97) (x.1.2 i97) (scq84 i97))))), (fun i98 => (Cb (if i98 = (ixN gG gB gR gC mB mT mN) then (x.1.4 (ixN gG gB gR gC mB mF mN)) else (x.1.4 i98))))]), (Hr true Aq78 3 1 x.2 Dq81 [(fun i99 => (Ci (x.3 i99)))]), (Hr true Hq79 3 1 x.4 Ee82 [(fun i100 => (Ci (x.5 i100)))]), (Ho true (symRows true 3 x.1 soq83 scq84)), (Hr true ro85 3 1 (x.1.2 (ixN gG gB gR gC mB mF mN)) rc86 [(fun i101 => (Ci (x.1.3 (ixN gG gB gR gC mB mF mN) i101)))])]))))))))))))))))))))))))))))))))))))))))))))))))))))))))))) ∧
 ((!(mvOk gG gB gR gC mB mF mT mN)) = true →
 (b29 = b29 ∧
 (b2 = b2 ∧
 (b3 = b3 ∧
 (True ∧
 (b4 = b4 ∧
 (True ∧
 (b3 = b3 ∧
 (b4 = b4 ∧
 (∃ Oq102 : (Option Addr), (∃ Aq103 : (Option Addr), (∃ Hq104 : (Option Addr), (∃ Cq105 : Nat, (∃ Dq106 : Nat, (∃ Ee107 : Nat, (∃ soq108 : (Nat →
 (Option Addr)), (∃ scq109 : (Nat →
 Nat), (∃ ro110 : (Option Addr), (∃ rc111 : Nat, ((Wu [(Wa [(Ws Oq21 y6.1 Cq24), (Ws Aq22 x.2 Dq25), (Ws Hq23 x.4 Ee26)]), (Wa [(Wi mB), (Wi mF), (Wi mT), (Wi mN)]), (Wb false)]) = (Wu [(Wa [(Ws Oq102 x.1.1 Cq105), (Ws Aq103 x.2 Dq106), (Ws Hq104 x.4 Ee107)]), (Wa [(Wi mB), (Wi mF), (Wi mT), (Wi (mN + (1 : Int)))]), (Wb true)]) ∧
 (SelS [(Hr false O 0 2 x.1.1 0 [(fun i112 => (Cs 3 (so i112) (x.1.2 i112) (sc i112))), (fun i113 => (Cb (x.1.4 i113)))]), (Hr false A 0 1 x.2 0 [(fun i114 => (Ci (x.3 i114)))]), (Hr false H 0 1 x.4 0 [(fun i115 => (Ci (x.5 i115)))]), (Ho false (symRows false 0 x.1 so (fun x116 => 0))), (Hc b0 37 [(Ci gG), (Ci gB), (Ci gR), (Ci gC)]), (Hc b1 33 [(Cs 0 O x.1.1 C), (Cs 1 A x.2 D), (Cs 2 H x.4 E)]), (Hc b2 34 [(Ci mB), (Ci mF), (Ci mT), (Ci mN)]), (Hc b3 33 [(Cs 9 Oq21 y6.1 Cq24), (Cs 10 Aq22 x.2 Dq25), (Cs 11 Hq23 x.4 Ee26)]), (Hc b4 34 [(Ci mB), (Ci mF), (Ci mT), (Ci mN)]), (Hr true Oq21 52 2 y6.1 Cq24 [(fun i117 => (Cs 12 (soq27 i117) (y6.2 i117) (scq28 i117))), (fun i118 => (Cb (y6.4 i118)))]), (Hr true Aq22 3 1 x.2 Dq25 [(fun i119 => (Ci (ag10 i119)))]), (Hr true Hq23 3 1 x.4 Ee26 [(fun i120 => (Ci (hg11 i120)))]), (Ho true (symRows true 3 y6 soq27 scq28)), (Hc b29 33 [(Cs 9 Oq21 y6.1 Cq24), (Cs 10 Aq22 x.2 Dq25), (Cs 11 Hq23 x.4 Ee26)])] [9, 10, 11, 12, 13] [(Hr true Oq102 52 2 x.1.1 Cq105 [(fun i121 => (Cv (if i121 = (ixN gG gB gR gC mB mT mN) then (Ws ro110 (x.1.2 (ixN gG gB gR gC mB mF mN)) rc111) else (Ws (soq108 i121) (x.1.2 i121) (scq109 i121))))), (fun i122 => (Cb (if i122 = (ixN gG gB gR gC mB mT mN) then (x.1.4 (ixN gG gB gR gC mB mF mN)) else (x.1.4 i122))))]), (Hr true Aq103 3 1 x.2 Dq106 [(fun i123 => (Ci (x.3 i123)))]), (Hr true Hq104 3 1 x.4 Ee107 [(fun i124 => (Ci (x.5 i124)))]), (Ho true (symRows true 3 x.1 soq108 scq109)), (Hr true ro110 3 1 (x.1.2 (ixN gG gB gR gC mB mF mN)) rc111 [(fun i125 => (Ci (x.1.3 (ixN gG gB gR gC mB mF mN) i125)))])]))))))))))))))))))))))))) ∧
 ((!(arrOk gG gB gR gC (AD.mk y31 x.2 ag35 x.4 hg36))) = true →
 (b29 = b29 ∧
 (b2 = b2 ∧
 (b3 = b3 ∧
 (True ∧
 (b4 = b4 ∧
 (True ∧
 (b3 = b3 ∧
 (b4 = b4 ∧
 (∃ Oq126 : (Option Addr), (∃ Aq127 : (Option Addr), (∃ Hq128 : (Option Addr), (∃ Cq129 : Nat, (∃ Dq130 : Nat, (∃ Ee131 : Nat, (∃ soq132 : (Nat →
 (Option Addr)), (∃ scq133 : (Nat →
 Nat), (∃ ro134 : (Option Addr), (∃ rc135 : Nat, ((Wu [(Wa [(Ws Oq21 y6.1 Cq24), (Ws Aq22 x.2 Dq25), (Ws Hq23 x.4 Ee26)]), (Wa [(Wi mB), (Wi mF), (Wi mT), (Wi mN)]), (Wb false)]) = (Wu [(Wa [(Ws Oq126 x.1.1 Cq129), (Ws Aq127 x.2 Dq130), (Ws Hq128 x.4 Ee131)]), (Wa [(Wi mB), (Wi mF), (Wi mT), (Wi (mN + (1 : Int)))]), (Wb true)]) ∧
 (SelS [(Hr false O 0 2 x.1.1 0 [(fun i136 => (Cs 3 (so i136) (x.1.2 i136) (sc i136))), (fun i137 => (Cb (x.1.4 i137)))]), (Hr false A 0 1 x.2 0 [(fun i138 => (Ci (x.3 i138)))]), (Hr false H 0 1 x.4 0 [(fun i139 => (Ci (x.5 i139)))]), (Ho false (symRows false 0 x.1 so (fun x140 => 0))), (Hc b0 37 [(Ci gG), (Ci gB), (Ci gR), (Ci gC)]), (Hc b1 33 [(Cs 0 O x.1.1 C), (Cs 1 A x.2 D), (Cs 2 H x.4 E)]), (Hc b2 34 [(Ci mB), (Ci mF), (Ci mT), (Ci mN)]), (Hc b3 33 [(Cs 9 Oq21 y6.1 Cq24), (Cs 10 Aq22 x.2 Dq25), (Cs 11 Hq23 x.4 Ee26)]), (Hc b4 34 [(Ci mB), (Ci mF), (Ci mT), (Ci mN)]), (Hr true Oq21 52 2 y6.1 Cq24 [(fun i141 => (Cs 12 (soq27 i141) (y6.2 i141) (scq28 i141))), (fun i142 => (Cb (y6.4 i142)))]), (Hr true Aq22 3 1 x.2 Dq25 [(fun i143 => (Ci (ag10 i143)))]), (Hr true Hq23 3 1 x.4 Ee26 [(fun i144 => (Ci (hg11 i144)))]), (Ho true (symRows true 3 y6 soq27 scq28)), (Hc b29 33 [(Cs 9 Oq21 y6.1 Cq24), (Cs 10 Aq22 x.2 Dq25), (Cs 11 Hq23 x.4 Ee26)])] [9, 10, 11, 12, 13] [(Hr true Oq126 52 2 x.1.1 Cq129 [(fun i145 => (Cv (if i145 = (ixN gG gB gR gC mB mT mN) then (Ws ro134 (x.1.2 (ixN gG gB gR gC mB mF mN)) rc135) else (Ws (soq132 i145) (x.1.2 i145) (scq133 i145))))), (fun i146 => (Cb (if i146 = (ixN gG gB gR gC mB mT mN) then (x.1.4 (ixN gG gB gR gC mB mF mN)) else (x.1.4 i146))))]), (Hr true Aq127 3 1 x.2 Dq130 [(fun i147 => (Ci (x.3 i147)))]), (Hr true Hq128 3 1 x.4 Ee131 [(fun i148 => (Ci (x.5 i148)))]), (Ho true (symRows true 3 x.1 soq132 scq133)), (Hr true ro134 3 1 (x.1.2 (ixN gG gB gR gC mB mF mN)) rc135 [(fun i149 => (Ci (x.1.3 (ixN gG gB gR gC mB mF mN) i149)))])]))))))))))))))))))))))))))))))))))))))))))))))))))))))))))) := by kernel_rfl
theorem mstSY_any (x : AD) (O A H : Option Addr) (C D E : Nat) (so : Nat → Option Addr) (sc : Nat → Nat) (gG gB gR gC : Int) (mB mF mT mN : Int) (w : World) (hA : SeenA w x O A H so sc) (hcap : capA x) (hst : stepOk gG gB gR gC mB mF mT mN x = true) : Calls Try.prog 11 #[.agg #[.int .i64 gG, .int .i64 gB, .int .i64 gR, .int .i64 gC], arrV x O A H C D E, .agg #[.int .i64 mB, .int .i64 mF, .int .i64 mT, .int .i64 mN]] w fun e w' => ∃ (Oq Aq Hq : Option Addr) (Cq Dq Ee : Nat) (soq : Nat → Option Addr) (scq : Nat → Nat), e = .returned (.tuple #[arrV (setA x (ixN gG gB gR gC mB mT mN) (x.c.sn (ixN gG gB gR gC mB mF mN)) (x.c.sy (ixN gG gB gR gC mB mF mN)) (x.c.po (ixN gG gB gR gC mB mF mN))) Oq Aq Hq Cq Dq Ee, .agg #[.int .i64 mB, .int .i64 mF, .int .i64 mT, .int .i64 (iadd mN 1)], .bool true]) ∧ HS ⟨w, fun _ => False⟩ (arrO 0 (setA x (ixN gG gB gR gC mB mT mN) (x.c.sn (ixN gG gB gR gC mB mF mN)) (x.c.sy (ixN gG gB gR gC mB mF mN)) (x.c.po (ixN gG gB gR gC mB mF mN))) Oq Aq Hq Cq Dq Ee soq scq) w' := by
  refine fnB (tb := [(45, sCpA), (46, sArrOk), (47, sMvOk), (48, sAdIx), (49, sCpC)]) (D := fun _ => [7, 8]) ⟨sCpA_S, sArrOk_S, sMvOk_S, sAdIx_S, sCpC_S, trivial⟩ Try.func11 (@Eq.mpr _ _ (mstSY_T x O A H C D E so sc gG gB gR gC mB mF mT mN) ?_) (HS.seenAll (fun _ => False) _ (hA.all 0 seenC_nil)) (fun v ch' w' ⟨Oq, Aq, Hq, Cq, Dq, Ee, soq, scq, ro, rc, hv, hc⟩ hs => ⟨Oq, Aq, Hq, Cq, Dq, Ee, _, _, by rw [hv]; rfl, (hc.hs hs).stored⟩)
  clear hA
  have hl := lenA_of hcap
  obtain ⟨hok, hmv, ⟨hne, heq⟩, hdf, hdt, hn⟩ := step_facts hst
  have hif := arr_in hok hdf
  have hit := arr_in hok hdt
  have i1 := hif.1
  have i2 := hif.2.1
  have i3 : ltN (tn (adIx gG gB gR gC mB mF mN)) x.c.n := hif.2.2
  have i4 := hit.1
  have i5 := hit.2.1
  have i6 : ltN (tn (adIx gG gB gR gC mB mT mN)) x.c.n := hit.2.2
  have hcp : capC (x.c.sn (adIx gG gB gR gC mB mF mN).toNat) := hcap.2.2.2 _ hif.2.2
  have hcp2 : capC (x.c.sn (ixN gG gB gR gC mB mF mN)) := hcp
  have heq2 : (mN == gC) = false := heq
  repeat' (first
    | with_reducible exact rfl
    | exact True.intro
    | with_reducible assumption
    | exact hl
    | exact hcap
    | (intro h; exfalso; rw [hok] at h; simp at h; done)
    | (intro h; exfalso; rw [hmv] at h; simp at h; done)
    | (intro h; exfalso; rw [heq2] at h; simp at h; done)
    | (refine ⟨_, _, _, _, _, ⟨rfl, rfl, rfl, ?_⟩, ?_⟩)
    | exact (by refine ⟨?_, rfl⟩; repeat' (first | exact True.intro | exact symRows_push | exact rfl | refine And.intro ?_ ?_ | (intro i hi; show _ = _; with_reducible rfl) | (intro i hi; show _ = _; rfl) | (intro i hi; show _ = _; simp only [SC.den]; split <;> rfl)))
    | refine And.intro ?_ ?_
    | apply Exists.intro
    | (intro h; exfalso; simp at h; done)
    | (intro h; replace h := of_decide_eq_true h; first | (exfalso; omega) | skip)
    | (intro h; replace h := of_decide_eq_false h; first | (exfalso; omega) | skip)
    | (intro i hi; with_reducible exact rfl)
    | intro _
    | omega
    | exact rfl)
theorem mstSN_T (x : AD) (O A H : Option Addr) (C D E : Nat) (so : Nat → Option Addr) (sc : Nat → Nat) (gG gB gR gC : Int) (mB mF mT mN : Int) : (exFn Try.prog {tb := [(45, sCpA), (46, sArrOk), (47, sMvOk), (48, sAdIx), (49, sCpC)], D := fun _ => [7, 8]} 400 Try.f11 ([.a (.agg [.int gG, .int gB, .int gR, .int gC]), .a (arrS 0 x O A H C D E), .a (.agg [.int mB, .int mF, .int mT, .int mN])]) (arrR 0 x O A H so sc) (fun v ch => ∃ (Oq Aq Hq : Option Addr) (Cq Dq Ee : Nat) (soq : Nat → Option Addr) (scq : Nat → Nat), v.den = .tuple #[arrV (x) Oq Aq Hq Cq Dq Ee, .agg #[.int .i64 mB, .int .i64 mF, .int .i64 mT, .int .i64 mN], .bool false] ∧ SelS ch (idsArr v ch) (arrO 0 x Oq Aq Hq Cq Dq Ee soq scq))) = (
  (∀ b0 : Nat,
 (∀ b1 : Nat,
 (∀ b2 : Nat,
 (∀ b3 : Nat,
 (∀ b4 : Nat,
 (b1 = b1 ∧
 (∃ t5 : Nat, (∃ y6 : CD, (∃ so7 : (Nat →
 (Option Addr)), (∃ sc8 : (Nat →
 Nat), (∃ sd9 : (Nat →
 Nat), (∃ ag10 : (Nat →
 Int), (∃ hg11 : (Nat →
 Int), (((symRows false 0 x.1 so (fun x12 => 0)) = (symRows false t5 y6 so7 sd9) ∧
 ([(fun i13 => (Cs 3 (so i13) (x.1.2 i13) (sc i13))), (fun i14 => (Cb (x.1.4 i14)))] = [(fun i15 => (Cs 3 (so7 i15) (y6.2 i15) (sc8 i15))), (fun i16 => (Cb (y6.4 i16)))] ∧
 (O = O ∧
 (x.1.1 = x.1.1 ∧
 (x.1.1 = y6.1 ∧
 (A = A ∧
 (x.2 = x.2 ∧
 ([(fun i17 => (Ci (x.3 i17)))] = [(fun i18 => (Ci (ag10 i18)))] ∧
 (H = H ∧
 (x.4 = x.4 ∧
 [(fun i19 => (Ci (x.5 i19)))] = [(fun i20 => (Ci (hg11 i20)))])))))))))) ∧
 ((capA (AD.mk y6 x.2 ag10 x.4 hg11)) ∧
 (∀ Oq21 : (Option Addr),
 (∀ Aq22 : (Option Addr),
 (∀ Hq23 : (Option Addr),
 (∀ Cq24 : Nat,
 (∀ Dq25 : Nat,
 (∀ Ee26 : Nat,
 (∀ soq27 : (Nat →
 (Option Addr)),
 (∀ scq28 : (Nat →
 Nat),
 (∀ b29 : Nat,
 (b29 = b29 ∧
 (b0 = b0 ∧
 (b1 = b1 ∧
 (∃ t30 : Nat, (∃ y31 : CD, (∃ so32 : (Nat →
 (Option Addr)), (∃ sc33 : (Nat →
 Nat), (∃ sd34 : (Nat →
 Nat), (∃ ag35 : (Nat →
 Int), (∃ hg36 : (Nat →
 Int), (((symRows false 0 x.1 so (fun x37 => 0)) = (symRows false t30 y31 so32 sd34) ∧
 ([(fun i38 => (Cs 3 (so i38) (x.1.2 i38) (sc i38))), (fun i39 => (Cb (x.1.4 i39)))] = [(fun i40 => (Cs 3 (so32 i40) (y31.2 i40) (sc33 i40))), (fun i41 => (Cb (y31.4 i41)))] ∧
 (O = O ∧
 (x.1.1 = x.1.1 ∧
 (x.1.1 = y31.1 ∧
 (A = A ∧
 (x.2 = x.2 ∧
 ([(fun i42 => (Ci (x.3 i42)))] = [(fun i43 => (Ci (ag35 i43)))] ∧
 (H = H ∧
 (x.4 = x.4 ∧
 [(fun i44 => (Ci (x.5 i44)))] = [(fun i45 => (Ci (hg36 i45)))])))))))))) ∧
 ((lenA (AD.mk y31 x.2 ag35 x.4 hg36)) ∧
 (((!(arrOk gG gB gR gC (AD.mk y31 x.2 ag35 x.4 hg36))) = false →
 (b0 = b0 ∧
 (b2 = b2 ∧
 (((!(mvOk gG gB gR gC mB mF mT mN)) = false →
 (b2 = b2 ∧
 (b0 = b0 ∧
 (((mN == gC) = true →
 (b29 = b29 ∧
 (b2 = b2 ∧
 (b3 = b3 ∧
 (True ∧
 (b4 = b4 ∧
 (True ∧
 (b3 = b3 ∧
 (b4 = b4 ∧
 (∃ Oq46 : (Option Addr), (∃ Aq47 : (Option Addr), (∃ Hq48 : (Option Addr), (∃ Cq49 : Nat, (∃ Dq50 : Nat, (∃ Ee51 : Nat, (∃ soq52 : (Nat →
 (Option Addr)), (∃ scq53 : (Nat →
 Nat), ((Wu [(Wa [(Ws Oq21 y6.1 Cq24), (Ws Aq22 x.2 Dq25), (Ws Hq23 x.4 Ee26)]), (Wa [(Wi mB), (Wi mF), (Wi mT), (Wi mN)]), (Wb false)]) = (Wu [(Wa [(Ws Oq46 x.1.1 Cq49), (Ws Aq47 x.2 Dq50), (Ws Hq48 x.4 Ee51)]), (Wa [(Wi mB), (Wi mF), (Wi mT), (Wi mN)]), (Wb false)]) ∧
 (SelS [(Hr false O 0 2 x.1.1 0 [(fun i54 => (Cs 3 (so i54) (x.1.2 i54) (sc i54))), (fun i55 => (Cb (x.1.4 i55)))]), (Hr false A 0 1 x.2 0 [(fun i56 => (Ci (x.3 i56)))]), (Hr false H 0 1 x.4 0 [(fun i57 => (Ci (x.5 i57)))]), (Ho false (symRows false 0 x.1 so (fun x58 => 0))), (Hc b0 37 [(Ci gG), (Ci gB), (Ci gR), (Ci gC)]), (Hc b1 33 [(Cs 0 O x.1.1 C), (Cs 1 A x.2 D), (Cs 2 H x.4 E)]), (Hc b2 34 [(Ci mB), (Ci mF), (Ci mT), (Ci mN)]), (Hc b3 33 [(Cs 9 Oq21 y6.1 Cq24), (Cs 10 Aq22 x.2 Dq25), (Cs 11 Hq23 x.4 Ee26)]), (Hc b4 34 [(Ci mB), (Ci mF), (Ci mT), (Ci mN)]), (Hr true Oq21 52 2 y6.1 Cq24 [(fun i59 => (Cs 12 (soq27 i59) (y6.2 i59) (scq28 i59))), (fun i60 => (Cb (y6.4 i60)))]), (Hr true Aq22 3 1 x.2 Dq25 [(fun i61 => (Ci (ag10 i61)))]), (Hr true Hq23 3 1 x.4 Ee26 [(fun i62 => (Ci (hg11 i62)))]), (Ho true (symRows true 3 y6 soq27 scq28)), (Hc b29 33 [(Cs 9 Oq21 y6.1 Cq24), (Cs 10 Aq22 x.2 Dq25), (Cs 11 Hq23 x.4 Ee26)])] [9, 10, 11, 12] [(Hr true Oq46 52 2 x.1.1 Cq49 [(fun i63 => (Cs 3 (soq52 i63) (x.1.2 i63) (scq53 i63))), (fun i64 => (Cb (x.1.4 i64)))]), (Hr true Aq47 3 1 x.2 Dq50 [(fun i65 => (Ci (x.3 i65)))]), (Hr true Hq48 3 1 x.4 Ee51 [(fun i66 => (Ci (x.5 i66)))]), (Ho true (symRows true 3 x.1 soq52 scq53))]))))))))))))))))))) ∧
 ((mN == gC) = false →
 (b0 = b0 ∧
 (b2 = b2 ∧
 (b2 = b2 ∧
 (b2 = b2 ∧
 (b0 = b0 ∧
 (b2 = b2 ∧
 (b2 = b2 ∧
 (b2 = b2 ∧
 (b29 = b29 ∧
 (b29 = b29 ∧
 (Oq21 = Oq21 ∧
 (y6.1 = y6.1 ∧
 ((0 ≤ (adIx gG gB gR gC mB mF mN) ∧ (adIx gG gB gR gC mB mF mN) < ((y6.1 : Nat) : Int)) ∧
 (Oq21 = Oq21 ∧
 ((Int.toNat (adIx gG gB gR gC mB mF mN)) < y6.1 ∧
 (∃ t67 : Nat, (∃ y68 : CD, (∃ so69 : (Nat →
 (Option Addr)), (∃ sc70 : (Nat →
 Nat), (∃ i71 : Nat, (((symRows true 3 y6 soq27 scq28) = (symRows true t67 y68 so69 sc70) ∧
 ((soq27 (Int.toNat (adIx gG gB gR gC mB mF mN))) = (so69 i71) ∧
 ((y6.2 (Int.toNat (adIx gG gB gR gC mB mF mN))) = (y68.2 i71) ∧
 i71 < y68.1))) ∧
 ((capC (y6.2 (Int.toNat (adIx gG gB gR gC mB mF mN)))) ∧
 (∀ ro72 : (Option Addr),
 (∀ rc73 : Nat,
 (True ∧
 (Oq21 = Oq21 ∧
 (y6.1 = y6.1 ∧
 ((0 ≤ (adIx gG gB gR gC mB mT mN) ∧ (adIx gG gB gR gC mB mT mN) < ((y6.1 : Nat) : Int)) ∧
 (Oq21 = Oq21 ∧
 ((Int.toNat (adIx gG gB gR gC mB mT mN)) < y6.1 ∧
 (True ∧
 (b2 = b2 ∧
 ((rng (mN + (1 : Int))) ∧
 (b2 = b2 ∧
 (b29 = b29 ∧
 (b2 = b2 ∧
 (b3 = b3 ∧
 (True ∧
 (b4 = b4 ∧
 (True ∧
 (b3 = b3 ∧
 (b4 = b4 ∧
 (∃ Oq74 : (Option Addr), (∃ Aq75 : (Option Addr), (∃ Hq76 : (Option Addr), (∃ Cq77 : Nat, (∃ Dq78 : Nat, (∃ Ee79 : Nat, (∃ soq80 : (Nat →
 (Option Addr)), (∃ scq81 : (Nat →
 Nat), ((Wu [(Wa [(Ws Oq21 y6.1 Cq24), (Ws Aq22 x.2 Dq25), (Ws Hq23 x.4 Ee26)]), (Wa [(Wi mB), (Wi mF), (Wi mT), (Wi (mN + (1 : Int)))]), (Wb true)]) = (Wu [(Wa [(Ws Oq74 x.1.1 Cq77), (Ws Aq75 x.2 Dq78), (Ws Hq76 x.4 Ee79)]), (Wa [(Wi mB), (Wi mF), (Wi mT), (Wi mN)]), (Wb false)]) ∧
 (SelS [(Hr false O 0 2 x.1.1 0 [(fun i82 => (Cs 3 (so i82) (x.1.2 i82) (sc i82))), (fun i83 => (Cb (x.1.4 i83)))]), (Hr false A 0 1 x.2 0 [(fun i84 => (Ci (x.3 i84)))]), (Hr false H 0 1 x.4 0 [(fun i85 => (Ci (x.5 i85)))]), (Ho false (symRows false 0 x.1 so (fun x86 => 0))), (Hc b0 37 [(Ci gG), (Ci gB), (Ci gR), (Ci gC)]), (Hc b1 33 [(Cs 0 O x.1.1 C), (Cs 1 A x.2 D), (Cs 2 H x.4 E)]), (Hc b2 34 [(Ci mB), (Ci mF), (Ci mT), (Ci (mN + (1 : Int)))]), (Hc b3 33 [(Cs 9 Oq21 y6.1 Cq24), (Cs 10 Aq22 x.2 Dq25), (Cs 11 Hq23 x.4 Ee26)]), (Hc b4 34 [(Ci mB), (Ci mF), (Ci mT), (Ci (mN + (1 : Int)))]), (Hr true Oq21 52 2 y6.1 Cq24 [(fun j87 => (Cv (if j87 = (Int.toNat (adIx gG gB gR gC mB mT mN)) then (Ws ro72 (y6.2 (Int.toNat (adIx gG gB gR gC mB mF mN))) rc73) else (Ws (soq27 j87) (y6.2 j87) (scq28 j87))))), (fun j88 => (Cb (if j88 = (Int.toNat (adIx gG gB gR gC mB mT mN)) then (y6.4 (Int.toNat (adIx gG gB gR gC mB mF mN))) else (y6.4 j88))))]), (Hr true Aq22 3 1 x.2 Dq25 [(fun i89 => (Ci (ag10 i89)))]), (Hr true Hq23 3 1 x.4 Ee26 [(fun i90 => (Ci (hg11 i90)))]), (Ho true (symRows true 3 y6 soq27 scq28)), (Hc b29 33 [(Cs 9 Oq21 y6.1 Cq24), (Cs 10 Aq22 x.2 Dq25), (Cs 11 Hq23 x.4 Ee26)]), (Hr true ro72 3 1 (y6.2 (Int.toNat (adIx gG gB gR gC mB mF mN))) rc73 [(fun i91 => (Ci (y68.3 i71 i91)))])] [9, 10, 11, 1000003] [(Hr true Oq74 52 2 x.1.1 Cq77 [(fun i92 => (Cs 3 (soq80 i92) (x.1.2 i92) (scq81 i92))), (fun i93 => (Cb (x.1.4 i93)))]), (Hr true Aq75 3 1 x.2 Dq78 [(fun i94 => (Ci (x.3 i94)))]), (Hr true Hq76 3 1 x.4 Ee79 [(fun i95 => (Ci (x.5 i95)))]), (Ho true (symRows true 3 x.1 soq80 scq81))]))))))))))))))))))))))))))))))))))))))))))))))))))))))))) ∧
 ((!(mvOk gG gB gR gC mB mF mT mN)) = true →
 (b29 = b29 ∧
 (b2 = b2 ∧
 (b3 = b3 ∧
 (True ∧
 (b4 = b4 ∧
 (True ∧
 (b3 = b3 ∧
 (b4 = b4 ∧
 (∃ Oq96 : (Option Addr), (∃ Aq97 : (Option Addr), (∃ Hq98 : (Option Addr), (∃ Cq99 : Nat, (∃ Dq100 : Nat, (∃ Ee101 : Nat, (∃ soq102 : (Nat →
 (Option Addr)), (∃ scq103 : (Nat →
 Nat), ((Wu [(Wa [(Ws Oq21 y6.1 Cq24), (Ws Aq22 x.2 Dq25), (Ws Hq23 x.4 Ee26)]), (Wa [(Wi mB), (Wi mF), (Wi mT), (Wi mN)]), (Wb false)]) = (Wu [(Wa [(Ws Oq96 x.1.1 Cq99), (Ws Aq97 x.2 Dq100), (Ws Hq98 x.4 Ee101)]), (Wa [(Wi mB), (Wi mF), (Wi mT), (Wi mN)]), (Wb false)]) ∧
 (SelS [(Hr false O 0 2 x.1.1 0 [(fun i104 => (Cs 3 (so i104) (x.1.2 i104) (sc i104))), (fun i105 => (Cb (x.1.4 i105)))]), (Hr false A 0 1 x.2 0 [(fun i106 => (Ci (x.3 i106)))]), (Hr false H 0 1 x.4 0 [(fun i107 => (Ci (x.5 i107)))]), (Ho false (symRows false 0 x.1 so (fun x108 => 0))), (Hc b0 37 [(Ci gG), (Ci gB), (Ci gR), (Ci gC)]), (Hc b1 33 [(Cs 0 O x.1.1 C), (Cs 1 A x.2 D), (Cs 2 H x.4 E)]), (Hc b2 34 [(Ci mB), (Ci mF), (Ci mT), (Ci mN)]), (Hc b3 33 [(Cs 9 Oq21 y6.1 Cq24), (Cs 10 Aq22 x.2 Dq25), (Cs 11 Hq23 x.4 Ee26)]), (Hc b4 34 [(Ci mB), (Ci mF), (Ci mT), (Ci mN)]), (Hr true Oq21 52 2 y6.1 Cq24 [(fun i109 => (Cs 12 (soq27 i109) (y6.2 i109) (scq28 i109))), (fun i110 => (Cb (y6.4 i110)))]), (Hr true Aq22 3 1 x.2 Dq25 [(fun i111 => (Ci (ag10 i111)))]), (Hr true Hq23 3 1 x.4 Ee26 [(fun i112 => (Ci (hg11 i112)))]), (Ho true (symRows true 3 y6 soq27 scq28)), (Hc b29 33 [(Cs 9 Oq21 y6.1 Cq24), (Cs 10 Aq22 x.2 Dq25), (Cs 11 Hq23 x.4 Ee26)])] [9, 10, 11, 12] [(Hr true Oq96 52 2 x.1.1 Cq99 [(fun i113 => (Cs 3 (soq102 i113) (x.1.2 i113) (scq103 i113))), (fun i114 => (Cb (x.1.4 i114)))]), (Hr true Aq97 3 1 x.2 Dq100 [(fun i115 => (Ci (x.3 i115)))]), (Hr true Hq98 3 1 x.4 Ee101 [(fun i116 => (Ci (x.5 i116)))]), (Ho true (symRows true 3 x.1 soq102 scq103))]))))))))))))))))))))))) ∧
 ((!(arrOk gG gB gR gC (AD.mk y31 x.2 ag35 x.4 hg36))) = true →
 (b29 = b29 ∧
 (b2 = b2 ∧
 (b3 = b3 ∧
 (True ∧
 (b4 = b4 ∧
 (True ∧
 (b3 = b3 ∧
 (b4 = b4 ∧
 (∃ Oq117 : (Option Addr), (∃ Aq118 : (Option Addr), (∃ Hq119 : (Option Addr), (∃ Cq120 : Nat, (∃ Dq121 : Nat, (∃ Ee122 : Nat, (∃ soq123 : (Nat →
 (Option Addr)), (∃ scq124 : (Nat →
 Nat), ((Wu [(Wa [(Ws Oq21 y6.1 Cq24), (Ws Aq22 x.2 Dq25), (Ws Hq23 x.4 Ee26)]), (Wa [(Wi mB), (Wi mF), (Wi mT), (Wi mN)]), (Wb false)]) = (Wu [(Wa [(Ws Oq117 x.1.1 Cq120), (Ws Aq118 x.2 Dq121), (Ws Hq119 x.4 Ee122)]), (Wa [(Wi mB), (Wi mF), (Wi mT), (Wi mN)]), (Wb false)]) ∧
 (SelS [(Hr false O 0 2 x.1.1 0 [(fun i125 => (Cs 3 (so i125) (x.1.2 i125) (sc i125))), (fun i126 => (Cb (x.1.4 i126)))]), (Hr false A 0 1 x.2 0 [(fun i127 => (Ci (x.3 i127)))]), (Hr false H 0 1 x.4 0 [(fun i128 => (Ci (x.5 i128)))]), (Ho false (symRows false 0 x.1 so (fun x129 => 0))), (Hc b0 37 [(Ci gG), (Ci gB), (Ci gR), (Ci gC)]), (Hc b1 33 [(Cs 0 O x.1.1 C), (Cs 1 A x.2 D), (Cs 2 H x.4 E)]), (Hc b2 34 [(Ci mB), (Ci mF), (Ci mT), (Ci mN)]), (Hc b3 33 [(Cs 9 Oq21 y6.1 Cq24), (Cs 10 Aq22 x.2 Dq25), (Cs 11 Hq23 x.4 Ee26)]), (Hc b4 34 [(Ci mB), (Ci mF), (Ci mT), (Ci mN)]), (Hr true Oq21 52 2 y6.1 Cq24 [(fun i130 => (Cs 12 (soq27 i130) (y6.2 i130) (scq28 i130))), (fun i131 => (Cb (y6.4 i131)))]), (Hr true Aq22 3 1 x.2 Dq25 [(fun i132 => (Ci (ag10 i132)))]), (Hr true Hq23 3 1 x.4 Ee26 [(fun i133 => (Ci (hg11 i133)))]), (Ho true (symRows true 3 y6 soq27 scq28)), (Hc b29 33 [(Cs 9 Oq21 y6.1 Cq24), (Cs 10 Aq22 x.2 Dq25), (Cs 11 Hq23 x.4 Ee26)])] [9, 10, 11, 12] [(Hr true Oq117 52 2 x.1.1 Cq120 [(fun i134 => (Cs 3 (soq123 i134) (x.1.2 i134) (scq124 i134))), (fun i135 => (Cb (x.1.4 i135)))]), (Hr true Aq118 3 1 x.2 Dq121 [(fun i136 => (Ci (x.3 i136)))]), (Hr true Hq119 3 1 x.4 Ee122 [(fun i137 => (Ci (x.5 i137)))]), (Ho true (symRows true 3 x.1 soq123 scq124))]))))))))))))))))))))))))))))))))))))))))))))))))))))))))) := by kernel_rfl
theorem mstSN_any (x : AD) (O A H : Option Addr) (C D E : Nat) (so : Nat → Option Addr) (sc : Nat → Nat) (gG gB gR gC : Int) (mB mF mT mN : Int) (w : World) (hA : SeenA w x O A H so sc) (hcap : capA x) (hst : stepOk gG gB gR gC mB mF mT mN x = false) : Calls Try.prog 11 #[.agg #[.int .i64 gG, .int .i64 gB, .int .i64 gR, .int .i64 gC], arrV x O A H C D E, .agg #[.int .i64 mB, .int .i64 mF, .int .i64 mT, .int .i64 mN]] w fun e w' => ∃ (Oq Aq Hq : Option Addr) (Cq Dq Ee : Nat) (soq : Nat → Option Addr) (scq : Nat → Nat), e = .returned (.tuple #[arrV (x) Oq Aq Hq Cq Dq Ee, .agg #[.int .i64 mB, .int .i64 mF, .int .i64 mT, .int .i64 mN], .bool false]) ∧ HS ⟨w, fun _ => False⟩ (arrO 0 (x) Oq Aq Hq Cq Dq Ee soq scq) w' := by
  refine fnB (tb := [(45, sCpA), (46, sArrOk), (47, sMvOk), (48, sAdIx), (49, sCpC)]) (D := fun _ => [7, 8]) ⟨sCpA_S, sArrOk_S, sMvOk_S, sAdIx_S, sCpC_S, trivial⟩ Try.func11 (@Eq.mpr _ _ (mstSN_T x O A H C D E so sc gG gB gR gC mB mF mT mN) ?_) (HS.seenAll (fun _ => False) _ (hA.all 0 seenC_nil)) (fun v ch' w' ⟨Oq, Aq, Hq, Cq, Dq, Ee, soq, scq, hv, hc⟩ hs => ⟨Oq, Aq, Hq, Cq, Dq, Ee, soq, scq, by rw [hv], hc.hs hs⟩)
  clear hA
  have hl := lenA_of hcap
  cases hok : arrOk gG gB gR gC x
  · skip
    repeat' (first
      | with_reducible exact rfl
      | exact True.intro
      | with_reducible assumption
      | exact hl
      | exact hcap
      | (intro h; exfalso; rw [hok] at h; simp at h; done)
      | exact (by refine ⟨?_, rfl⟩; repeat' (first | exact True.intro | exact symRows_push | exact rfl | refine And.intro ?_ ?_ | (intro i hi; show _ = _; with_reducible rfl) | (intro i hi; show _ = _; rfl) | (intro i hi; show _ = _; simp only [SC.den]; split <;> rfl)))
      | refine And.intro ?_ ?_
      | apply Exists.intro
      | (intro h; exfalso; simp at h; done)
      | (intro h; replace h := of_decide_eq_true h; first | (exfalso; omega) | skip)
      | (intro h; replace h := of_decide_eq_false h; first | (exfalso; omega) | skip)
      | (intro i hi; with_reducible exact rfl)
      | intro _
      | omega
      | exact rfl)
  · cases hmv : mvOk gG gB gR gC mB mF mT mN
    · skip
      repeat' (first
        | with_reducible exact rfl
        | exact True.intro
        | with_reducible assumption
        | exact hl
        | exact hcap
        | (intro h; exfalso; rw [hok] at h; simp at h; done)
        | (intro h; exfalso; rw [hmv] at h; simp at h; done)
        | exact (by refine ⟨?_, rfl⟩; repeat' (first | exact True.intro | exact symRows_push | exact rfl | refine And.intro ?_ ?_ | (intro i hi; show _ = _; with_reducible rfl) | (intro i hi; show _ = _; rfl) | (intro i hi; show _ = _; simp only [SC.den]; split <;> rfl)))
        | refine And.intro ?_ ?_
        | apply Exists.intro
        | (intro h; exfalso; simp at h; done)
        | (intro h; replace h := of_decide_eq_true h; first | (exfalso; omega) | skip)
        | (intro h; replace h := of_decide_eq_false h; first | (exfalso; omega) | skip)
        | (intro i hi; with_reducible exact rfl)
        | intro _
        | omega
        | exact rfl)
    · have heq : (mN == gC) = true := by simpa [stepOk, hok, hmv, ine] using hst
      repeat' (first
        | with_reducible exact rfl
        | exact True.intro
        | with_reducible assumption
        | exact hl
        | exact hcap
        | (intro h; exfalso; rw [hok] at h; simp at h; done)
        | (intro h; exfalso; rw [hmv] at h; simp at h; done)
        | (intro h; exfalso; rw [heq] at h; simp at h; done)
        | exact (by refine ⟨?_, rfl⟩; repeat' (first | exact True.intro | exact symRows_push | exact rfl | refine And.intro ?_ ?_ | (intro i hi; show _ = _; with_reducible rfl) | (intro i hi; show _ = _; rfl) | (intro i hi; show _ = _; simp only [SC.den]; split <;> rfl)))
        | refine And.intro ?_ ?_
        | apply Exists.intro
        | (intro h; exfalso; simp at h; done)
        | (intro h; replace h := of_decide_eq_true h; first | (exfalso; omega) | skip)
        | (intro h; replace h := of_decide_eq_false h; first | (exfalso; omega) | skip)
        | (intro i hi; with_reducible exact rfl)
        | intro _
        | omega
        | exact rfl)
theorem mstS_any (x : AD) (O A H : Option Addr) (C D E : Nat) (so : Nat → Option Addr) (sc : Nat → Nat) (gG gB gR gC : Int) (mB mF mT mN : Int) (w : World) (hA : SeenA w x O A H so sc) (hcap : capA x) : Calls Try.prog 11 #[.agg #[.int .i64 gG, .int .i64 gB, .int .i64 gR, .int .i64 gC], arrV x O A H C D E, .agg #[.int .i64 mB, .int .i64 mF, .int .i64 mT, .int .i64 mN]] w fun e w' => ∃ (Oq Aq Hq : Option Addr) (Cq Dq Ee : Nat) (soq : Nat → Option Addr) (scq : Nat → Nat), e = .returned (.tuple #[arrV (stepA gG gB gR gC mB mF mT mN x) Oq Aq Hq Cq Dq Ee, .agg #[.int .i64 mB, .int .i64 mF, .int .i64 mT, .int .i64 (stepN gG gB gR gC mB mF mT mN x)], .bool (stepOk gG gB gR gC mB mF mT mN x)]) ∧ HS ⟨w, fun _ => False⟩ (arrO 0 (stepA gG gB gR gC mB mF mT mN x) Oq Aq Hq Cq Dq Ee soq scq) w' := by
  cases hst : stepOk gG gB gR gC mB mF mT mN x
  · have e : stepA gG gB gR gC mB mF mT mN x = x := by simp [stepA, hst]
    have e2 : stepN gG gB gR gC mB mF mT mN x = mN := by simp [stepN, hst]
    rw [e, e2]
    exact mstSN_any x O A H C D E so sc gG gB gR gC mB mF mT mN w hA hcap hst
  · have e : stepA gG gB gR gC mB mF mT mN x = setA x (ixN gG gB gR gC mB mT mN) (x.c.sn (ixN gG gB gR gC mB mF mN)) (x.c.sy (ixN gG gB gR gC mB mF mN)) (x.c.po (ixN gG gB gR gC mB mF mN)) := by
      simp [stepA, hst]
    have e2 : stepN gG gB gR gC mB mF mT mN x = iadd mN 1 := by simp [stepN, hst, iadd]
    rw [e, e2]
    exact mstSY_any x O A H C D E so sc gG gB gR gC mB mF mT mN w hA hcap hst
end Go.Proofs.Ytddeinpnadfgmaa

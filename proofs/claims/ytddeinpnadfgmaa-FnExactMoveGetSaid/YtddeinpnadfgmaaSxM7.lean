/-
  Words got while a row moves.
-/
import Derived.Test.YtddeinpnadfgmaaSxM6g
namespace Go.Proofs.Ytddeinpnadfgmaa
set_option linter.unusedVariables false
set_option linter.unusedSimpArgs false
open Go.RowKit
set_option maxRecDepth 100000
set_option maxHeartbeats 8000000

def sGw : Sm := fun args ch kk =>
  match args with
  | [.a (.agg [c0, c1, c2, c3]), .a c, .a (.agg [e0, e1, e2])] =>
    match ints [c0, c1, c2, c3, e0, e1, e2] with
    | some [gG, gB, gR, gC, dB, dR, dC] => rdA ch c fun x => capA x ∧ ∀ (Oq Aq Hq : Option Addr) (Cq Dq Ee : Nat) (soq : Nat → Option Addr) (scq : Nat → Nat), kk (.tup [arrS ch.length ((gwA gG gB gR gC dB dR dC x)) Oq Aq Hq Cq Dq Ee, .c (.int (gwX gG gB gR gC dB dR dC x)), .c (.int (gwC gG gB gR gC dB dR dC x))]) (ch ++ arrO ch.length ((gwA gG gB gR gC dB dR dC x)) Oq Aq Hq Cq Dq Ee soq scq) []
    | _ => False
  | _ => False
theorem sGw_I : SmOK Try.prog 90 sGw := by
  refine smN Try.call90 fun args ch kk w X h0 hs => ?_
  unfold sGw at h0
  split at h0
  · rename_i c0 c1 c2 c3 c e0 e1 e2
    split at h0
    · rename_i gG gB gR gC dB dR dC hi
      obtain ⟨q0, hi⟩ := ints_cons hi
      obtain ⟨q1, hi⟩ := ints_cons hi
      obtain ⟨q2, hi⟩ := ints_cons hi
      obtain ⟨q3, hi⟩ := ints_cons hi
      obtain ⟨q4, hi⟩ := ints_cons hi
      obtain ⟨q5, hi⟩ := ints_cons hi
      obtain ⟨q6, hi⟩ := ints_cons hi
      obtain ⟨x, O, A, H, C, D, E, so, sc, e, hA, hcond, h1⟩ := rdA_ok h0 hs
      have e20 : SA.den (.agg [c0, c1, c2, c3]) = .agg #[.int .i64 gG, .int .i64 gB, .int .i64 gR, .int .i64 gC] := by simp only [SA.den, den_c, List.map_cons, List.map_nil, q0, q1, q2, q3]
      have e21 : SA.den (.agg [e0, e1, e2]) = .agg #[.int .i64 dB, .int .i64 dR, .int .i64 dC] := by simp only [SA.den, den_c, List.map_cons, List.map_nil, q4, q5, q6]
      simp only [List.map_cons, List.map_nil, den_a, e, e20, e21]
      refine Calls.mono (gwI_all x O A H C D E so sc gG gB gR gC dB dR dC w hA hcond) fun e w' ⟨Oq, Aq, Hq, Cq, Dq, Ee, soq, scq, he, hs'⟩ => ⟨.tup [arrS ch.length ((gwA gG gB gR gC dB dR dC x)) Oq Aq Hq Cq Dq Ee, .c (.int (gwX gG gB gR gC dB dR dC x)), .c (.int (gwC gG gB gR gC dB dR dC x))], _, by rw [he]; rfl, arrO_at hs', rfl, h1 Oq Aq Hq Cq Dq Ee soq scq⟩
    · exact h0.elim
  · exact h0.elim
theorem sGw_S : SmOK Try.prog 36 sGw := by
  refine smN Try.call36 fun args ch kk w X h0 hs => ?_
  unfold sGw at h0
  split at h0
  · rename_i c0 c1 c2 c3 c e0 e1 e2
    split at h0
    · rename_i gG gB gR gC dB dR dC hi
      obtain ⟨q0, hi⟩ := ints_cons hi
      obtain ⟨q1, hi⟩ := ints_cons hi
      obtain ⟨q2, hi⟩ := ints_cons hi
      obtain ⟨q3, hi⟩ := ints_cons hi
      obtain ⟨q4, hi⟩ := ints_cons hi
      obtain ⟨q5, hi⟩ := ints_cons hi
      obtain ⟨q6, hi⟩ := ints_cons hi
      obtain ⟨x, O, A, H, C, D, E, so, sc, e, hA, hcond, h1⟩ := rdA_ok h0 hs
      have e20 : SA.den (.agg [c0, c1, c2, c3]) = .agg #[.int .i64 gG, .int .i64 gB, .int .i64 gR, .int .i64 gC] := by simp only [SA.den, den_c, List.map_cons, List.map_nil, q0, q1, q2, q3]
      have e21 : SA.den (.agg [e0, e1, e2]) = .agg #[.int .i64 dB, .int .i64 dR, .int .i64 dC] := by simp only [SA.den, den_c, List.map_cons, List.map_nil, q4, q5, q6]
      simp only [List.map_cons, List.map_nil, den_a, e, e20, e21]
      refine Calls.mono (gwS_all x O A H C D E so sc gG gB gR gC dB dR dC w hA hcond) fun e w' ⟨Oq, Aq, Hq, Cq, Dq, Ee, soq, scq, he, hs'⟩ => ⟨.tup [arrS ch.length ((gwA gG gB gR gC dB dR dC x)) Oq Aq Hq Cq Dq Ee, .c (.int (gwX gG gB gR gC dB dR dC x)), .c (.int (gwC gG gB gR gC dB dR dC x))], _, by rw [he]; rfl, arrO_at hs', rfl, h1 Oq Aq Hq Cq Dq Ee soq scq⟩
    · exact h0.elim
  · exact h0.elim
def mgA (gG gB gR gC : Int) (mB mF mT mN : Int) (x : AD) (q : Int) : AD := if mvOk gG gB gR gC mB mF mT mN = true then gwA gG gB gR gC mB (if ieq mN gC = true then mT else mF) q x else x
def mgX (gG gB gR gC : Int) (mB mF mT mN : Int) (x : AD) (q : Int) : Int := if mvOk gG gB gR gC mB mF mT mN = true then gwX gG gB gR gC mB (if ieq mN gC = true then mT else mF) q x else 0
def mgC (gG gB gR gC : Int) (mB mF mT mN : Int) (x : AD) (q : Int) : Int := if mvOk gG gB gR gC mB mF mT mN = true then gwC gG gB gR gC mB (if ieq mN gC = true then mT else mF) q x else 2
theorem mgtI_T (x : AD) (O A H : Option Addr) (C D E : Nat) (so : Nat → Option Addr) (sc : Nat → Nat) (gG gB gR gC : Int) (mB mF mT mN : Int) (q : Int) (z : AD) (gx gc : Int) : (exFn Try.prog {tb := [(41, sMvOk), (53, sCpA), (90, sGw)]} 400 Try.f40 ([.a (.agg [.int gG, .int gB, .int gR, .int gC]), .a (arrS 0 x O A H C D E), .a (.agg [.int mB, .int mF, .int mT, .int mN]), .a (.c (.int q))]) (arrR 0 x O A H so sc) (fun v ch => ∃ (Oq Aq Hq : Option Addr) (Cq Dq Ee : Nat) (soq : Nat → Option Addr) (scq : Nat → Nat), v.den = .tuple #[arrV z Oq Aq Hq Cq Dq Ee, .int .i64 gx, .int .i64 gc] ∧ SelS ch (idsArr v ch) (arrO 0 z Oq Aq Hq Cq Dq Ee soq scq))) = (
  (∀ b0 : Nat,
 (∀ b1 : Nat,
 (∀ b2 : Nat,
 (∀ b3 : Nat,
 (b0 = b0 ∧
 (b2 = b2 ∧
 (((!(mvOk gG gB gR gC mB mF mT mN)) = true →
 (b1 = b1 ∧
 (∃ t4 : Nat, (∃ y5 : CD, (∃ so6 : (Nat →
 (Option Addr)), (∃ sc7 : (Nat →
 Nat), (∃ sd8 : (Nat →
 Nat), (∃ ag9 : (Nat →
 Int), (∃ hg10 : (Nat →
 Int), (((symRows false 0 x.1 so (fun x11 => 0)) = (symRows false t4 y5 so6 sd8) ∧
 ([(fun i12 => (Cs 3 (so i12) (x.1.2 i12) (sc i12))), (fun i13 => (Cb (x.1.4 i13)))] = [(fun i14 => (Cs 3 (so6 i14) (y5.2 i14) (sc7 i14))), (fun i15 => (Cb (y5.4 i15)))] ∧
 (O = O ∧
 (x.1.1 = x.1.1 ∧
 (x.1.1 = y5.1 ∧
 (A = A ∧
 (x.2 = x.2 ∧
 ([(fun i16 => (Ci (x.3 i16)))] = [(fun i17 => (Ci (ag9 i17)))] ∧
 (H = H ∧
 (x.4 = x.4 ∧
 [(fun i18 => (Ci (x.5 i18)))] = [(fun i19 => (Ci (hg10 i19)))])))))))))) ∧
 ((capA (AD.mk y5 x.2 ag9 x.4 hg10)) ∧
 (∀ Oq20 : (Option Addr),
 (∀ Aq21 : (Option Addr),
 (∀ Hq22 : (Option Addr),
 (∀ Cq23 : Nat,
 (∀ Dq24 : Nat,
 (∀ Ee25 : Nat,
 (∀ soq26 : (Nat →
 (Option Addr)),
 (∀ scq27 : (Nat →
 Nat),
 (b3 = b3 ∧
 (b3 = b3 ∧
 (∃ Oq28 : (Option Addr), (∃ Aq29 : (Option Addr), (∃ Hq30 : (Option Addr), (∃ Cq31 : Nat, (∃ Dq32 : Nat, (∃ Ee33 : Nat, (∃ soq34 : (Nat →
 (Option Addr)), (∃ scq35 : (Nat →
 Nat), ((Wu [(Wa [(Ws Oq20 y5.1 Cq23), (Ws Aq21 x.2 Dq24), (Ws Hq22 x.4 Ee25)]), (Wi 0), (Wi 2)]) = (Wu [(Wa [(Ws Oq28 z.1.1 Cq31), (Ws Aq29 z.2 Dq32), (Ws Hq30 z.4 Ee33)]), (Wi gx), (Wi gc)]) ∧
 (SelS [(Hr false O 0 2 x.1.1 0 [(fun i36 => (Cs 3 (so i36) (x.1.2 i36) (sc i36))), (fun i37 => (Cb (x.1.4 i37)))]), (Hr false A 0 1 x.2 0 [(fun i38 => (Ci (x.3 i38)))]), (Hr false H 0 1 x.4 0 [(fun i39 => (Ci (x.5 i39)))]), (Ho false (symRows false 0 x.1 so (fun x40 => 0))), (Hc b0 37 [(Ci gG), (Ci gB), (Ci gR), (Ci gC)]), (Hc b1 33 [(Cs 0 O x.1.1 C), (Cs 1 A x.2 D), (Cs 2 H x.4 E)]), (Hc b2 34 [(Ci mB), (Ci mF), (Ci mT), (Ci mN)]), (Hc b3 33 [(Cs 8 Oq20 y5.1 Cq23), (Cs 9 Aq21 x.2 Dq24), (Cs 10 Hq22 x.4 Ee25)]), (Hr true Oq20 52 2 y5.1 Cq23 [(fun i41 => (Cs 11 (soq26 i41) (y5.2 i41) (scq27 i41))), (fun i42 => (Cb (y5.4 i42)))]), (Hr true Aq21 3 1 x.2 Dq24 [(fun i43 => (Ci (ag9 i43)))]), (Hr true Hq22 3 1 x.4 Ee25 [(fun i44 => (Ci (hg10 i44)))]), (Ho true (symRows true 3 y5 soq26 scq27))] [8, 9, 10, 11] [(Hr true Oq28 52 2 z.1.1 Cq31 [(fun i45 => (Cs 3 (soq34 i45) (z.1.2 i45) (scq35 i45))), (fun i46 => (Cb (z.1.4 i46)))]), (Hr true Aq29 3 1 z.2 Dq32 [(fun i47 => (Ci (z.3 i47)))]), (Hr true Hq30 3 1 z.4 Ee33 [(fun i48 => (Ci (z.5 i48)))]), (Ho true (symRows true 3 z.1 soq34 scq35))]))))))))))))))))))))))))))))))) ∧
 ((!(mvOk gG gB gR gC mB mF mT mN)) = false →
 (b2 = b2 ∧
 (b2 = b2 ∧
 (b0 = b0 ∧
 (((mN == gC) = true →
 (b2 = b2 ∧
 (b0 = b0 ∧
 (b1 = b1 ∧
 (b2 = b2 ∧
 (∃ t49 : Nat, (∃ y50 : CD, (∃ so51 : (Nat →
 (Option Addr)), (∃ sc52 : (Nat →
 Nat), (∃ sd53 : (Nat →
 Nat), (∃ ag54 : (Nat →
 Int), (∃ hg55 : (Nat →
 Int), (((symRows false 0 x.1 so (fun x56 => 0)) = (symRows false t49 y50 so51 sd53) ∧
 ([(fun i57 => (Cs 3 (so i57) (x.1.2 i57) (sc i57))), (fun i58 => (Cb (x.1.4 i58)))] = [(fun i59 => (Cs 3 (so51 i59) (y50.2 i59) (sc52 i59))), (fun i60 => (Cb (y50.4 i60)))] ∧
 (O = O ∧
 (x.1.1 = x.1.1 ∧
 (x.1.1 = y50.1 ∧
 (A = A ∧
 (x.2 = x.2 ∧
 ([(fun i61 => (Ci (x.3 i61)))] = [(fun i62 => (Ci (ag54 i62)))] ∧
 (H = H ∧
 (x.4 = x.4 ∧
 [(fun i63 => (Ci (x.5 i63)))] = [(fun i64 => (Ci (hg55 i64)))])))))))))) ∧
 ((capA (AD.mk y50 x.2 ag54 x.4 hg55)) ∧
 (∀ Oq65 : (Option Addr),
 (∀ Aq66 : (Option Addr),
 (∀ Hq67 : (Option Addr),
 (∀ Cq68 : Nat,
 (∀ Dq69 : Nat,
 (∀ Ee70 : Nat,
 (∀ soq71 : (Nat →
 (Option Addr)),
 (∀ scq72 : (Nat →
 Nat),
 (b3 = b3 ∧
 (b3 = b3 ∧
 (∃ Oq73 : (Option Addr), (∃ Aq74 : (Option Addr), (∃ Hq75 : (Option Addr), (∃ Cq76 : Nat, (∃ Dq77 : Nat, (∃ Ee78 : Nat, (∃ soq79 : (Nat →
 (Option Addr)), (∃ scq80 : (Nat →
 Nat), ((Wu [(Wa [(Ws Oq65 ((gwA gG gB gR gC mB mT q (AD.mk y50 x.2 ag54 x.4 hg55))).1.1 Cq68), (Ws Aq66 ((gwA gG gB gR gC mB mT q (AD.mk y50 x.2 ag54 x.4 hg55))).2 Dq69), (Ws Hq67 ((gwA gG gB gR gC mB mT q (AD.mk y50 x.2 ag54 x.4 hg55))).4 Ee70)]), (Wi (gwX gG gB gR gC mB mT q (AD.mk y50 x.2 ag54 x.4 hg55))), (Wi (gwC gG gB gR gC mB mT q (AD.mk y50 x.2 ag54 x.4 hg55)))]) = (Wu [(Wa [(Ws Oq73 z.1.1 Cq76), (Ws Aq74 z.2 Dq77), (Ws Hq75 z.4 Ee78)]), (Wi gx), (Wi gc)]) ∧
 (SelS [(Hr false O 0 2 x.1.1 0 [(fun i81 => (Cs 3 (so i81) (x.1.2 i81) (sc i81))), (fun i82 => (Cb (x.1.4 i82)))]), (Hr false A 0 1 x.2 0 [(fun i83 => (Ci (x.3 i83)))]), (Hr false H 0 1 x.4 0 [(fun i84 => (Ci (x.5 i84)))]), (Ho false (symRows false 0 x.1 so (fun x85 => 0))), (Hc b0 37 [(Ci gG), (Ci gB), (Ci gR), (Ci gC)]), (Hc b1 33 [(Cs 0 O x.1.1 C), (Cs 1 A x.2 D), (Cs 2 H x.4 E)]), (Hc b2 34 [(Ci mB), (Ci mF), (Ci mT), (Ci mN)]), (Hc b3 33 [(Cs 8 Oq65 ((gwA gG gB gR gC mB mT q (AD.mk y50 x.2 ag54 x.4 hg55))).1.1 Cq68), (Cs 9 Aq66 ((gwA gG gB gR gC mB mT q (AD.mk y50 x.2 ag54 x.4 hg55))).2 Dq69), (Cs 10 Hq67 ((gwA gG gB gR gC mB mT q (AD.mk y50 x.2 ag54 x.4 hg55))).4 Ee70)]), (Hr true Oq65 52 2 ((gwA gG gB gR gC mB mT q (AD.mk y50 x.2 ag54 x.4 hg55))).1.1 Cq68 [(fun i86 => (Cs 11 (soq71 i86) (((gwA gG gB gR gC mB mT q (AD.mk y50 x.2 ag54 x.4 hg55))).1.2 i86) (scq72 i86))), (fun i87 => (Cb (((gwA gG gB gR gC mB mT q (AD.mk y50 x.2 ag54 x.4 hg55))).1.4 i87)))]), (Hr true Aq66 3 1 ((gwA gG gB gR gC mB mT q (AD.mk y50 x.2 ag54 x.4 hg55))).2 Dq69 [(fun i88 => (Ci (((gwA gG gB gR gC mB mT q (AD.mk y50 x.2 ag54 x.4 hg55))).3 i88)))]), (Hr true Hq67 3 1 ((gwA gG gB gR gC mB mT q (AD.mk y50 x.2 ag54 x.4 hg55))).4 Ee70 [(fun i89 => (Ci (((gwA gG gB gR gC mB mT q (AD.mk y50 x.2 ag54 x.4 hg55))).5 i89)))]), (Ho true (symRows true 3 ((gwA gG gB gR gC mB mT q (AD.mk y50 x.2 ag54 x.4 hg55))).1 soq71 scq72))] [8, 9, 10, 11] [(Hr true Oq73 52 2 z.1.1 Cq76 [(fun i90 => (Cs 3 (soq79 i90) (z.1.2 i90) (scq80 i90))), (fun i91 => (Cb (z.1.4 i91)))]), (Hr true Aq74 3 1 z.2 Dq77 [(fun i92 => (Ci (z.3 i92)))]), (Hr true Hq75 3 1 z.4 Ee78 [(fun i93 => (Ci (z.5 i93)))]), (Ho true (symRows true 3 z.1 soq79 scq80))])))))))))))))))))))))))))))))))))) ∧
 ((mN == gC) = false →
 (b0 = b0 ∧
 (b1 = b1 ∧
 (b2 = b2 ∧
 (∃ t94 : Nat, (∃ y95 : CD, (∃ so96 : (Nat →
 (Option Addr)), (∃ sc97 : (Nat →
 Nat), (∃ sd98 : (Nat →
 Nat), (∃ ag99 : (Nat →
 Int), (∃ hg100 : (Nat →
 Int), (((symRows false 0 x.1 so (fun x101 => 0)) = (symRows false t94 y95 so96 sd98) ∧
 ([(fun i102 => (Cs 3 (so i102) (x.1.2 i102) (sc i102))), (fun i103 => (Cb (x.1.4 i103)))] = [(fun i104 => (Cs 3 (so96 i104) (y95.2 i104) (sc97 i104))), (fun i105 => (Cb (y95.4 i105)))] ∧
 (O = O ∧
 (x.1.1 = x.1.1 ∧
 (x.1.1 = y95.1 ∧
 (A = A ∧
 (x.2 = x.2 ∧
 ([(fun i106 => (Ci (x.3 i106)))] = [(fun i107 => (Ci (ag99 i107)))] ∧
 (H = H ∧
 (x.4 = x.4 ∧
 [(fun i108 => (Ci (x.5 i108)))] = [(fun i109 => (Ci (hg100 i109)))])))))))))) ∧
 ((capA (AD.mk y95 x.2 ag99 x.4 hg100)) ∧
 (∀ Oq110 : (Option Addr),
 (∀ Aq111 : (Option Addr),
 (∀ Hq112 : (Option Addr),
 (∀ Cq113 : Nat,
 (∀ Dq114 : Nat,
 (∀ Ee115 : Nat,
 (∀ soq116 : (Nat →
 (Option Addr)),
 (∀ scq117 : (Nat →
 Nat),
 (b3 = b3 ∧
 (b3 = b3 ∧
 (∃ Oq118 : (Option Addr), (∃ Aq119 : (Option Addr), (∃ Hq120 : (Option Addr), (∃ Cq121 : Nat, (∃ Dq122 : Nat, (∃ Ee123 : Nat, (∃ soq124 : (Nat →
 (Option Addr)), (∃ scq125 : (Nat →
 Nat), ((Wu [(Wa [(Ws Oq110 ((gwA gG gB gR gC mB mF q (AD.mk y95 x.2 ag99 x.4 hg100))).1.1 Cq113), (Ws Aq111 ((gwA gG gB gR gC mB mF q (AD.mk y95 x.2 ag99 x.4 hg100))).2 Dq114), (Ws Hq112 ((gwA gG gB gR gC mB mF q (AD.mk y95 x.2 ag99 x.4 hg100))).4 Ee115)]), (Wi (gwX gG gB gR gC mB mF q (AD.mk y95 x.2 ag99 x.4 hg100))), (Wi (gwC gG gB gR gC mB mF q (AD.mk y95 x.2 ag99 x.4 hg100)))]) = (Wu [(Wa [(Ws Oq118 z.1.1 Cq121), (Ws Aq119 z.2 Dq122), (Ws Hq120 z.4 Ee123)]), (Wi gx), (Wi gc)]) ∧
 (SelS [(Hr false O 0 2 x.1.1 0 [(fun i126 => (Cs 3 (so i126) (x.1.2 i126) (sc i126))), (fun i127 => (Cb (x.1.4 i127)))]), (Hr false A 0 1 x.2 0 [(fun i128 => (Ci (x.3 i128)))]), (Hr false H 0 1 x.4 0 [(fun i129 => (Ci (x.5 i129)))]), (Ho false (symRows false 0 x.1 so (fun x130 => 0))), (Hc b0 37 [(Ci gG), (Ci gB), (Ci gR), (Ci gC)]), (Hc b1 33 [(Cs 0 O x.1.1 C), (Cs 1 A x.2 D), (Cs 2 H x.4 E)]), (Hc b2 34 [(Ci mB), (Ci mF), (Ci mT), (Ci mN)]), (Hc b3 33 [(Cs 8 Oq110 ((gwA gG gB gR gC mB mF q (AD.mk y95 x.2 ag99 x.4 hg100))).1.1 Cq113), (Cs 9 Aq111 ((gwA gG gB gR gC mB mF q (AD.mk y95 x.2 ag99 x.4 hg100))).2 Dq114), (Cs 10 Hq112 ((gwA gG gB gR gC mB mF q (AD.mk y95 x.2 ag99 x.4 hg100))).4 Ee115)]), (Hr true Oq110 52 2 ((gwA gG gB gR gC mB mF q (AD.mk y95 x.2 ag99 x.4 hg100))).1.1 Cq113 [(fun i131 => (Cs 11 (soq116 i131) (((gwA gG gB gR gC mB mF q (AD.mk y95 x.2 ag99 x.4 hg100))).1.2 i131) (scq117 i131))), (fun i132 => (Cb (((gwA gG gB gR gC mB mF q (AD.mk y95 x.2 ag99 x.4 hg100))).1.4 i132)))]), (Hr true Aq111 3 1 ((gwA gG gB gR gC mB mF q (AD.mk y95 x.2 ag99 x.4 hg100))).2 Dq114 [(fun i133 => (Ci (((gwA gG gB gR gC mB mF q (AD.mk y95 x.2 ag99 x.4 hg100))).3 i133)))]), (Hr true Hq112 3 1 ((gwA gG gB gR gC mB mF q (AD.mk y95 x.2 ag99 x.4 hg100))).4 Ee115 [(fun i134 => (Ci (((gwA gG gB gR gC mB mF q (AD.mk y95 x.2 ag99 x.4 hg100))).5 i134)))]), (Ho true (symRows true 3 ((gwA gG gB gR gC mB mF q (AD.mk y95 x.2 ag99 x.4 hg100))).1 soq116 scq117))] [8, 9, 10, 11] [(Hr true Oq118 52 2 z.1.1 Cq121 [(fun i135 => (Cs 3 (soq124 i135) (z.1.2 i135) (scq125 i135))), (fun i136 => (Cb (z.1.4 i136)))]), (Hr true Aq119 3 1 z.2 Dq122 [(fun i137 => (Ci (z.3 i137)))]), (Hr true Hq120 3 1 z.4 Ee123 [(fun i138 => (Ci (z.5 i138)))]), (Ho true (symRows true 3 z.1 soq124 scq125))])))))))))))))))))))))))))))))))))))))))))))))) := by kernel_rfl
theorem mgtI_all (x : AD) (O A H : Option Addr) (C D E : Nat) (so : Nat → Option Addr) (sc : Nat → Nat) (gG gB gR gC : Int) (mB mF mT mN : Int) (q : Int) (w : World) (hA : SeenA w x O A H so sc) (hcap : capA x) : Calls Try.prog 40 #[.agg #[.int .i64 gG, .int .i64 gB, .int .i64 gR, .int .i64 gC], arrV x O A H C D E, .agg #[.int .i64 mB, .int .i64 mF, .int .i64 mT, .int .i64 mN], .int .i64 q] w fun e w' => ∃ (Oq Aq Hq : Option Addr) (Cq Dq Ee : Nat) (soq : Nat → Option Addr) (scq : Nat → Nat), e = .returned (.tuple #[arrV (mgA gG gB gR gC mB mF mT mN x q) Oq Aq Hq Cq Dq Ee, .int .i64 (mgX gG gB gR gC mB mF mT mN x q), .int .i64 (mgC gG gB gR gC mB mF mT mN x q)]) ∧ HS ⟨w, fun _ => False⟩ (arrO 0 (mgA gG gB gR gC mB mF mT mN x q) Oq Aq Hq Cq Dq Ee soq scq) w' := by
  generalize hz : mgA gG gB gR gC mB mF mT mN x q = z
  generalize hx : mgX gG gB gR gC mB mF mT mN x q = gx
  generalize hc : mgC gG gB gR gC mB mF mT mN x q = gc
  refine fnB (tb := [(41, sMvOk), (53, sCpA), (90, sGw)]) ⟨sMvOk_I, sCpA_I, sGw_I, trivial⟩ Try.func40 (@Eq.mpr _ _ (mgtI_T x O A H C D E so sc gG gB gR gC mB mF mT mN q z gx gc) ?_) (HS.seenAll (fun _ => False) _ (hA.all 0 seenC_nil)) (fun v ch' w' ⟨Oq, Aq, Hq, Cq, Dq, Ee, soq, scq, hv, hc⟩ hs => ⟨Oq, Aq, Hq, Cq, Dq, Ee, soq, scq, by rw [hv], hc.hs hs⟩)
  clear hA
  have hl := lenA_of hcap
  cases hmv : mvOk gG gB gR gC mB mF mT mN
  · have e1 : mgA gG gB gR gC mB mF mT mN x q = x := by simp [mgA, hmv]
    have e2 : mgX gG gB gR gC mB mF mT mN x q = 0 := by simp [mgX, hmv]
    have e3 : mgC gG gB gR gC mB mF mT mN x q = 2 := by simp [mgC, hmv]
    rw [e1] at hz
    rw [e2] at hx
    rw [e3] at hc
    subst hz
    subst hx
    subst hc
    repeat' (first
      | with_reducible exact rfl
      | exact True.intro
      | with_reducible assumption
      | exact hl
      | exact hcap
      | (intro h; exfalso; rw [hmv] at h; simp at h; done)
      | exact (by refine ⟨?_, rfl⟩; repeat' (first | exact True.intro | exact symRows_push | exact rfl | refine And.intro ?_ ?_ | (intro i hi; show _ = _; with_reducible rfl) | (intro i hi; show _ = _; rfl) | (intro i hi; show _ = _; simp only [SC.den]; split <;> rfl)))
      | refine And.intro ?_ ?_
      | apply Exists.intro
      | (intro h; exfalso; simp at h; done)
      | (intro h; replace h := of_decide_eq_true h; first | (exfalso; omega) | skip)
      | (intro h; replace h := of_decide_eq_false h; first | (exfalso; omega) | skip)
      | (intro i hi; with_reducible exact rfl)
      | intro _
      | omega
      | exact rfl)
  · cases hn : (mN == gC)
    · have e1 : mgA gG gB gR gC mB mF mT mN x q = gwA gG gB gR gC mB mF q x := by simp [mgA, hmv, ieq, hn]
      have e2 : mgX gG gB gR gC mB mF mT mN x q = gwX gG gB gR gC mB mF q x := by simp [mgX, hmv, ieq, hn]
      have e3 : mgC gG gB gR gC mB mF mT mN x q = gwC gG gB gR gC mB mF q x := by simp [mgC, hmv, ieq, hn]
      rw [e1] at hz
      rw [e2] at hx
      rw [e3] at hc
      subst hz
      subst hx
      subst hc
      repeat' (first
        | with_reducible exact rfl
        | exact True.intro
        | with_reducible assumption
        | exact hl
        | exact hcap
        | (intro h; exfalso; rw [hmv] at h; simp at h; done)
        | (intro h; exfalso; rw [hn] at h; simp at h; done)
        | exact (by refine ⟨?_, rfl⟩; repeat' (first | exact True.intro | exact symRows_push | exact rfl | refine And.intro ?_ ?_ | (intro i hi; show _ = _; with_reducible rfl) | (intro i hi; show _ = _; rfl) | (intro i hi; show _ = _; simp only [SC.den]; split <;> rfl)))
        | refine And.intro ?_ ?_
        | apply Exists.intro
        | (intro h; exfalso; simp at h; done)
        | (intro h; replace h := of_decide_eq_true h; first | (exfalso; omega) | skip)
        | (intro h; replace h := of_decide_eq_false h; first | (exfalso; omega) | skip)
        | (intro i hi; with_reducible exact rfl)
        | intro _
        | omega
        | exact rfl)
    · have e1 : mgA gG gB gR gC mB mF mT mN x q = gwA gG gB gR gC mB mT q x := by simp [mgA, hmv, ieq, hn]
      have e2 : mgX gG gB gR gC mB mF mT mN x q = gwX gG gB gR gC mB mT q x := by simp [mgX, hmv, ieq, hn]
      have e3 : mgC gG gB gR gC mB mF mT mN x q = gwC gG gB gR gC mB mT q x := by simp [mgC, hmv, ieq, hn]
      rw [e1] at hz
      rw [e2] at hx
      rw [e3] at hc
      subst hz
      subst hx
      subst hc
      repeat' (first
        | with_reducible exact rfl
        | exact True.intro
        | with_reducible assumption
        | exact hl
        | exact hcap
        | (intro h; exfalso; rw [hmv] at h; simp at h; done)
        | (intro h; exfalso; rw [hn] at h; simp at h; done)
        | exact (by refine ⟨?_, rfl⟩; repeat' (first | exact True.intro | exact symRows_push | exact rfl | refine And.intro ?_ ?_ | (intro i hi; show _ = _; with_reducible rfl) | (intro i hi; show _ = _; rfl) | (intro i hi; show _ = _; simp only [SC.den]; split <;> rfl)))
        | refine And.intro ?_ ?_
        | apply Exists.intro
        | (intro h; exfalso; simp at h; done)
        | (intro h; replace h := of_decide_eq_true h; first | (exfalso; omega) | skip)
        | (intro h; replace h := of_decide_eq_false h; first | (exfalso; omega) | skip)
        | (intro i hi; with_reducible exact rfl)
        | intro _
        | omega
        | exact rfl)
theorem mgtS_T (x : AD) (O A H : Option Addr) (C D E : Nat) (so : Nat → Option Addr) (sc : Nat → Nat) (gG gB gR gC : Int) (mB mF mT mN : Int) (q : Int) (z : AD) (gx gc : Int) : (exFn Try.prog {tb := [(47, sMvOk), (45, sCpA), (36, sGw)]} 400 Try.f42 ([.a (.agg [.int gG, .int gB, .int gR, .int gC]), .a (arrS 0 x O A H C D E), .a (.agg [.int mB, .int mF, .int mT, .int mN]), .a (.c (.int q))]) (arrR 0 x O A H so sc) (fun v ch => ∃ (Oq Aq Hq : Option Addr) (Cq Dq Ee : Nat) (soq : Nat → Option Addr) (scq : Nat → Nat), v.den = .tuple #[arrV z Oq Aq Hq Cq Dq Ee, .int .i64 gx, .int .i64 gc] ∧ SelS ch (idsArr v ch) (arrO 0 z Oq Aq Hq Cq Dq Ee soq scq))) = (
  (∀ b0 : Nat,
 (∀ b1 : Nat,
 (∀ b2 : Nat,
 (∀ b3 : Nat,
 (b0 = b0 ∧
 (b2 = b2 ∧
 (((!(mvOk gG gB gR gC mB mF mT mN)) = true →
 (b1 = b1 ∧
 (∃ t4 : Nat, (∃ y5 : CD, (∃ so6 : (Nat →
 (Option Addr)), (∃ sc7 : (Nat →
 Nat), (∃ sd8 : (Nat →
 Nat), (∃ ag9 : (Nat →
 Int), (∃ hg10 : (Nat →
 Int), (((symRows false 0 x.1 so (fun x11 => 0)) = (symRows false t4 y5 so6 sd8) ∧
 ([(fun i12 => (Cs 3 (so i12) (x.1.2 i12) (sc i12))), (fun i13 => (Cb (x.1.4 i13)))] = [(fun i14 => (Cs 3 (so6 i14) (y5.2 i14) (sc7 i14))), (fun i15 => (Cb (y5.4 i15)))] ∧
 (O = O ∧
 (x.1.1 = x.1.1 ∧
 (x.1.1 = y5.1 ∧
 (A = A ∧
 (x.2 = x.2 ∧
 ([(fun i16 => (Ci (x.3 i16)))] = [(fun i17 => (Ci (ag9 i17)))] ∧
 (H = H ∧
 (x.4 = x.4 ∧
 [(fun i18 => (Ci (x.5 i18)))] = [(fun i19 => (Ci (hg10 i19)))])))))))))) ∧
 ((capA (AD.mk y5 x.2 ag9 x.4 hg10)) ∧
 (∀ Oq20 : (Option Addr),
 (∀ Aq21 : (Option Addr),
 (∀ Hq22 : (Option Addr),
 (∀ Cq23 : Nat,
 (∀ Dq24 : Nat,
 (∀ Ee25 : Nat,
 (∀ soq26 : (Nat →
 (Option Addr)),
 (∀ scq27 : (Nat →
 Nat),
 (b3 = b3 ∧
 (b3 = b3 ∧
 (∃ Oq28 : (Option Addr), (∃ Aq29 : (Option Addr), (∃ Hq30 : (Option Addr), (∃ Cq31 : Nat, (∃ Dq32 : Nat, (∃ Ee33 : Nat, (∃ soq34 : (Nat →
 (Option Addr)), (∃ scq35 : (Nat →
 Nat), ((Wu [(Wa [(Ws Oq20 y5.1 Cq23), (Ws Aq21 x.2 Dq24), (Ws Hq22 x.4 Ee25)]), (Wi 0), (Wi 2)]) = (Wu [(Wa [(Ws Oq28 z.1.1 Cq31), (Ws Aq29 z.2 Dq32), (Ws Hq30 z.4 Ee33)]), (Wi gx), (Wi gc)]) ∧
 (SelS [(Hr false O 0 2 x.1.1 0 [(fun i36 => (Cs 3 (so i36) (x.1.2 i36) (sc i36))), (fun i37 => (Cb (x.1.4 i37)))]), (Hr false A 0 1 x.2 0 [(fun i38 => (Ci (x.3 i38)))]), (Hr false H 0 1 x.4 0 [(fun i39 => (Ci (x.5 i39)))]), (Ho false (symRows false 0 x.1 so (fun x40 => 0))), (Hc b0 37 [(Ci gG), (Ci gB), (Ci gR), (Ci gC)]), (Hc b1 33 [(Cs 0 O x.1.1 C), (Cs 1 A x.2 D), (Cs 2 H x.4 E)]), (Hc b2 34 [(Ci mB), (Ci mF), (Ci mT), (Ci mN)]), (Hc b3 33 [(Cs 8 Oq20 y5.1 Cq23), (Cs 9 Aq21 x.2 Dq24), (Cs 10 Hq22 x.4 Ee25)]), (Hr true Oq20 52 2 y5.1 Cq23 [(fun i41 => (Cs 11 (soq26 i41) (y5.2 i41) (scq27 i41))), (fun i42 => (Cb (y5.4 i42)))]), (Hr true Aq21 3 1 x.2 Dq24 [(fun i43 => (Ci (ag9 i43)))]), (Hr true Hq22 3 1 x.4 Ee25 [(fun i44 => (Ci (hg10 i44)))]), (Ho true (symRows true 3 y5 soq26 scq27))] [8, 9, 10, 11] [(Hr true Oq28 52 2 z.1.1 Cq31 [(fun i45 => (Cs 3 (soq34 i45) (z.1.2 i45) (scq35 i45))), (fun i46 => (Cb (z.1.4 i46)))]), (Hr true Aq29 3 1 z.2 Dq32 [(fun i47 => (Ci (z.3 i47)))]), (Hr true Hq30 3 1 z.4 Ee33 [(fun i48 => (Ci (z.5 i48)))]), (Ho true (symRows true 3 z.1 soq34 scq35))]))))))))))))))))))))))))))))))) ∧
 ((!(mvOk gG gB gR gC mB mF mT mN)) = false →
 (b2 = b2 ∧
 (b2 = b2 ∧
 (b0 = b0 ∧
 (((mN == gC) = true →
 (b2 = b2 ∧
 (b0 = b0 ∧
 (b1 = b1 ∧
 (b2 = b2 ∧
 (∃ t49 : Nat, (∃ y50 : CD, (∃ so51 : (Nat →
 (Option Addr)), (∃ sc52 : (Nat →
 Nat), (∃ sd53 : (Nat →
 Nat), (∃ ag54 : (Nat →
 Int), (∃ hg55 : (Nat →
 Int), (((symRows false 0 x.1 so (fun x56 => 0)) = (symRows false t49 y50 so51 sd53) ∧
 ([(fun i57 => (Cs 3 (so i57) (x.1.2 i57) (sc i57))), (fun i58 => (Cb (x.1.4 i58)))] = [(fun i59 => (Cs 3 (so51 i59) (y50.2 i59) (sc52 i59))), (fun i60 => (Cb (y50.4 i60)))] ∧
 (O = O ∧
 (x.1.1 = x.1.1 ∧
 (x.1.1 = y50.1 ∧
 (A = A ∧
 (x.2 = x.2 ∧
 ([(fun i61 => (Ci (x.3 i61)))] = [(fun i62 => (Ci (ag54 i62)))] ∧
 (H = H ∧
 (x.4 = x.4 ∧
 [(fun i63 => (Ci (x.5 i63)))] = [(fun i64 => (Ci (hg55 i64)))])))))))))) ∧
 ((capA (AD.mk y50 x.2 ag54 x.4 hg55)) ∧
 (∀ Oq65 : (Option Addr),
 (∀ Aq66 : (Option Addr),
 (∀ Hq67 : (Option Addr),
 (∀ Cq68 : Nat,
 (∀ Dq69 : Nat,
 (∀ Ee70 : Nat,
 (∀ soq71 : (Nat →
 (Option Addr)),
 (∀ scq72 : (Nat →
 Nat),
 (∀ b73 : Nat,
 (b73 = b73 ∧
 (b73 = b73 ∧
 (b3 = b3 ∧
 (b3 = b3 ∧
 (∃ Oq74 : (Option Addr), (∃ Aq75 : (Option Addr), (∃ Hq76 : (Option Addr), (∃ Cq77 : Nat, (∃ Dq78 : Nat, (∃ Ee79 : Nat, (∃ soq80 : (Nat →
 (Option Addr)), (∃ scq81 : (Nat →
 Nat), ((Wu [(Wa [(Ws Oq65 ((gwA gG gB gR gC mB mT q (AD.mk y50 x.2 ag54 x.4 hg55))).1.1 Cq68), (Ws Aq66 ((gwA gG gB gR gC mB mT q (AD.mk y50 x.2 ag54 x.4 hg55))).2 Dq69), (Ws Hq67 ((gwA gG gB gR gC mB mT q (AD.mk y50 x.2 ag54 x.4 hg55))).4 Ee70)]), (Wi (gwX gG gB gR gC mB mT q (AD.mk y50 x.2 ag54 x.4 hg55))), (Wi (gwC gG gB gR gC mB mT q (AD.mk y50 x.2 ag54 x.4 hg55)))]) = (Wu [(Wa [(Ws Oq74 z.1.1 Cq77), (Ws Aq75 z.2 Dq78), (Ws Hq76 z.4 Ee79)]), (Wi gx), (Wi gc)]) ∧
 (SelS [(Hr false O 0 2 x.1.1 0 [(fun i82 => (Cs 3 (so i82) (x.1.2 i82) (sc i82))), (fun i83 => (Cb (x.1.4 i83)))]), (Hr false A 0 1 x.2 0 [(fun i84 => (Ci (x.3 i84)))]), (Hr false H 0 1 x.4 0 [(fun i85 => (Ci (x.5 i85)))]), (Ho false (symRows false 0 x.1 so (fun x86 => 0))), (Hc b0 37 [(Ci gG), (Ci gB), (Ci gR), (Ci gC)]), (Hc b1 33 [(Cs 0 O x.1.1 C), (Cs 1 A x.2 D), (Cs 2 H x.4 E)]), (Hc b2 34 [(Ci mB), (Ci mF), (Ci mT), (Ci mN)]), (Hc b3 33 [(Cs 8 Oq65 ((gwA gG gB gR gC mB mT q (AD.mk y50 x.2 ag54 x.4 hg55))).1.1 Cq68), (Cs 9 Aq66 ((gwA gG gB gR gC mB mT q (AD.mk y50 x.2 ag54 x.4 hg55))).2 Dq69), (Cs 10 Hq67 ((gwA gG gB gR gC mB mT q (AD.mk y50 x.2 ag54 x.4 hg55))).4 Ee70)]), (Hr true Oq65 52 2 ((gwA gG gB gR gC mB mT q (AD.mk y50 x.2 ag54 x.4 hg55))).1.1 Cq68 [(fun i87 => (Cs 11 (soq71 i87) (((gwA gG gB gR gC mB mT q (AD.mk y50 x.2 ag54 x.4 hg55))).1.2 i87) (scq72 i87))), (fun i88 => (Cb (((gwA gG gB gR gC mB mT q (AD.mk y50 x.2 ag54 x.4 hg55))).1.4 i88)))]), (Hr true Aq66 3 1 ((gwA gG gB gR gC mB mT q (AD.mk y50 x.2 ag54 x.4 hg55))).2 Dq69 [(fun i89 => (Ci (((gwA gG gB gR gC mB mT q (AD.mk y50 x.2 ag54 x.4 hg55))).3 i89)))]), (Hr true Hq67 3 1 ((gwA gG gB gR gC mB mT q (AD.mk y50 x.2 ag54 x.4 hg55))).4 Ee70 [(fun i90 => (Ci (((gwA gG gB gR gC mB mT q (AD.mk y50 x.2 ag54 x.4 hg55))).5 i90)))]), (Ho true (symRows true 3 ((gwA gG gB gR gC mB mT q (AD.mk y50 x.2 ag54 x.4 hg55))).1 soq71 scq72)), (Hc b73 33 [(Cs 8 Oq65 ((gwA gG gB gR gC mB mT q (AD.mk y50 x.2 ag54 x.4 hg55))).1.1 Cq68), (Cs 9 Aq66 ((gwA gG gB gR gC mB mT q (AD.mk y50 x.2 ag54 x.4 hg55))).2 Dq69), (Cs 10 Hq67 ((gwA gG gB gR gC mB mT q (AD.mk y50 x.2 ag54 x.4 hg55))).4 Ee70)])] [8, 9, 10, 11] [(Hr true Oq74 52 2 z.1.1 Cq77 [(fun i91 => (Cs 3 (soq80 i91) (z.1.2 i91) (scq81 i91))), (fun i92 => (Cb (z.1.4 i92)))]), (Hr true Aq75 3 1 z.2 Dq78 [(fun i93 => (Ci (z.3 i93)))]), (Hr true Hq76 3 1 z.4 Ee79 [(fun i94 => (Ci (z.5 i94)))]), (Ho true (symRows true 3 z.1 soq80 scq81))]))))))))))))))))))))))))))))))))))))) ∧
 ((mN == gC) = false →
 (b0 = b0 ∧
 (b1 = b1 ∧
 (b2 = b2 ∧
 (∃ t95 : Nat, (∃ y96 : CD, (∃ so97 : (Nat →
 (Option Addr)), (∃ sc98 : (Nat →
 Nat), (∃ sd99 : (Nat →
 Nat), (∃ ag100 : (Nat →
 Int), (∃ hg101 : (Nat →
 Int), (((symRows false 0 x.1 so (fun x102 => 0)) = (symRows false t95 y96 so97 sd99) ∧
 ([(fun i103 => (Cs 3 (so i103) (x.1.2 i103) (sc i103))), (fun i104 => (Cb (x.1.4 i104)))] = [(fun i105 => (Cs 3 (so97 i105) (y96.2 i105) (sc98 i105))), (fun i106 => (Cb (y96.4 i106)))] ∧
 (O = O ∧
 (x.1.1 = x.1.1 ∧
 (x.1.1 = y96.1 ∧
 (A = A ∧
 (x.2 = x.2 ∧
 ([(fun i107 => (Ci (x.3 i107)))] = [(fun i108 => (Ci (ag100 i108)))] ∧
 (H = H ∧
 (x.4 = x.4 ∧
 [(fun i109 => (Ci (x.5 i109)))] = [(fun i110 => (Ci (hg101 i110)))])))))))))) ∧
 ((capA (AD.mk y96 x.2 ag100 x.4 hg101)) ∧
 (∀ Oq111 : (Option Addr),
 (∀ Aq112 : (Option Addr),
 (∀ Hq113 : (Option Addr),
 (∀ Cq114 : Nat,
 (∀ Dq115 : Nat,
 (∀ Ee116 : Nat,
 (∀ soq117 : (Nat →
 (Option Addr)),
 (∀ scq118 : (Nat →
 Nat),
 (∀ b119 : Nat,
 (b119 = b119 ∧
 (b119 = b119 ∧
 (b3 = b3 ∧
 (b3 = b3 ∧
 (∃ Oq120 : (Option Addr), (∃ Aq121 : (Option Addr), (∃ Hq122 : (Option Addr), (∃ Cq123 : Nat, (∃ Dq124 : Nat, (∃ Ee125 : Nat, (∃ soq126 : (Nat →
 (Option Addr)), (∃ scq127 : (Nat →
 Nat), ((Wu [(Wa [(Ws Oq111 ((gwA gG gB gR gC mB mF q (AD.mk y96 x.2 ag100 x.4 hg101))).1.1 Cq114), (Ws Aq112 ((gwA gG gB gR gC mB mF q (AD.mk y96 x.2 ag100 x.4 hg101))).2 Dq115), (Ws Hq113 ((gwA gG gB gR gC mB mF q (AD.mk y96 x.2 ag100 x.4 hg101))).4 Ee116)]), (Wi (gwX gG gB gR gC mB mF q (AD.mk y96 x.2 ag100 x.4 hg101))), (Wi (gwC gG gB gR gC mB mF q (AD.mk y96 x.2 ag100 x.4 hg101)))]) = (Wu [(Wa [(Ws Oq120 z.1.1 Cq123), (Ws Aq121 z.2 Dq124), (Ws Hq122 z.4 Ee125)]), (Wi gx), (Wi gc)]) ∧
 (SelS [(Hr false O 0 2 x.1.1 0 [(fun i128 => (Cs 3 (so i128) (x.1.2 i128) (sc i128))), (fun i129 => (Cb (x.1.4 i129)))]), (Hr false A 0 1 x.2 0 [(fun i130 => (Ci (x.3 i130)))]), (Hr false H 0 1 x.4 0 [(fun i131 => (Ci (x.5 i131)))]), (Ho false (symRows false 0 x.1 so (fun x132 => 0))), (Hc b0 37 [(Ci gG), (Ci gB), (Ci gR), (Ci gC)]), (Hc b1 33 [(Cs 0 O x.1.1 C), (Cs 1 A x.2 D), (Cs 2 H x.4 E)]), (Hc b2 34 [(Ci mB), (Ci mF), (Ci mT), (Ci mN)]), (Hc b3 33 [(Cs 8 Oq111 ((gwA gG gB gR gC mB mF q (AD.mk y96 x.2 ag100 x.4 hg101))).1.1 Cq114), (Cs 9 Aq112 ((gwA gG gB gR gC mB mF q (AD.mk y96 x.2 ag100 x.4 hg101))).2 Dq115), (Cs 10 Hq113 ((gwA gG gB gR gC mB mF q (AD.mk y96 x.2 ag100 x.4 hg101))).4 Ee116)]), (Hr true Oq111 52 2 ((gwA gG gB gR gC mB mF q (AD.mk y96 x.2 ag100 x.4 hg101))).1.1 Cq114 [(fun i133 => (Cs 11 (soq117 i133) (((gwA gG gB gR gC mB mF q (AD.mk y96 x.2 ag100 x.4 hg101))).1.2 i133) (scq118 i133))), (fun i134 => (Cb (((gwA gG gB gR gC mB mF q (AD.mk y96 x.2 ag100 x.4 hg101))).1.4 i134)))]), (Hr true Aq112 3 1 ((gwA gG gB gR gC mB mF q (AD.mk y96 x.2 ag100 x.4 hg101))).2 Dq115 [(fun i135 => (Ci (((gwA gG gB gR gC mB mF q (AD.mk y96 x.2 ag100 x.4 hg101))).3 i135)))]), (Hr true Hq113 3 1 ((gwA gG gB gR gC mB mF q (AD.mk y96 x.2 ag100 x.4 hg101))).4 Ee116 [(fun i136 => (Ci (((gwA gG gB gR gC mB mF q (AD.mk y96 x.2 ag100 x.4 hg101))).5 i136)))]), (Ho true (symRows true 3 ((gwA gG gB gR gC mB mF q (AD.mk y96 x.2 ag100 x.4 hg101))).1 soq117 scq118)), (Hc b119 33 [(Cs 8 Oq111 ((gwA gG gB gR gC mB mF q (AD.mk y96 x.2 ag100 x.4 hg101))).1.1 Cq114), (Cs 9 Aq112 ((gwA gG gB gR gC mB mF q (AD.mk y96 x.2 ag100 x.4 hg101))).2 Dq115), (Cs 10 Hq113 ((gwA gG gB gR gC mB mF q (AD.mk y96 x.2 ag100 x.4 hg101))).4 Ee116)])] [8, 9, 10, 11] [(Hr true Oq120 52 2 z.1.1 Cq123 [(fun i137 => (Cs 3 (soq126 i137) (z.1.2 i137) (scq127 i137))), (fun i138 => (Cb (z.1.4 i138)))]), (Hr true Aq121 3 1 z.2 Dq124 [(fun i139 => (Ci (z.3 i139)))]), (Hr true Hq122 3 1 z.4 Ee125 [(fun i140 => (Ci (z.5 i140)))]), (Ho true (symRows true 3 z.1 soq126 scq127))]))))))))))))))))))))))))))))))))))))))))))))))))) := by kernel_rfl
theorem mgtS_all (x : AD) (O A H : Option Addr) (C D E : Nat) (so : Nat → Option Addr) (sc : Nat → Nat) (gG gB gR gC : Int) (mB mF mT mN : Int) (q : Int) (w : World) (hA : SeenA w x O A H so sc) (hcap : capA x) : Calls Try.prog 42 #[.agg #[.int .i64 gG, .int .i64 gB, .int .i64 gR, .int .i64 gC], arrV x O A H C D E, .agg #[.int .i64 mB, .int .i64 mF, .int .i64 mT, .int .i64 mN], .int .i64 q] w fun e w' => ∃ (Oq Aq Hq : Option Addr) (Cq Dq Ee : Nat) (soq : Nat → Option Addr) (scq : Nat → Nat), e = .returned (.tuple #[arrV (mgA gG gB gR gC mB mF mT mN x q) Oq Aq Hq Cq Dq Ee, .int .i64 (mgX gG gB gR gC mB mF mT mN x q), .int .i64 (mgC gG gB gR gC mB mF mT mN x q)]) ∧ HS ⟨w, fun _ => False⟩ (arrO 0 (mgA gG gB gR gC mB mF mT mN x q) Oq Aq Hq Cq Dq Ee soq scq) w' := by
  generalize hz : mgA gG gB gR gC mB mF mT mN x q = z
  generalize hx : mgX gG gB gR gC mB mF mT mN x q = gx
  generalize hc : mgC gG gB gR gC mB mF mT mN x q = gc
  refine fnB (tb := [(47, sMvOk), (45, sCpA), (36, sGw)]) ⟨sMvOk_S, sCpA_S, sGw_S, trivial⟩ Try.func42 (@Eq.mpr _ _ (mgtS_T x O A H C D E so sc gG gB gR gC mB mF mT mN q z gx gc) ?_) (HS.seenAll (fun _ => False) _ (hA.all 0 seenC_nil)) (fun v ch' w' ⟨Oq, Aq, Hq, Cq, Dq, Ee, soq, scq, hv, hc⟩ hs => ⟨Oq, Aq, Hq, Cq, Dq, Ee, soq, scq, by rw [hv], hc.hs hs⟩)
  clear hA
  have hl := lenA_of hcap
  cases hmv : mvOk gG gB gR gC mB mF mT mN
  · have e1 : mgA gG gB gR gC mB mF mT mN x q = x := by simp [mgA, hmv]
    have e2 : mgX gG gB gR gC mB mF mT mN x q = 0 := by simp [mgX, hmv]
    have e3 : mgC gG gB gR gC mB mF mT mN x q = 2 := by simp [mgC, hmv]
    rw [e1] at hz
    rw [e2] at hx
    rw [e3] at hc
    subst hz
    subst hx
    subst hc
    repeat' (first
      | with_reducible exact rfl
      | exact True.intro
      | with_reducible assumption
      | exact hl
      | exact hcap
      | (intro h; exfalso; rw [hmv] at h; simp at h; done)
      | exact (by refine ⟨?_, rfl⟩; repeat' (first | exact True.intro | exact symRows_push | exact rfl | refine And.intro ?_ ?_ | (intro i hi; show _ = _; with_reducible rfl) | (intro i hi; show _ = _; rfl) | (intro i hi; show _ = _; simp only [SC.den]; split <;> rfl)))
      | refine And.intro ?_ ?_
      | apply Exists.intro
      | (intro h; exfalso; simp at h; done)
      | (intro h; replace h := of_decide_eq_true h; first | (exfalso; omega) | skip)
      | (intro h; replace h := of_decide_eq_false h; first | (exfalso; omega) | skip)
      | (intro i hi; with_reducible exact rfl)
      | intro _
      | omega
      | exact rfl)
  · cases hn : (mN == gC)
    · have e1 : mgA gG gB gR gC mB mF mT mN x q = gwA gG gB gR gC mB mF q x := by simp [mgA, hmv, ieq, hn]
      have e2 : mgX gG gB gR gC mB mF mT mN x q = gwX gG gB gR gC mB mF q x := by simp [mgX, hmv, ieq, hn]
      have e3 : mgC gG gB gR gC mB mF mT mN x q = gwC gG gB gR gC mB mF q x := by simp [mgC, hmv, ieq, hn]
      rw [e1] at hz
      rw [e2] at hx
      rw [e3] at hc
      subst hz
      subst hx
      subst hc
      repeat' (first
        | with_reducible exact rfl
        | exact True.intro
        | with_reducible assumption
        | exact hl
        | exact hcap
        | (intro h; exfalso; rw [hmv] at h; simp at h; done)
        | (intro h; exfalso; rw [hn] at h; simp at h; done)
        | exact (by refine ⟨?_, rfl⟩; repeat' (first | exact True.intro | exact symRows_push | exact rfl | refine And.intro ?_ ?_ | (intro i hi; show _ = _; with_reducible rfl) | (intro i hi; show _ = _; rfl) | (intro i hi; show _ = _; simp only [SC.den]; split <;> rfl)))
        | refine And.intro ?_ ?_
        | apply Exists.intro
        | (intro h; exfalso; simp at h; done)
        | (intro h; replace h := of_decide_eq_true h; first | (exfalso; omega) | skip)
        | (intro h; replace h := of_decide_eq_false h; first | (exfalso; omega) | skip)
        | (intro i hi; with_reducible exact rfl)
        | intro _
        | omega
        | exact rfl)
    · have e1 : mgA gG gB gR gC mB mF mT mN x q = gwA gG gB gR gC mB mT q x := by simp [mgA, hmv, ieq, hn]
      have e2 : mgX gG gB gR gC mB mF mT mN x q = gwX gG gB gR gC mB mT q x := by simp [mgX, hmv, ieq, hn]
      have e3 : mgC gG gB gR gC mB mF mT mN x q = gwC gG gB gR gC mB mT q x := by simp [mgC, hmv, ieq, hn]
      rw [e1] at hz
      rw [e2] at hx
      rw [e3] at hc
      subst hz
      subst hx
      subst hc
      repeat' (first
        | with_reducible exact rfl
        | exact True.intro
        | with_reducible assumption
        | exact hl
        | exact hcap
        | (intro h; exfalso; rw [hmv] at h; simp at h; done)
        | (intro h; exfalso; rw [hn] at h; simp at h; done)
        | exact (by refine ⟨?_, rfl⟩; repeat' (first | exact True.intro | exact symRows_push | exact rfl | refine And.intro ?_ ?_ | (intro i hi; show _ = _; with_reducible rfl) | (intro i hi; show _ = _; rfl) | (intro i hi; show _ = _; simp only [SC.den]; split <;> rfl)))
        | refine And.intro ?_ ?_
        | apply Exists.intro
        | (intro h; exfalso; simp at h; done)
        | (intro h; replace h := of_decide_eq_true h; first | (exfalso; omega) | skip)
        | (intro h; replace h := of_decide_eq_false h; first | (exfalso; omega) | skip)
        | (intro i hi; with_reducible exact rfl)
        | intro _
        | omega
        | exact rfl)
end Go.Proofs.Ytddeinpnadfgmaa

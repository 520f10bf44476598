/-
  Corrections committed.
-/
import Derived.Test.YtddeinpnadfgmaaSxS1
namespace Go.Proofs.Ytddeinpnadfgmaa
set_option linter.unusedVariables false
set_option linter.unusedSimpArgs false
open Go.RowKit
set_option maxRecDepth 100000
set_option maxHeartbeats 8000000

def sameB (x : AD) (k : Nat) (n : Nat) (f : Nat → Int) (p : Bool) : Bool := andB (beqb (x.c.po k) p) (eqSB (x.c.sn k) (x.c.sy k) n f)
def scOk (gG gB gR gC : Int) (x : AD) (tI : Int) (bn : Nat) (bf : Nat → Int) (bp : Bool) (kn : Nat) (kf : Nat → Int) : Bool := arrOk gG gB gR gC x && atOk gG gB gR gC tI && symB kn kf 11 && sameB x tI.toNat bn bf bp
def scA (gG gB gR gC : Int) (x : AD) (tI : Int) (bn : Nat) (bf : Nat → Int) (bp : Bool) (kn : Nat) (kf : Nat → Int) (kp : Bool) : AD := if scOk gG gB gR gC x tI bn bf bp kn kf = true then setA x tI.toNat kn kf kp else x
theorem at_addr {g b r c n : Int} (h : atOk g b r c n = true) : adOk g b r c (atB g b r c n) (atR g b r c n) (atC g b r c n) = true ∧ adIx g b r c (atB g b r c n) (atR g b r c n) (atC g b r c n) = n := by
  have h0 := h
  simp only [atOk, Bool.and_eq_true] at h0
  obtain ⟨hg, hz⟩ := h0
  have hf := geo_facts hg
  have hb := geo_bank hg
  have hl : lineN g b r c = g * b * r * c := by simp [lineN, hg]
  have hn := btw_f hz
  rw [hl] at hn
  have e1 : atB g b r c n = n / c / r := by simp [atB, h]
  have e2 : atR g b r c n = n / c % r := by simp [atR, h]
  have e3 : atC g b r c n = n % c := by simp [atC, h]
  have h1 : n / c < g * b * r := Int.ediv_lt_of_lt_mul (by omega) (by omega)
  have h2 : n / c / r < g * b := Int.ediv_lt_of_lt_mul (by omega) h1
  have h3 : 0 ≤ n / c := Int.ediv_nonneg (by omega) (by omega)
  have h4 : 0 ≤ n / c / r := Int.ediv_nonneg h3 (by omega)
  have h5 := Int.emod_nonneg (n / c) (show r ≠ 0 by omega)
  have h6 := Int.emod_lt_of_pos (n / c) (show 0 < r by omega)
  have h7 := Int.emod_nonneg n (show c ≠ 0 by omega)
  have h8 := Int.emod_lt_of_pos n (show 0 < c by omega)
  have hk : bankN g b r c = g * b := by simp [bankN, hg]
  have had : adOk g b r c (n / c / r) (n / c % r) (n % c) = true := by
    simp only [adOk, Bool.and_eq_true, hk]
    exact ⟨⟨⟨hg, btw_mk (by omega) (by omega)⟩, btw_mk h5 (by omega)⟩, btw_mk h7 (by omega)⟩
  rw [e1, e2, e3]
  refine ⟨had, ?_⟩
  simp only [adIx, had, if_true]
  have g1 := Int.mul_ediv_add_emod (n / c) r
  have g2 := Int.mul_ediv_add_emod n c
  have g3 : n / c / r * r + n / c % r = n / c := by rw [Int.mul_comm]; exact g1
  rw [g3, Int.mul_comm]
  exact g2
theorem sc_facts {gG gB gR gC tI : Int} {x : AD} {bn kn : Nat} {bf kf : Nat → Int} {bp : Bool} (h : scOk gG gB gR gC x tI bn bf bp kn kf = true) : arrOk gG gB gR gC x = true ∧ atOk gG gB gR gC tI = true ∧ symB kn kf 11 = true ∧ (x.c.po tI.toNat == bp) = true ∧ eqSB (x.c.sn tI.toNat) (x.c.sy tI.toNat) bn bf = true := by
  simp only [scOk, sameB, andB, beqb, Bool.and_eq_true] at h
  exact ⟨h.1.1.1, h.1.1.2, h.1.2, h.2.1, h.2.2⟩
theorem line_bd (G B R K : Int) : 0 ≤ lineN G B R K ∧ lineN G B R K ≤ 1024 := by
  unfold lineN
  split
  · rename_i h
    exact (geo_row h).2
  · omega
theorem at_in {G B R K n : Int} {x : AD} (h : arrOk G B R K x = true) (h2 : atOk G B R K n = true) : (0 ≤ n ∧ n < (x.c.n : Int) ∧ n.toNat < x.c.n) ∧ btw n 0 (lineN G B R K - 1) = true := by
  have h3 := arr_in h (at_addr h2).1
  rw [(at_addr h2).2] at h3
  simp only [atOk, Bool.and_eq_true] at h2
  exact ⟨h3, h2.2⟩
theorem at_not {G B R K n : Int} {x : AD} (h : arrOk G B R K x = true) (h2 : atOk G B R K n = false) : btw n 0 (lineN G B R K - 1) = false := by
  have hg := (arrOk_facts h).1
  simpa [atOk, hg] using h2
theorem scIY_T (x : AD) (O A H : Option Addr) (C D E : Nat) (so : Nat → Option Addr) (sc : Nat → Nat) (gG gB gR gC : Int) (tI : Int) (bo ko : Option Addr) (bn bc kn kc : Nat) (bf kf : Nat → Int) (bp kp : Bool) (tC : Int) : (exFn Try.prog {tb := [(53, sCpA), (67, sAdAt), (52, sArrOk), (68, sSym), (69, sAdIx), (70, sEqL), (71, sCpC)], D := fun _ => [9]} 400 Try.f23 ([.a (.agg [.int gG, .int gB, .int gR, .int gC]), .a (arrS 0 x O A H C D E), .a (.agg [.int tI, .sl 4 bo bn bc, .bool bp, .sl 5 ko kn kc, .bool kp, .int tC])]) (arrR 0 x O A H so sc ++ [.row ⟨false, bo, 0, 1, bn, 0, [fun i => .int (bf i)]⟩, .row ⟨false, ko, 0, 1, kn, 0, [fun i => .int (kf i)]⟩]) (fun v ch => ∃ (Oq Aq Hq : Option Addr) (Cq Dq Ee : Nat) (soq : Nat → Option Addr) (scq : Nat → Nat) (ro : Option Addr) (rc : Nat), v.den = .tuple #[arrV x Oq Aq Hq Cq Dq Ee, .bool true] ∧ SelS ch (idsSt v ch) (storedCh x (tn tI) kn kf kp Oq Aq Hq Cq Dq Ee soq scq ro rc))) = (
  (∀ b0 : Nat,
 (∀ b1 : Nat,
 (∀ b2 : Nat,
 (∀ b3 : Nat,
 (b1 = b1 ∧
 (Exists (fun (t4 : Nat) => (Exists (fun (y5 : CD) => (Exists (fun (so6 : (Nat →
 (Option Addr))) => (Exists (fun (sc7 : (Nat →
 Nat)) => (Exists (fun (sd8 : (Nat →
 Nat)) => (Exists (fun (ag9 : (Nat →
 Int)) => (Exists (fun (hg10 : (Nat →
 Int)) => (((symRows Bool.false 0 (x).1 so (fun (x11 : Nat) => 0)) = (symRows Bool.false t4 y5 so6 sd8) ∧
 ([(fun (i12 : Nat) => (SC.sl 3 (so i12) (((x).1).2 i12) (sc i12))), (fun (i13 : Nat) => (SC.bool (((x).1).4 i13)))] = [(fun (i14 : Nat) => (SC.sl 3 (so6 i14) ((y5).2 i14) (sc7 i14))), (fun (i15 : Nat) => (SC.bool ((y5).4 i15)))] ∧
 (O = O ∧
 (((x).1).1 = ((x).1).1 ∧
 (((x).1).1 = (y5).1 ∧
 (A = A ∧
 ((x).2 = (x).2 ∧
 ([(fun (i16 : Nat) => (SC.int ((x).3 i16)))] = [(fun (i17 : Nat) => (SC.int (ag9 i17)))] ∧
 (H = H ∧
 ((x).4 = (x).4 ∧
 [(fun (i18 : Nat) => (SC.int ((x).5 i18)))] = [(fun (i19 : Nat) => (SC.int (hg10 i19)))])))))))))) ∧
 ((capA (AD.mk y5 (x).2 ag9 (x).4 hg10)) ∧
 (∀ Oq20 : (Option Addr),
 (∀ Aq21 : (Option Addr),
 (∀ Hq22 : (Option Addr),
 (∀ Cq23 : Nat,
 (∀ Dq24 : Nat,
 (∀ Ee25 : Nat,
 (∀ soq26 : (Nat →
 (Option Addr)),
 (∀ scq27 : (Nat →
 Nat),
 (∀ b28 : Nat,
 (b28 = b28 ∧
 (b0 = b0 ∧
 (b2 = b2 ∧
 (∀ b29 : Nat,
 (b29 = b29 ∧
 (((!(atOk gG gB gR gC tI)) = Bool.false →
 (b0 = b0 ∧
 (b1 = b1 ∧
 (Exists (fun (t30 : Nat) => (Exists (fun (y31 : CD) => (Exists (fun (so32 : (Nat →
 (Option Addr))) => (Exists (fun (sc33 : (Nat →
 Nat)) => (Exists (fun (sd34 : (Nat →
 Nat)) => (Exists (fun (ag35 : (Nat →
 Int)) => (Exists (fun (hg36 : (Nat →
 Int)) => (((symRows Bool.false 0 (x).1 so (fun (x37 : Nat) => 0)) = (symRows Bool.false t30 y31 so32 sd34) ∧
 ([(fun (i38 : Nat) => (SC.sl 3 (so i38) (((x).1).2 i38) (sc i38))), (fun (i39 : Nat) => (SC.bool (((x).1).4 i39)))] = [(fun (i40 : Nat) => (SC.sl 3 (so32 i40) ((y31).2 i40) (sc33 i40))), (fun (i41 : Nat) => (SC.bool ((y31).4 i41)))] ∧
 (O = O ∧
 (((x).1).1 = ((x).1).1 ∧
 (((x).1).1 = (y31).1 ∧
 (A = A ∧
 ((x).2 = (x).2 ∧
 ([(fun (i42 : Nat) => (SC.int ((x).3 i42)))] = [(fun (i43 : Nat) => (SC.int (ag35 i43)))] ∧
 (H = H ∧
 ((x).4 = (x).4 ∧
 [(fun (i44 : Nat) => (SC.int ((x).5 i44)))] = [(fun (i45 : Nat) => (SC.int (hg36 i45)))])))))))))) ∧
 ((lenA (AD.mk y31 (x).2 ag35 (x).4 hg36)) ∧
 (((!(arrOk gG gB gR gC (AD.mk y31 (x).2 ag35 (x).4 hg36))) = Bool.false →
 (b2 = b2 ∧
 (Exists (fun (g046 : (Nat →
 Int)) => ((ko = ko ∧
 (kn = kn ∧
 [(fun (i47 : Nat) => (SC.int (kf i47)))] = [(fun (i48 : Nat) => (SC.int (g046 i48)))])) ∧
 ((lenC kn) ∧
 (((!(symB kn g046 (11 : Int))) = Bool.true →
 (b28 = b28 ∧
 (b3 = b3 ∧
 (b3 = b3 ∧
 (Exists (fun (Oq49 : (Option Addr)) => (Exists (fun (Aq50 : (Option Addr)) => (Exists (fun (Hq51 : (Option Addr)) => (Exists (fun (Cq52 : Nat) => (Exists (fun (Dq53 : Nat) => (Exists (fun (Ee54 : Nat) => (Exists (fun (soq55 : (Nat →
 (Option Addr))) => (Exists (fun (scq56 : (Nat →
 Nat)) => (Exists (fun (ro57 : (Option Addr)) => (Exists (fun (rc58 : Nat) => ((Value.tuple (List.toArray [(Value.agg (List.toArray [(Value.slice Oq20 (y5).1 Cq23), (Value.slice Aq21 (x).2 Dq24), (Value.slice Hq22 (x).4 Ee25)])), (Value.bool Bool.false)])) = (Value.tuple (List.toArray [(Value.agg (List.toArray [(Value.slice Oq49 ((x).1).1 Cq52), (Value.slice Aq50 (x).2 Dq53), (Value.slice Hq51 (x).4 Ee54)])), (Value.bool Bool.true)])) ∧
 (SelS [(Ch.row (Row.mk Bool.false O 0 2 ((x).1).1 0 [(fun (i59 : Nat) => (SC.sl 3 (so i59) (((x).1).2 i59) (sc i59))), (fun (i60 : Nat) => (SC.bool (((x).1).4 i60)))])), (Ch.row (Row.mk Bool.false A 0 1 (x).2 0 [(fun (i61 : Nat) => (SC.int ((x).3 i61)))])), (Ch.row (Row.mk Bool.false H 0 1 (x).4 0 [(fun (i62 : Nat) => (SC.int ((x).5 i62)))])), (Ch.obj Bool.false (symRows Bool.false 0 (x).1 so (fun (x63 : Nat) => 0))), (Ch.row (Row.mk Bool.false bo 0 1 bn 0 [(fun (i64 : Nat) => (SC.int (bf i64)))])), (Ch.row (Row.mk Bool.false ko 0 1 kn 0 [(fun (i65 : Nat) => (SC.int (kf i65)))])), (Ch.cells b0 37 [(SC.int gG), (SC.int gB), (SC.int gR), (SC.int gC)]), (Ch.cells b1 33 [(SC.sl 0 O ((x).1).1 C), (SC.sl 1 A (x).2 D), (SC.sl 2 H (x).4 E)]), (Ch.cells b2 54 [(SC.int tI), (SC.sl 4 bo bn bc), (SC.bool bp), (SC.sl 5 ko kn kc), (SC.bool kp), (SC.int tC)]), (Ch.cells b3 33 [(SC.sl 10 Oq20 (y5).1 Cq23), (SC.sl 11 Aq21 (x).2 Dq24), (SC.sl 12 Hq22 (x).4 Ee25)]), (Ch.row (Row.mk Bool.true Oq20 52 2 (y5).1 Cq23 [(fun (i66 : Nat) => (SC.sl 13 (soq26 i66) ((y5).2 i66) (scq27 i66))), (fun (i67 : Nat) => (SC.bool ((y5).4 i67)))])), (Ch.row (Row.mk Bool.true Aq21 3 1 (x).2 Dq24 [(fun (i68 : Nat) => (SC.int (ag9 i68)))])), (Ch.row (Row.mk Bool.true Hq22 3 1 (x).4 Ee25 [(fun (i69 : Nat) => (SC.int (hg10 i69)))])), (Ch.obj Bool.true (symRows Bool.true 3 y5 soq26 scq27)), (Ch.cells b28 33 [(SC.sl 10 Oq20 (y5).1 Cq23), (SC.sl 11 Aq21 (x).2 Dq24), (SC.sl 12 Hq22 (x).4 Ee25)]), (Ch.cells b29 70 [(SC.int (atB gG gB gR gC tI)), (SC.int (atR gG gB gR gC tI)), (SC.int (atC gG gB gR gC tI))])] [10, 11, 12, 13, 15] [(Ch.row (Row.mk Bool.true Oq49 52 2 ((x).1).1 Cq52 [(fun (i70 : Nat) => (SC.val (if i70 = (Int.toNat tI) then (Value.slice ro57 kn rc58) else (Value.slice (soq55 i70) (((x).1).2 i70) (scq56 i70))))), (fun (i71 : Nat) => (SC.bool (if i71 = (Int.toNat tI) then kp else (((x).1).4 i71))))])), (Ch.row (Row.mk Bool.true Aq50 3 1 (x).2 Dq53 [(fun (i72 : Nat) => (SC.int ((x).3 i72)))])), (Ch.row (Row.mk Bool.true Hq51 3 1 (x).4 Ee54 [(fun (i73 : Nat) => (SC.int ((x).5 i73)))])), (Ch.obj Bool.true (symRows Bool.true 3 (x).1 soq55 scq56)), (Ch.row (Row.mk Bool.true ro57 3 1 kn rc58 [(fun (i74 : Nat) => (SC.int (kf i74)))]))])))))))))))))))))))))))))) ∧
 ((!(symB kn g046 (11 : Int))) = Bool.false →
 (b1 = b1 ∧
 (b0 = b0 ∧
 (b29 = b29 ∧
 ((True ∧
 (O = O ∧
 (((x).1).1 = ((x).1).1 ∧
 ((0 ≤ (adIx gG gB gR gC (atB gG gB gR gC tI) (atR gG gB gR gC tI) (atC gG gB gR gC tI)) ∧ (adIx gG gB gR gC (atB gG gB gR gC tI) (atR gG gB gR gC tI) (atC gG gB gR gC tI)) < ((((x).1).1 : Nat) : Int)) ∧
 (O = O ∧
 ((Int.toNat (adIx gG gB gR gC (atB gG gB gR gC tI) (atR gG gB gR gC tI) (atC gG gB gR gC tI))) < ((x).1).1 ∧
 (∀ b75 : Nat,
 (True ∧
 (b75 = b75 ∧
 (True ∧
 (b75 = b75 ∧
 (b2 = b2 ∧
 ((((((x).1).4 (Int.toNat (adIx gG gB gR gC (atB gG gB gR gC tI) (atR gG gB gR gC tI) (atC gG gB gR gC tI)))) != bp) = Bool.false →
 (b75 = b75 ∧
 (b2 = b2 ∧
 (Exists (fun (t76 : Nat) => (Exists (fun (y77 : CD) => (Exists (fun (so78 : (Nat →
 (Option Addr))) => (Exists (fun (sc79 : (Nat →
 Nat)) => (Exists (fun (i80 : Nat) => (((symRows Bool.false 0 (x).1 so (fun (x81 : Nat) => 0)) = (symRows Bool.false t76 y77 so78 sc79) ∧
 ((so (Int.toNat (adIx gG gB gR gC (atB gG gB gR gC tI) (atR gG gB gR gC tI) (atC gG gB gR gC tI)))) = (so78 i80) ∧
 ((((x).1).2 (Int.toNat (adIx gG gB gR gC (atB gG gB gR gC tI) (atR gG gB gR gC tI) (atC gG gB gR gC tI)))) = ((y77).2 i80) ∧
 i80 < (y77).1))) ∧
 (Exists (fun (g082 : (Nat →
 Int)) => ((bo = bo ∧
 (bn = bn ∧
 [(fun (i83 : Nat) => (SC.int (bf i83)))] = [(fun (i84 : Nat) => (SC.int (g082 i84)))])) ∧
 ((lenC (((x).1).2 (Int.toNat (adIx gG gB gR gC (atB gG gB gR gC tI) (atR gG gB gR gC tI) (atC gG gB gR gC tI))))) ∧
 (((!(eqSB (((x).1).2 (Int.toNat (adIx gG gB gR gC (atB gG gB gR gC tI) (atR gG gB gR gC tI) (atC gG gB gR gC tI)))) ((y77).3 i80) bn g082)) = Bool.true →
 (b28 = b28 ∧
 (b3 = b3 ∧
 (b3 = b3 ∧
 (Exists (fun (Oq85 : (Option Addr)) => (Exists (fun (Aq86 : (Option Addr)) => (Exists (fun (Hq87 : (Option Addr)) => (Exists (fun (Cq88 : Nat) => (Exists (fun (Dq89 : Nat) => (Exists (fun (Ee90 : Nat) => (Exists (fun (soq91 : (Nat →
 (Option Addr))) => (Exists (fun (scq92 : (Nat →
 Nat)) => (Exists (fun (ro93 : (Option Addr)) => (Exists (fun (rc94 : Nat) => ((Value.tuple (List.toArray [(Value.agg (List.toArray [(Value.slice Oq20 (y5).1 Cq23), (Value.slice Aq21 (x).2 Dq24), (Value.slice Hq22 (x).4 Ee25)])), (Value.bool Bool.false)])) = (Value.tuple (List.toArray [(Value.agg (List.toArray [(Value.slice Oq85 ((x).1).1 Cq88), (Value.slice Aq86 (x).2 Dq89), (Value.slice Hq87 (x).4 Ee90)])), (Value.bool Bool.true)])) ∧
 (SelS [(Ch.row (Row.mk Bool.false O 0 2 ((x).1).1 0 [(fun (i95 : Nat) => (SC.sl 3 (so i95) (((x).1).2 i95) (sc i95))), (fun (i96 : Nat) => (SC.bool (((x).1).4 i96)))])), (Ch.row (Row.mk Bool.false A 0 1 (x).2 0 [(fun (i97 : Nat) => (SC.int ((x).3 i97)))])), (Ch.row (Row.mk Bool.false H 0 1 (x).4 0 [(fun (i98 : Nat) => (SC.int ((x).5 i98)))])), (Ch.obj Bool.false (symRows Bool.false 0 (x).1 so (fun (x99 : Nat) => 0))), (Ch.row (Row.mk Bool.false bo 0 1 bn 0 [(fun (i100 : Nat) => (SC.int (bf i100)))])), (Ch.row (Row.mk Bool.false ko 0 1 kn 0 [(fun (i101 : Nat) => (SC.int (kf i101)))])), (Ch.cells b0 37 [(SC.int gG), (SC.int gB), (SC.int gR), (SC.int gC)]), (Ch.cells b1 33 [(SC.sl 0 O ((x).1).1 C), (SC.sl 1 A (x).2 D), (SC.sl 2 H (x).4 E)]), (Ch.cells b2 54 [(SC.int tI), (SC.sl 4 bo bn bc), (SC.bool bp), (SC.sl 5 ko kn kc), (SC.bool kp), (SC.int tC)]), (Ch.cells b3 33 [(SC.sl 10 Oq20 (y5).1 Cq23), (SC.sl 11 Aq21 (x).2 Dq24), (SC.sl 12 Hq22 (x).4 Ee25)]), (Ch.row (Row.mk Bool.true Oq20 52 2 (y5).1 Cq23 [(fun (i102 : Nat) => (SC.sl 13 (soq26 i102) ((y5).2 i102) (scq27 i102))), (fun (i103 : Nat) => (SC.bool ((y5).4 i103)))])), (Ch.row (Row.mk Bool.true Aq21 3 1 (x).2 Dq24 [(fun (i104 : Nat) => (SC.int (ag9 i104)))])), (Ch.row (Row.mk Bool.true Hq22 3 1 (x).4 Ee25 [(fun (i105 : Nat) => (SC.int (hg10 i105)))])), (Ch.obj Bool.true (symRows Bool.true 3 y5 soq26 scq27)), (Ch.cells b28 33 [(SC.sl 10 Oq20 (y5).1 Cq23), (SC.sl 11 Aq21 (x).2 Dq24), (SC.sl 12 Hq22 (x).4 Ee25)]), (Ch.cells b29 70 [(SC.int (atB gG gB gR gC tI)), (SC.int (atR gG gB gR gC tI)), (SC.int (atC gG gB gR gC tI))]), (Ch.cells b75 52 [(SC.sl 3 (so (Int.toNat (adIx gG gB gR gC (atB gG gB gR gC tI) (atR gG gB gR gC tI) (atC gG gB gR gC tI)))) (((x).1).2 (Int.toNat (adIx gG gB gR gC (atB gG gB gR gC tI) (atR gG gB gR gC tI) (atC gG gB gR gC tI)))) (sc (Int.toNat (adIx gG gB gR gC (atB gG gB gR gC tI) (atR gG gB gR gC tI) (atC gG gB gR gC tI))))), (SC.bool (((x).1).4 (Int.toNat (adIx gG gB gR gC (atB gG gB gR gC tI) (atR gG gB gR gC tI) (atC gG gB gR gC tI)))))])] [10, 11, 12, 13, 16] [(Ch.row (Row.mk Bool.true Oq85 52 2 ((x).1).1 Cq88 [(fun (i106 : Nat) => (SC.val (if i106 = (Int.toNat tI) then (Value.slice ro93 kn rc94) else (Value.slice (soq91 i106) (((x).1).2 i106) (scq92 i106))))), (fun (i107 : Nat) => (SC.bool (if i107 = (Int.toNat tI) then kp else (((x).1).4 i107))))])), (Ch.row (Row.mk Bool.true Aq86 3 1 (x).2 Dq89 [(fun (i108 : Nat) => (SC.int ((x).3 i108)))])), (Ch.row (Row.mk Bool.true Hq87 3 1 (x).4 Ee90 [(fun (i109 : Nat) => (SC.int ((x).5 i109)))])), (Ch.obj Bool.true (symRows Bool.true 3 (x).1 soq91 scq92)), (Ch.row (Row.mk Bool.true ro93 3 1 kn rc94 [(fun (i110 : Nat) => (SC.int (kf i110)))]))])))))))))))))))))))))))))) ∧
 ((!(eqSB (((x).1).2 (Int.toNat (adIx gG gB gR gC (atB gG gB gR gC tI) (atR gG gB gR gC tI) (atC gG gB gR gC tI)))) ((y77).3 i80) bn g082)) = Bool.false →
 (b28 = b28 ∧
 (b2 = b2 ∧
 (b2 = b2 ∧
 (Exists (fun (g0111 : (Nat →
 Int)) => ((ko = ko ∧
 (kn = kn ∧
 [(fun (i112 : Nat) => (SC.int (kf i112)))] = [(fun (i113 : Nat) => (SC.int (g0111 i113)))])) ∧
 ((capC kn) ∧
 (∀ ro114 : (Option Addr),
 (∀ rc115 : Nat,
 (True ∧
 (Oq20 = Oq20 ∧
 ((y5).1 = (y5).1 ∧
 ((0 ≤ tI ∧ tI < (((y5).1 : Nat) : Int)) ∧
 (Oq20 = Oq20 ∧
 ((Int.toNat tI) < (y5).1 ∧
 (True ∧
 (b28 = b28 ∧
 (b3 = b3 ∧
 (b3 = b3 ∧
 (Exists (fun (Oq116 : (Option Addr)) => (Exists (fun (Aq117 : (Option Addr)) => (Exists (fun (Hq118 : (Option Addr)) => (Exists (fun (Cq119 : Nat) => (Exists (fun (Dq120 : Nat) => (Exists (fun (Ee121 : Nat) => (Exists (fun (soq122 : (Nat →
 (Option Addr))) => (Exists (fun (scq123 : (Nat →
 Nat)) => (Exists (fun (ro124 : (Option Addr)) => (Exists (fun (rc125 : Nat) => ((Value.tuple (List.toArray [(Value.agg (List.toArray [(Value.slice Oq20 (y5).1 Cq23), (Value.slice Aq21 (x).2 Dq24), (Value.slice Hq22 (x).4 Ee25)])), (Value.bool Bool.true)])) = (Value.tuple (List.toArray [(Value.agg (List.toArray [(Value.slice Oq116 ((x).1).1 Cq119), (Value.slice Aq117 (x).2 Dq120), (Value.slice Hq118 (x).4 Ee121)])), (Value.bool Bool.true)])) ∧
 (SelS [(Ch.row (Row.mk Bool.false O 0 2 ((x).1).1 0 [(fun (i126 : Nat) => (SC.sl 3 (so i126) (((x).1).2 i126) (sc i126))), (fun (i127 : Nat) => (SC.bool (((x).1).4 i127)))])), (Ch.row (Row.mk Bool.false A 0 1 (x).2 0 [(fun (i128 : Nat) => (SC.int ((x).3 i128)))])), (Ch.row (Row.mk Bool.false H 0 1 (x).4 0 [(fun (i129 : Nat) => (SC.int ((x).5 i129)))])), (Ch.obj Bool.false (symRows Bool.false 0 (x).1 so (fun (x130 : Nat) => 0))), (Ch.row (Row.mk Bool.false bo 0 1 bn 0 [(fun (i131 : Nat) => (SC.int (bf i131)))])), (Ch.row (Row.mk Bool.false ko 0 1 kn 0 [(fun (i132 : Nat) => (SC.int (kf i132)))])), (Ch.cells b0 37 [(SC.int gG), (SC.int gB), (SC.int gR), (SC.int gC)]), (Ch.cells b1 33 [(SC.sl 0 O ((x).1).1 C), (SC.sl 1 A (x).2 D), (SC.sl 2 H (x).4 E)]), (Ch.cells b2 54 [(SC.int tI), (SC.sl 4 bo bn bc), (SC.bool bp), (SC.sl 5 ko kn kc), (SC.bool kp), (SC.int tC)]), (Ch.cells b3 33 [(SC.sl 10 Oq20 (y5).1 Cq23), (SC.sl 11 Aq21 (x).2 Dq24), (SC.sl 12 Hq22 (x).4 Ee25)]), (Ch.row (Row.mk Bool.true Oq20 52 2 (y5).1 Cq23 [(fun (j133 : Nat) => (SC.val (if j133 = (Int.toNat tI) then (Value.slice ro114 kn rc115) else (Value.slice (soq26 j133) ((y5).2 j133) (scq27 j133))))), (fun (j134 : Nat) => (SC.bool (if j134 = (Int.toNat tI) then kp else ((y5).4 j134))))])), (Ch.row (Row.mk Bool.true Aq21 3 1 (x).2 Dq24 [(fun (i135 : Nat) => (SC.int (ag9 i135)))])), (Ch.row (Row.mk Bool.true Hq22 3 1 (x).4 Ee25 [(fun (i136 : Nat) => (SC.int (hg10 i136)))])), (Ch.obj Bool.true (symRows Bool.true 3 y5 soq26 scq27)), (Ch.cells b28 33 [(SC.sl 10 Oq20 (y5).1 Cq23), (SC.sl 11 Aq21 (x).2 Dq24), (SC.sl 12 Hq22 (x).4 Ee25)]), (Ch.cells b29 70 [(SC.int (atB gG gB gR gC tI)), (SC.int (atR gG gB gR gC tI)), (SC.int (atC gG gB gR gC tI))]), (Ch.cells b75 52 [(SC.sl 3 (so (Int.toNat (adIx gG gB gR gC (atB gG gB gR gC tI) (atR gG gB gR gC tI) (atC gG gB gR gC tI)))) (((x).1).2 (Int.toNat (adIx gG gB gR gC (atB gG gB gR gC tI) (atR gG gB gR gC tI) (atC gG gB gR gC tI)))) (sc (Int.toNat (adIx gG gB gR gC (atB gG gB gR gC tI) (atR gG gB gR gC tI) (atC gG gB gR gC tI))))), (SC.bool (((x).1).4 (Int.toNat (adIx gG gB gR gC (atB gG gB gR gC tI) (atR gG gB gR gC tI) (atC gG gB gR gC tI)))))]), (Ch.row (Row.mk Bool.true ro114 3 1 kn rc115 [(fun (i137 : Nat) => (SC.int (g0111 i137)))]))] [10, 11, 12, 13, 17] [(Ch.row (Row.mk Bool.true Oq116 52 2 ((x).1).1 Cq119 [(fun (i138 : Nat) => (SC.val (if i138 = (Int.toNat tI) then (Value.slice ro124 kn rc125) else (Value.slice (soq122 i138) (((x).1).2 i138) (scq123 i138))))), (fun (i139 : Nat) => (SC.bool (if i139 = (Int.toNat tI) then kp else (((x).1).4 i139))))])), (Ch.row (Row.mk Bool.true Aq117 3 1 (x).2 Dq120 [(fun (i140 : Nat) => (SC.int ((x).3 i140)))])), (Ch.row (Row.mk Bool.true Hq118 3 1 (x).4 Ee121 [(fun (i141 : Nat) => (SC.int ((x).5 i141)))])), (Ch.obj Bool.true (symRows Bool.true 3 (x).1 soq122 scq123)), (Ch.row (Row.mk Bool.true ro124 3 1 kn rc125 [(fun (i142 : Nat) => (SC.int (kf i142)))]))]))))))))))))))))))))))))))))))))))))))))))))))))))))))))))))) ∧
 (((((x).1).4 (Int.toNat (adIx gG gB gR gC (atB gG gB gR gC tI) (atR gG gB gR gC tI) (atC gG gB gR gC tI)))) != bp) = Bool.true →
 (b28 = b28 ∧
 (b3 = b3 ∧
 (b3 = b3 ∧
 (Exists (fun (Oq143 : (Option Addr)) => (Exists (fun (Aq144 : (Option Addr)) => (Exists (fun (Hq145 : (Option Addr)) => (Exists (fun (Cq146 : Nat) => (Exists (fun (Dq147 : Nat) => (Exists (fun (Ee148 : Nat) => (Exists (fun (soq149 : (Nat →
 (Option Addr))) => (Exists (fun (scq150 : (Nat →
 Nat)) => (Exists (fun (ro151 : (Option Addr)) => (Exists (fun (rc152 : Nat) => ((Value.tuple (List.toArray [(Value.agg (List.toArray [(Value.slice Oq20 (y5).1 Cq23), (Value.slice Aq21 (x).2 Dq24), (Value.slice Hq22 (x).4 Ee25)])), (Value.bool Bool.false)])) = (Value.tuple (List.toArray [(Value.agg (List.toArray [(Value.slice Oq143 ((x).1).1 Cq146), (Value.slice Aq144 (x).2 Dq147), (Value.slice Hq145 (x).4 Ee148)])), (Value.bool Bool.true)])) ∧
 (SelS [(Ch.row (Row.mk Bool.false O 0 2 ((x).1).1 0 [(fun (i153 : Nat) => (SC.sl 3 (so i153) (((x).1).2 i153) (sc i153))), (fun (i154 : Nat) => (SC.bool (((x).1).4 i154)))])), (Ch.row (Row.mk Bool.false A 0 1 (x).2 0 [(fun (i155 : Nat) => (SC.int ((x).3 i155)))])), (Ch.row (Row.mk Bool.false H 0 1 (x).4 0 [(fun (i156 : Nat) => (SC.int ((x).5 i156)))])), (Ch.obj Bool.false (symRows Bool.false 0 (x).1 so (fun (x157 : Nat) => 0))), (Ch.row (Row.mk Bool.false bo 0 1 bn 0 [(fun (i158 : Nat) => (SC.int (bf i158)))])), (Ch.row (Row.mk Bool.false ko 0 1 kn 0 [(fun (i159 : Nat) => (SC.int (kf i159)))])), (Ch.cells b0 37 [(SC.int gG), (SC.int gB), (SC.int gR), (SC.int gC)]), (Ch.cells b1 33 [(SC.sl 0 O ((x).1).1 C), (SC.sl 1 A (x).2 D), (SC.sl 2 H (x).4 E)]), (Ch.cells b2 54 [(SC.int tI), (SC.sl 4 bo bn bc), (SC.bool bp), (SC.sl 5 ko kn kc), (SC.bool kp), (SC.int tC)]), (Ch.cells b3 33 [(SC.sl 10 Oq20 (y5).1 Cq23), (SC.sl 11 Aq21 (x).2 Dq24), (SC.sl 12 Hq22 (x).4 Ee25)]), (Ch.row (Row.mk Bool.true Oq20 52 2 (y5).1 Cq23 [(fun (i160 : Nat) => (SC.sl 13 (soq26 i160) ((y5).2 i160) (scq27 i160))), (fun (i161 : Nat) => (SC.bool ((y5).4 i161)))])), (Ch.row (Row.mk Bool.true Aq21 3 1 (x).2 Dq24 [(fun (i162 : Nat) => (SC.int (ag9 i162)))])), (Ch.row (Row.mk Bool.true Hq22 3 1 (x).4 Ee25 [(fun (i163 : Nat) => (SC.int (hg10 i163)))])), (Ch.obj Bool.true (symRows Bool.true 3 y5 soq26 scq27)), (Ch.cells b28 33 [(SC.sl 10 Oq20 (y5).1 Cq23), (SC.sl 11 Aq21 (x).2 Dq24), (SC.sl 12 Hq22 (x).4 Ee25)]), (Ch.cells b29 70 [(SC.int (atB gG gB gR gC tI)), (SC.int (atR gG gB gR gC tI)), (SC.int (atC gG gB gR gC tI))]), (Ch.cells b75 52 [(SC.sl 3 (so (Int.toNat (adIx gG gB gR gC (atB gG gB gR gC tI) (atR gG gB gR gC tI) (atC gG gB gR gC tI)))) (((x).1).2 (Int.toNat (adIx gG gB gR gC (atB gG gB gR gC tI) (atR gG gB gR gC tI) (atC gG gB gR gC tI)))) (sc (Int.toNat (adIx gG gB gR gC (atB gG gB gR gC tI) (atR gG gB gR gC tI) (atC gG gB gR gC tI))))), (SC.bool (((x).1).4 (Int.toNat (adIx gG gB gR gC (atB gG gB gR gC tI) (atR gG gB gR gC tI) (atC gG gB gR gC tI)))))])] [10, 11, 12, 13, 16] [(Ch.row (Row.mk Bool.true Oq143 52 2 ((x).1).1 Cq146 [(fun (i164 : Nat) => (SC.val (if i164 = (Int.toNat tI) then (Value.slice ro151 kn rc152) else (Value.slice (soq149 i164) (((x).1).2 i164) (scq150 i164))))), (fun (i165 : Nat) => (SC.bool (if i165 = (Int.toNat tI) then kp else (((x).1).4 i165))))])), (Ch.row (Row.mk Bool.true Aq144 3 1 (x).2 Dq147 [(fun (i166 : Nat) => (SC.int ((x).3 i166)))])), (Ch.row (Row.mk Bool.true Hq145 3 1 (x).4 Ee148 [(fun (i167 : Nat) => (SC.int ((x).5 i167)))])), (Ch.obj Bool.true (symRows Bool.true 3 (x).1 soq149 scq150)), (Ch.row (Row.mk Bool.true ro151 3 1 kn rc152 [(fun (i168 : Nat) => (SC.int (kf i168)))]))]))))))))))))))))))))))))))))))))))))))) ∧
 (∀ b169 : Nat,
 (True ∧
 (True ∧
 (O = O ∧
 (((x).1).1 = ((x).1).1 ∧
 ((0 ≤ (adIx gG gB gR gC (atB gG gB gR gC tI) (atR gG gB gR gC tI) (atC gG gB gR gC tI)) ∧ (adIx gG gB gR gC (atB gG gB gR gC tI) (atR gG gB gR gC tI) (atC gG gB gR gC tI)) < ((((x).1).1 : Nat) : Int)) ∧
 (O = O ∧
 ((Int.toNat (adIx gG gB gR gC (atB gG gB gR gC tI) (atR gG gB gR gC tI) (atC gG gB gR gC tI))) < ((x).1).1 ∧
 (b169 = b169 ∧
 (True ∧
 (b169 = b169 ∧
 (b2 = b2 ∧
 ((((((x).1).4 (Int.toNat (adIx gG gB gR gC (atB gG gB gR gC tI) (atR gG gB gR gC tI) (atC gG gB gR gC tI)))) != bp) = Bool.false →
 (b169 = b169 ∧
 (b2 = b2 ∧
 (Exists (fun (t170 : Nat) => (Exists (fun (y171 : CD) => (Exists (fun (so172 : (Nat →
 (Option Addr))) => (Exists (fun (sc173 : (Nat →
 Nat)) => (Exists (fun (i174 : Nat) => (((symRows Bool.false 0 (x).1 so (fun (x175 : Nat) => 0)) = (symRows Bool.false t170 y171 so172 sc173) ∧
 ((so (Int.toNat (adIx gG gB gR gC (atB gG gB gR gC tI) (atR gG gB gR gC tI) (atC gG gB gR gC tI)))) = (so172 i174) ∧
 ((((x).1).2 (Int.toNat (adIx gG gB gR gC (atB gG gB gR gC tI) (atR gG gB gR gC tI) (atC gG gB gR gC tI)))) = ((y171).2 i174) ∧
 i174 < (y171).1))) ∧
 (Exists (fun (g0176 : (Nat →
 Int)) => ((bo = bo ∧
 (bn = bn ∧
 [(fun (i177 : Nat) => (SC.int (bf i177)))] = [(fun (i178 : Nat) => (SC.int (g0176 i178)))])) ∧
 ((lenC (((x).1).2 (Int.toNat (adIx gG gB gR gC (atB gG gB gR gC tI) (atR gG gB gR gC tI) (atC gG gB gR gC tI))))) ∧
 (((!(eqSB (((x).1).2 (Int.toNat (adIx gG gB gR gC (atB gG gB gR gC tI) (atR gG gB gR gC tI) (atC gG gB gR gC tI)))) ((y171).3 i174) bn g0176)) = Bool.true →
 (b28 = b28 ∧
 (b3 = b3 ∧
 (b3 = b3 ∧
 (Exists (fun (Oq179 : (Option Addr)) => (Exists (fun (Aq180 : (Option Addr)) => (Exists (fun (Hq181 : (Option Addr)) => (Exists (fun (Cq182 : Nat) => (Exists (fun (Dq183 : Nat) => (Exists (fun (Ee184 : Nat) => (Exists (fun (soq185 : (Nat →
 (Option Addr))) => (Exists (fun (scq186 : (Nat →
 Nat)) => (Exists (fun (ro187 : (Option Addr)) => (Exists (fun (rc188 : Nat) => ((Value.tuple (List.toArray [(Value.agg (List.toArray [(Value.slice Oq20 (y5).1 Cq23), (Value.slice Aq21 (x).2 Dq24), (Value.slice Hq22 (x).4 Ee25)])), (Value.bool Bool.false)])) = (Value.tuple (List.toArray [(Value.agg (List.toArray [(Value.slice Oq179 ((x).1).1 Cq182), (Value.slice Aq180 (x).2 Dq183), (Value.slice Hq181 (x).4 Ee184)])), (Value.bool Bool.true)])) ∧
 (SelS [(Ch.row (Row.mk Bool.false O 0 2 ((x).1).1 0 [(fun (i189 : Nat) => (SC.sl 3 (so i189) (((x).1).2 i189) (sc i189))), (fun (i190 : Nat) => (SC.bool (((x).1).4 i190)))])), (Ch.row (Row.mk Bool.false A 0 1 (x).2 0 [(fun (i191 : Nat) => (SC.int ((x).3 i191)))])), (Ch.row (Row.mk Bool.false H 0 1 (x).4 0 [(fun (i192 : Nat) => (SC.int ((x).5 i192)))])), (Ch.obj Bool.false (symRows Bool.false 0 (x).1 so (fun (x193 : Nat) => 0))), (Ch.row (Row.mk Bool.false bo 0 1 bn 0 [(fun (i194 : Nat) => (SC.int (bf i194)))])), (Ch.row (Row.mk Bool.false ko 0 1 kn 0 [(fun (i195 : Nat) => (SC.int (kf i195)))])), (Ch.cells b0 37 [(SC.int gG), (SC.int gB), (SC.int gR), (SC.int gC)]), (Ch.cells b1 33 [(SC.sl 0 O ((x).1).1 C), (SC.sl 1 A (x).2 D), (SC.sl 2 H (x).4 E)]), (Ch.cells b2 54 [(SC.int tI), (SC.sl 4 bo bn bc), (SC.bool bp), (SC.sl 5 ko kn kc), (SC.bool kp), (SC.int tC)]), (Ch.cells b3 33 [(SC.sl 10 Oq20 (y5).1 Cq23), (SC.sl 11 Aq21 (x).2 Dq24), (SC.sl 12 Hq22 (x).4 Ee25)]), (Ch.row (Row.mk Bool.true Oq20 52 2 (y5).1 Cq23 [(fun (i196 : Nat) => (SC.sl 13 (soq26 i196) ((y5).2 i196) (scq27 i196))), (fun (i197 : Nat) => (SC.bool ((y5).4 i197)))])), (Ch.row (Row.mk Bool.true Aq21 3 1 (x).2 Dq24 [(fun (i198 : Nat) => (SC.int (ag9 i198)))])), (Ch.row (Row.mk Bool.true Hq22 3 1 (x).4 Ee25 [(fun (i199 : Nat) => (SC.int (hg10 i199)))])), (Ch.obj Bool.true (symRows Bool.true 3 y5 soq26 scq27)), (Ch.cells b28 33 [(SC.sl 10 Oq20 (y5).1 Cq23), (SC.sl 11 Aq21 (x).2 Dq24), (SC.sl 12 Hq22 (x).4 Ee25)]), (Ch.cells b29 70 [(SC.int (atB gG gB gR gC tI)), (SC.int (atR gG gB gR gC tI)), (SC.int (atC gG gB gR gC tI))]), (Ch.cells b169 52 [(SC.sl 3 (so (Int.toNat (adIx gG gB gR gC (atB gG gB gR gC tI) (atR gG gB gR gC tI) (atC gG gB gR gC tI)))) (((x).1).2 (Int.toNat (adIx gG gB gR gC (atB gG gB gR gC tI) (atR gG gB gR gC tI) (atC gG gB gR gC tI)))) (sc (Int.toNat (adIx gG gB gR gC (atB gG gB gR gC tI) (atR gG gB gR gC tI) (atC gG gB gR gC tI))))), (SC.bool (((x).1).4 (Int.toNat (adIx gG gB gR gC (atB gG gB gR gC tI) (atR gG gB gR gC tI) (atC gG gB gR gC tI)))))])] [10, 11, 12, 13, 16] [(Ch.row (Row.mk Bool.true Oq179 52 2 ((x).1).1 Cq182 [(fun (i200 : Nat) => (SC.val (if i200 = (Int.toNat tI) then (Value.slice ro187 kn rc188) else (Value.slice (soq185 i200) (((x).1).2 i200) (scq186 i200))))), (fun (i201 : Nat) => (SC.bool (if i201 = (Int.toNat tI) then kp else (((x).1).4 i201))))])), (Ch.row (Row.mk Bool.true Aq180 3 1 (x).2 Dq183 [(fun (i202 : Nat) => (SC.int ((x).3 i202)))])), (Ch.row (Row.mk Bool.true Hq181 3 1 (x).4 Ee184 [(fun (i203 : Nat) => (SC.int ((x).5 i203)))])), (Ch.obj Bool.true (symRows Bool.true 3 (x).1 soq185 scq186)), (Ch.row (Row.mk Bool.true ro187 3 1 kn rc188 [(fun (i204 : Nat) => (SC.int (kf i204)))]))])))))))))))))))))))))))))) ∧
 ((!(eqSB (((x).1).2 (Int.toNat (adIx gG gB gR gC (atB gG gB gR gC tI) (atR gG gB gR gC tI) (atC gG gB gR gC tI)))) ((y171).3 i174) bn g0176)) = Bool.false →
 (b28 = b28 ∧
 (b2 = b2 ∧
 (b2 = b2 ∧
 (Exists (fun (g0205 : (Nat →
 Int)) => ((ko = ko ∧
 (kn = kn ∧
 [(fun (i206 : Nat) => (SC.int (kf i206)))] = [(fun (i207 : Nat) => (SC.int (g0205 i207)))])) ∧
 ((capC kn) ∧
 (∀ ro208 : (Option Addr),
 (∀ rc209 : Nat,
 (True ∧
 (Oq20 = Oq20 ∧
 ((y5).1 = (y5).1 ∧
 ((0 ≤ tI ∧ tI < (((y5).1 : Nat) : Int)) ∧
 (Oq20 = Oq20 ∧
 ((Int.toNat tI) < (y5).1 ∧
 (True ∧
 (b28 = b28 ∧
 (b3 = b3 ∧
 (b3 = b3 ∧
 (Exists (fun (Oq210 : (Option Addr)) => (Exists (fun (Aq211 : (Option Addr)) => (Exists (fun (Hq212 : (Option Addr)) => (Exists (fun (Cq213 : Nat) => (Exists (fun (Dq214 : Nat) => (Exists (fun (Ee215 : Nat) => (Exists (fun (soq216 : (Nat →
 (Option Addr))) => (Exists (fun (scq217 : (Nat →
 Nat)) => (Exists (fun (ro218 : (Option Addr)) => (Exists (fun (rc219 : Nat) => ((Value.tuple (List.toArray [(Value.agg (List.toArray [(Value.slice Oq20 (y5).1 Cq23), (Value.slice Aq21 (x).2 Dq24), (Value.slice Hq22 (x).4 Ee25)])), (Value.bool Bool.true)])) = (Value.tuple (List.toArray [(Value.agg (List.toArray [(Value.slice Oq210 ((x).1).1 Cq213), (Value.slice Aq211 (x).2 Dq214), (Value.slice Hq212 (x).4 Ee215)])), (Value.bool Bool.true)])) ∧
 (SelS [(Ch.row (Row.mk Bool.false O 0 2 ((x).1).1 0 [(fun (i220 : Nat) => (SC.sl 3 (so i220) (((x).1).2 i220) (sc i220))), (fun (i221 : Nat) => (SC.bool (((x).1).4 i221)))])), (Ch.row (Row.mk Bool.false A 0 1 (x).2 0 [(fun (i222 : Nat) => (SC.int ((x).3 i222)))])), (Ch.row (Row.mk Bool.false H 0 1 (x).4 0 [(fun (i223 : Nat) => (SC.int ((x).5 i223)))])), (Ch.obj Bool.false (symRows Bool.false 0 (x).1 so (fun (x224 : Nat) => 0))), (Ch.row (Row.mk Bool.false bo 0 1 bn 0 [(fun (i225 : Nat) => (SC.int (bf i225)))])), (Ch.row (Row.mk Bool.false ko 0 1 kn 0 [(fun (i226 : Nat) => (SC.int (kf i226)))])), (Ch.cells b0 37 [(SC.int gG), (SC.int gB), (SC.int gR), (SC.int gC)]), (Ch.cells b1 33 [(SC.sl 0 O ((x).1).1 C), (SC.sl 1 A (x).2 D), (SC.sl 2 H (x).4 E)]), (Ch.cells b2 54 [(SC.int tI), (SC.sl 4 bo bn bc), (SC.bool bp), (SC.sl 5 ko kn kc), (SC.bool kp), (SC.int tC)]), (Ch.cells b3 33 [(SC.sl 10 Oq20 (y5).1 Cq23), (SC.sl 11 Aq21 (x).2 Dq24), (SC.sl 12 Hq22 (x).4 Ee25)]), (Ch.row (Row.mk Bool.true Oq20 52 2 (y5).1 Cq23 [(fun (j227 : Nat) => (SC.val (if j227 = (Int.toNat tI) then (Value.slice ro208 kn rc209) else (Value.slice (soq26 j227) ((y5).2 j227) (scq27 j227))))), (fun (j228 : Nat) => (SC.bool (if j228 = (Int.toNat tI) then kp else ((y5).4 j228))))])), (Ch.row (Row.mk Bool.true Aq21 3 1 (x).2 Dq24 [(fun (i229 : Nat) => (SC.int (ag9 i229)))])), (Ch.row (Row.mk Bool.true Hq22 3 1 (x).4 Ee25 [(fun (i230 : Nat) => (SC.int (hg10 i230)))])), (Ch.obj Bool.true (symRows Bool.true 3 y5 soq26 scq27)), (Ch.cells b28 33 [(SC.sl 10 Oq20 (y5).1 Cq23), (SC.sl 11 Aq21 (x).2 Dq24), (SC.sl 12 Hq22 (x).4 Ee25)]), (Ch.cells b29 70 [(SC.int (atB gG gB gR gC tI)), (SC.int (atR gG gB gR gC tI)), (SC.int (atC gG gB gR gC tI))]), (Ch.cells b169 52 [(SC.sl 3 (so (Int.toNat (adIx gG gB gR gC (atB gG gB gR gC tI) (atR gG gB gR gC tI) (atC gG gB gR gC tI)))) (((x).1).2 (Int.toNat (adIx gG gB gR gC (atB gG gB gR gC tI) (atR gG gB gR gC tI) (atC gG gB gR gC tI)))) (sc (Int.toNat (adIx gG gB gR gC (atB gG gB gR gC tI) (atR gG gB gR gC tI) (atC gG gB gR gC tI))))), (SC.bool (((x).1).4 (Int.toNat (adIx gG gB gR gC (atB gG gB gR gC tI) (atR gG gB gR gC tI) (atC gG gB gR gC tI)))))]), (Ch.row (Row.mk Bool.true ro208 3 1 kn rc209 [(fun (i231 : Nat) => (SC.int (g0205 i231)))]))] [10, 11, 12, 13, 17] [(Ch.row (Row.mk Bool.true Oq210 52 2 ((x).1).1 Cq213 [(fun (i232 : Nat) => (SC.val (if i232 = (Int.toNat tI) then (Value.slice ro218 kn rc219) else (Value.slice (soq216 i232) (((x).1).2 i232) (scq217 i232))))), (fun (i233 : Nat) => (SC.bool (if i233 = (Int.toNat tI) then kp else (((x).1).4 i233))))])), (Ch.row (Row.mk Bool.true Aq211 3 1 (x).2 Dq214 [(fun (i234 : Nat) => (SC.int ((x).3 i234)))])), (Ch.row (Row.mk Bool.true Hq212 3 1 (x).4 Ee215 [(fun (i235 : Nat) => (SC.int ((x).5 i235)))])), (Ch.obj Bool.true (symRows Bool.true 3 (x).1 soq216 scq217)), (Ch.row (Row.mk Bool.true ro218 3 1 kn rc219 [(fun (i236 : Nat) => (SC.int (kf i236)))]))]))))))))))))))))))))))))))))))))))))))))))))))))))))))))))))) ∧
 (((((x).1).4 (Int.toNat (adIx gG gB gR gC (atB gG gB gR gC tI) (atR gG gB gR gC tI) (atC gG gB gR gC tI)))) != bp) = Bool.true →
 (b28 = b28 ∧
 (b3 = b3 ∧
 (b3 = b3 ∧
 (Exists (fun (Oq237 : (Option Addr)) => (Exists (fun (Aq238 : (Option Addr)) => (Exists (fun (Hq239 : (Option Addr)) => (Exists (fun (Cq240 : Nat) => (Exists (fun (Dq241 : Nat) => (Exists (fun (Ee242 : Nat) => (Exists (fun (soq243 : (Nat →
 (Option Addr))) => (Exists (fun (scq244 : (Nat →
 Nat)) => (Exists (fun (ro245 : (Option Addr)) => (Exists (fun (rc246 : Nat) => ((Value.tuple (List.toArray [(Value.agg (List.toArray [(Value.slice Oq20 (y5).1 Cq23), (Value.slice Aq21 (x).2 Dq24), (Value.slice Hq22 (x).4 Ee25)])), (Value.bool Bool.false)])) = (Value.tuple (List.toArray [(Value.agg (List.toArray [(Value.slice Oq237 ((x).1).1 Cq240), (Value.slice Aq238 (x).2 Dq241), (Value.slice Hq239 (x).4 Ee242)])), (Value.bool Bool.true)])) ∧
 (SelS [(Ch.row (Row.mk Bool.false O 0 2 ((x).1).1 0 [(fun (i247 : Nat) => (SC.sl 3 (so i247) (((x).1).2 i247) (sc i247))), (fun (i248 : Nat) => (SC.bool (((x).1).4 i248)))])), (Ch.row (Row.mk Bool.false A 0 1 (x).2 0 [(fun (i249 : Nat) => (SC.int ((x).3 i249)))])), (Ch.row (Row.mk Bool.false H 0 1 (x).4 0 [(fun (i250 : Nat) => (SC.int ((x).5 i250)))])), (Ch.obj Bool.false (symRows Bool.false 0 (x).1 so (fun (x251 : Nat) => 0))), (Ch.row (Row.mk Bool.false bo 0 1 bn 0 [(fun (i252 : Nat) => (SC.int (bf i252)))])), (Ch.row (Row.mk Bool.false ko 0 1 kn 0 [(fun (i253 : Nat) => (SC.int (kf i253)))])), (Ch.cells b0 37 [(SC.int gG), (SC.int gB), (SC.int gR), (SC.int gC)]), (Ch.cells b1 33 [(SC.sl 0 O ((x).1).1 C), (SC.sl 1 A (x).2 D), (SC.sl 2 H (x).4 E)]), (Ch.cells b2 54 [(SC.int tI), (SC.sl 4 bo bn bc), (SC.bool bp), (SC.sl 5 ko kn kc), (SC.bool kp), (SC.int tC)]), (Ch.cells b3 33 [(SC.sl 10 Oq20 (y5).1 Cq23), (SC.sl 11 Aq21 (x).2 Dq24), (SC.sl 12 Hq22 (x).4 Ee25)]), (Ch.row (Row.mk Bool.true Oq20 52 2 (y5).1 Cq23 [(fun (i254 : Nat) => (SC.sl 13 (soq26 i254) ((y5).2 i254) (scq27 i254))), (fun (i255 : Nat) => (SC.bool ((y5).4 i255)))])), (Ch.row (Row.mk Bool.true Aq21 3 1 (x).2 Dq24 [(fun (i256 : Nat) => (SC.int (ag9 i256)))])), (Ch.row (Row.mk Bool.true Hq22 3 1 (x).4 Ee25 [(fun (i257 : Nat) => (SC.int (hg10 i257)))])), (Ch.obj Bool.true (symRows Bool.true 3 y5 soq26 scq27)), (Ch.cells b28 33 [(SC.sl 10 Oq20 (y5).1 Cq23), (SC.sl 11 Aq21 (x).2 Dq24), (SC.sl 12 Hq22 (x).4 Ee25)]), (Ch.cells b29 70 [(SC.int (atB gG gB gR gC tI)), (SC.int (atR gG gB gR gC tI)), (SC.int (atC gG gB gR gC tI))]), (Ch.cells b169 52 [(SC.sl 3 (so (Int.toNat (adIx gG gB gR gC (atB gG gB gR gC tI) (atR gG gB gR gC tI) (atC gG gB gR gC tI)))) (((x).1).2 (Int.toNat (adIx gG gB gR gC (atB gG gB gR gC tI) (atR gG gB gR gC tI) (atC gG gB gR gC tI)))) (sc (Int.toNat (adIx gG gB gR gC (atB gG gB gR gC tI) (atR gG gB gR gC tI) (atC gG gB gR gC tI))))), (SC.bool (((x).1).4 (Int.toNat (adIx gG gB gR gC (atB gG gB gR gC tI) (atR gG gB gR gC tI) (atC gG gB gR gC tI)))))])] [10, 11, 12, 13, 16] [(Ch.row (Row.mk Bool.true Oq237 52 2 ((x).1).1 Cq240 [(fun (i258 : Nat) => (SC.val (if i258 = (Int.toNat tI) then (Value.slice ro245 kn rc246) else (Value.slice (soq243 i258) (((x).1).2 i258) (scq244 i258))))), (fun (i259 : Nat) => (SC.bool (if i259 = (Int.toNat tI) then kp else (((x).1).4 i259))))])), (Ch.row (Row.mk Bool.true Aq238 3 1 (x).2 Dq241 [(fun (i260 : Nat) => (SC.int ((x).3 i260)))])), (Ch.row (Row.mk Bool.true Hq239 3 1 (x).4 Ee242 [(fun (i261 : Nat) => (SC.int ((x).5 i261)))])), (Ch.obj Bool.true (symRows Bool.true 3 (x).1 soq243 scq244)), (Ch.row (Row.mk Bool.true ro245 3 1 kn rc246 [(fun (i262 : Nat) => (SC.int (kf i262)))]))]))))))))))))))))))))))))))))))))))))))))))))))))))) ∧
 ((!(arrOk gG gB gR gC (AD.mk y31 (x).2 ag35 (x).4 hg36))) = Bool.true →
 (b28 = b28 ∧
 (b3 = b3 ∧
 (b3 = b3 ∧
 (Exists (fun (Oq263 : (Option Addr)) => (Exists (fun (Aq264 : (Option Addr)) => (Exists (fun (Hq265 : (Option Addr)) => (Exists (fun (Cq266 : Nat) => (Exists (fun (Dq267 : Nat) => (Exists (fun (Ee268 : Nat) => (Exists (fun (soq269 : (Nat →
 (Option Addr))) => (Exists (fun (scq270 : (Nat →
 Nat)) => (Exists (fun (ro271 : (Option Addr)) => (Exists (fun (rc272 : Nat) => ((Value.tuple (List.toArray [(Value.agg (List.toArray [(Value.slice Oq20 (y5).1 Cq23), (Value.slice Aq21 (x).2 Dq24), (Value.slice Hq22 (x).4 Ee25)])), (Value.bool Bool.false)])) = (Value.tuple (List.toArray [(Value.agg (List.toArray [(Value.slice Oq263 ((x).1).1 Cq266), (Value.slice Aq264 (x).2 Dq267), (Value.slice Hq265 (x).4 Ee268)])), (Value.bool Bool.true)])) ∧
 (SelS [(Ch.row (Row.mk Bool.false O 0 2 ((x).1).1 0 [(fun (i273 : Nat) => (SC.sl 3 (so i273) (((x).1).2 i273) (sc i273))), (fun (i274 : Nat) => (SC.bool (((x).1).4 i274)))])), (Ch.row (Row.mk Bool.false A 0 1 (x).2 0 [(fun (i275 : Nat) => (SC.int ((x).3 i275)))])), (Ch.row (Row.mk Bool.false H 0 1 (x).4 0 [(fun (i276 : Nat) => (SC.int ((x).5 i276)))])), (Ch.obj Bool.false (symRows Bool.false 0 (x).1 so (fun (x277 : Nat) => 0))), (Ch.row (Row.mk Bool.false bo 0 1 bn 0 [(fun (i278 : Nat) => (SC.int (bf i278)))])), (Ch.row (Row.mk Bool.false ko 0 1 kn 0 [(fun (i279 : Nat) => (SC.int (kf i279)))])), (Ch.cells b0 37 [(SC.int gG), (SC.int gB), (SC.int gR), (SC.int gC)]), (Ch.cells b1 33 [(SC.sl 0 O ((x).1).1 C), (SC.sl 1 A (x).2 D), (SC.sl 2 H (x).4 E)]), (Ch.cells b2 54 [(SC.int tI), (SC.sl 4 bo bn bc), (SC.bool bp), (SC.sl 5 ko kn kc), (SC.bool kp), (SC.int tC)]), (Ch.cells b3 33 [(SC.sl 10 Oq20 (y5).1 Cq23), (SC.sl 11 Aq21 (x).2 Dq24), (SC.sl 12 Hq22 (x).4 Ee25)]), (Ch.row (Row.mk Bool.true Oq20 52 2 (y5).1 Cq23 [(fun (i280 : Nat) => (SC.sl 13 (soq26 i280) ((y5).2 i280) (scq27 i280))), (fun (i281 : Nat) => (SC.bool ((y5).4 i281)))])), (Ch.row (Row.mk Bool.true Aq21 3 1 (x).2 Dq24 [(fun (i282 : Nat) => (SC.int (ag9 i282)))])), (Ch.row (Row.mk Bool.true Hq22 3 1 (x).4 Ee25 [(fun (i283 : Nat) => (SC.int (hg10 i283)))])), (Ch.obj Bool.true (symRows Bool.true 3 y5 soq26 scq27)), (Ch.cells b28 33 [(SC.sl 10 Oq20 (y5).1 Cq23), (SC.sl 11 Aq21 (x).2 Dq24), (SC.sl 12 Hq22 (x).4 Ee25)]), (Ch.cells b29 70 [(SC.int (atB gG gB gR gC tI)), (SC.int (atR gG gB gR gC tI)), (SC.int (atC gG gB gR gC tI))])] [10, 11, 12, 13, 15] [(Ch.row (Row.mk Bool.true Oq263 52 2 ((x).1).1 Cq266 [(fun (i284 : Nat) => (SC.val (if i284 = (Int.toNat tI) then (Value.slice ro271 kn rc272) else (Value.slice (soq269 i284) (((x).1).2 i284) (scq270 i284))))), (fun (i285 : Nat) => (SC.bool (if i285 = (Int.toNat tI) then kp else (((x).1).4 i285))))])), (Ch.row (Row.mk Bool.true Aq264 3 1 (x).2 Dq267 [(fun (i286 : Nat) => (SC.int ((x).3 i286)))])), (Ch.row (Row.mk Bool.true Hq265 3 1 (x).4 Ee268 [(fun (i287 : Nat) => (SC.int ((x).5 i287)))])), (Ch.obj Bool.true (symRows Bool.true 3 (x).1 soq269 scq270)), (Ch.row (Row.mk Bool.true ro271 3 1 kn rc272 [(fun (i288 : Nat) => (SC.int (kf i288)))]))])))))))))))))))))))))))))))))))))))))))))))))) ∧
 ((!(atOk gG gB gR gC tI)) = Bool.true →
 (b28 = b28 ∧
 (b3 = b3 ∧
 (b3 = b3 ∧
 (Exists (fun (Oq289 : (Option Addr)) => (Exists (fun (Aq290 : (Option Addr)) => (Exists (fun (Hq291 : (Option Addr)) => (Exists (fun (Cq292 : Nat) => (Exists (fun (Dq293 : Nat) => (Exists (fun (Ee294 : Nat) => (Exists (fun (soq295 : (Nat →
 (Option Addr))) => (Exists (fun (scq296 : (Nat →
 Nat)) => (Exists (fun (ro297 : (Option Addr)) => (Exists (fun (rc298 : Nat) => ((Value.tuple (List.toArray [(Value.agg (List.toArray [(Value.slice Oq20 (y5).1 Cq23), (Value.slice Aq21 (x).2 Dq24), (Value.slice Hq22 (x).4 Ee25)])), (Value.bool Bool.false)])) = (Value.tuple (List.toArray [(Value.agg (List.toArray [(Value.slice Oq289 ((x).1).1 Cq292), (Value.slice Aq290 (x).2 Dq293), (Value.slice Hq291 (x).4 Ee294)])), (Value.bool Bool.true)])) ∧
 (SelS [(Ch.row (Row.mk Bool.false O 0 2 ((x).1).1 0 [(fun (i299 : Nat) => (SC.sl 3 (so i299) (((x).1).2 i299) (sc i299))), (fun (i300 : Nat) => (SC.bool (((x).1).4 i300)))])), (Ch.row (Row.mk Bool.false A 0 1 (x).2 0 [(fun (i301 : Nat) => (SC.int ((x).3 i301)))])), (Ch.row (Row.mk Bool.false H 0 1 (x).4 0 [(fun (i302 : Nat) => (SC.int ((x).5 i302)))])), (Ch.obj Bool.false (symRows Bool.false 0 (x).1 so (fun (x303 : Nat) => 0))), (Ch.row (Row.mk Bool.false bo 0 1 bn 0 [(fun (i304 : Nat) => (SC.int (bf i304)))])), (Ch.row (Row.mk Bool.false ko 0 1 kn 0 [(fun (i305 : Nat) => (SC.int (kf i305)))])), (Ch.cells b0 37 [(SC.int gG), (SC.int gB), (SC.int gR), (SC.int gC)]), (Ch.cells b1 33 [(SC.sl 0 O ((x).1).1 C), (SC.sl 1 A (x).2 D), (SC.sl 2 H (x).4 E)]), (Ch.cells b2 54 [(SC.int tI), (SC.sl 4 bo bn bc), (SC.bool bp), (SC.sl 5 ko kn kc), (SC.bool kp), (SC.int tC)]), (Ch.cells b3 33 [(SC.sl 10 Oq20 (y5).1 Cq23), (SC.sl 11 Aq21 (x).2 Dq24), (SC.sl 12 Hq22 (x).4 Ee25)]), (Ch.row (Row.mk Bool.true Oq20 52 2 (y5).1 Cq23 [(fun (i306 : Nat) => (SC.sl 13 (soq26 i306) ((y5).2 i306) (scq27 i306))), (fun (i307 : Nat) => (SC.bool ((y5).4 i307)))])), (Ch.row (Row.mk Bool.true Aq21 3 1 (x).2 Dq24 [(fun (i308 : Nat) => (SC.int (ag9 i308)))])), (Ch.row (Row.mk Bool.true Hq22 3 1 (x).4 Ee25 [(fun (i309 : Nat) => (SC.int (hg10 i309)))])), (Ch.obj Bool.true (symRows Bool.true 3 y5 soq26 scq27)), (Ch.cells b28 33 [(SC.sl 10 Oq20 (y5).1 Cq23), (SC.sl 11 Aq21 (x).2 Dq24), (SC.sl 12 Hq22 (x).4 Ee25)]), (Ch.cells b29 70 [(SC.int (atB gG gB gR gC tI)), (SC.int (atR gG gB gR gC tI)), (SC.int (atC gG gB gR gC tI))])] [10, 11, 12, 13, 15] [(Ch.row (Row.mk Bool.true Oq289 52 2 ((x).1).1 Cq292 [(fun (i310 : Nat) => (SC.val (if i310 = (Int.toNat tI) then (Value.slice ro297 kn rc298) else (Value.slice (soq295 i310) (((x).1).2 i310) (scq296 i310))))), (fun (i311 : Nat) => (SC.bool (if i311 = (Int.toNat tI) then kp else (((x).1).4 i311))))])), (Ch.row (Row.mk Bool.true Aq290 3 1 (x).2 Dq293 [(fun (i312 : Nat) => (SC.int ((x).3 i312)))])), (Ch.row (Row.mk Bool.true Hq291 3 1 (x).4 Ee294 [(fun (i313 : Nat) => (SC.int ((x).5 i313)))])), (Ch.obj Bool.true (symRows Bool.true 3 (x).1 soq295 scq296)), (Ch.row (Row.mk Bool.true ro297 3 1 kn rc298 [(fun (i314 : Nat) => (SC.int (kf i314)))]))]))))))))))))))))))))))))))))))))))))))))))))))))))))))))))))))) := by kernel_rfl
theorem scIY_any (x : AD) (O A H : Option Addr) (C D E : Nat) (so : Nat → Option Addr) (sc : Nat → Nat) (gG gB gR gC : Int) (tI : Int) (bo ko : Option Addr) (bn bc kn kc : Nat) (bf kf : Nat → Int) (bp kp : Bool) (tC : Int) (w : World) (hA : SeenA w x O A H so sc) (hr1 : Row.sat w ⟨false, bo, 0, 1, bn, 0, [fun i => .int (bf i)]⟩) (hr2 : Row.sat w ⟨false, ko, 0, 1, kn, 0, [fun i => .int (kf i)]⟩) (hcap : capA x) (hkn : kn ≤ 2097152) (hst : scOk gG gB gR gC x tI bn bf bp kn kf = true) : Calls Try.prog 23 #[.agg #[.int .i64 gG, .int .i64 gB, .int .i64 gR, .int .i64 gC], arrV x O A H C D E, .agg #[.int .i64 tI, .slice bo bn bc, .bool bp, .slice ko kn kc, .bool kp, .int .i64 tC]] w fun e w' => ∃ (Oq Aq Hq : Option Addr) (Cq Dq Ee : Nat) (soq : Nat → Option Addr) (scq : Nat → Nat), e = .returned (.tuple #[arrV (setA x tI.toNat kn kf kp) Oq Aq Hq Cq Dq Ee, .bool true]) ∧ HS ⟨w, fun _ => False⟩ (arrO 0 (setA x tI.toNat kn kf kp) Oq Aq Hq Cq Dq Ee soq scq) w' := by
  refine fnB (tb := [(53, sCpA), (67, sAdAt), (52, sArrOk), (68, sSym), (69, sAdIx), (70, sEqL), (71, sCpC)]) (D := fun _ => [9]) ⟨sCpA_I, sAdAt_I, sArrOk_I, sSym_I, sAdIx_I, sEqL_ok, sCpC_I, trivial⟩ Try.func23 (@Eq.mpr _ _ (scIY_T x O A H C D E so sc gG gB gR gC tI bo ko bn bc kn kc bf kf bp kp tC) ?_) (HS.seenAll (fun _ => False) _ (hA.all 0 (seenC_row rfl hr1 (seenC_row rfl hr2 seenC_nil)))) (fun v ch' w' ⟨Oq, Aq, Hq, Cq, Dq, Ee, soq, scq, ro, rc, hv, hc⟩ hs => ⟨Oq, Aq, Hq, Cq, Dq, Ee, _, _, by rw [hv]; rfl, (hc.hs hs).stored⟩)
  clear hA hr1 hr2
  have hl := lenA_of hcap
  have hk1 : capC kn := hkn
  have hk2 : lenC kn := by show _ ≤ _; omega
  have hlb := line_bd gG gB gR gC
  obtain ⟨hok, hat, hsy, hpo, heq⟩ := sc_facts hst
  obtain ⟨hin, hbt⟩ := at_in hok hat
  have hi1 := hin.1
  have hi2 := hin.2.1
  have hi3 : ltN (tn tI) x.c.n := hin.2.2
  have hb2 : lenC (x.c.sn (tn tI)) := hl.2.2.2 _ hin.2.2
  have hb1 : lenC (x.c.sn (adIx gG gB gR gC (atB gG gB gR gC tI) (atR gG gB gR gC tI) (atC gG gB gR gC tI)).toNat) := by rw [(at_addr hat).2]; exact hl.2.2.2 _ hin.2.2
  have j1 : 0 ≤ adIx gG gB gR gC (atB gG gB gR gC tI) (atR gG gB gR gC tI) (atC gG gB gR gC tI) := by rw [(at_addr hat).2]; exact hin.1
  have j2 : adIx gG gB gR gC (atB gG gB gR gC tI) (atR gG gB gR gC tI) (atC gG gB gR gC tI) < (x.c.n : Int) := by rw [(at_addr hat).2]; exact hin.2.1
  have j3 : ltN (tn (adIx gG gB gR gC (atB gG gB gR gC tI) (atR gG gB gR gC tI) (atC gG gB gR gC tI))) x.c.n := by rw [(at_addr hat).2]; exact hin.2.2
  have hnp : (x.c.po (tn tI) != bp) = false := by simpa [tn] using hpo
  have hp1 : (x.c.po (tn (adIx gG gB gR gC (atB gG gB gR gC tI) (atR gG gB gR gC tI) (atC gG gB gR gC tI))) != bp) = false := by rw [(at_addr hat).2]; exact hnp
  have hq1 : eqSB (x.c.sn (tn (adIx gG gB gR gC (atB gG gB gR gC tI) (atR gG gB gR gC tI) (atC gG gB gR gC tI)))) (x.c.sy (tn (adIx gG gB gR gC (atB gG gB gR gC tI) (atR gG gB gR gC tI) (atC gG gB gR gC tI)))) bn bf = true := by rw [(at_addr hat).2]; exact heq
  have hs2 : andB (beqb (x.c.po (tn tI)) bp) (eqSB (x.c.sn (tn tI)) (x.c.sy (tn tI)) bn bf) = true := by simp only [andB, beqb, hpo, heq]; rfl
  have hs3 : andB true (eqSB (x.c.sn (tn tI)) (x.c.sy (tn tI)) bn bf) = true := by simp only [andB, heq]; rfl
  repeat' (first
    | with_reducible exact rfl
    | exact True.intro
    | with_reducible assumption
    | exact hl
    | exact hcap
    | (intro h; exfalso; rw [hok] at h; simp at h; done)
    | (intro h; exfalso; rw [hat] at h; simp at h; done)
    | (intro h; exfalso; rw [hsy] at h; simp at h; done)
    | (intro h; exfalso; rw [hbt] at h; simp at h; done)
    | (intro h; exfalso; rw [hp1] at h; simp at h; done)
    | (intro h; exfalso; rw [hq1] at h; simp at h; done)
    | (intro h; exfalso; rw [hs2] at h; simp at h; done)
    | (intro h; exfalso; rw [hs3] at h; simp at h; done)
    | (refine ⟨_, _, _, _, _, ⟨rfl, rfl, rfl, ?_⟩, ?_⟩)
    | exact (by refine ⟨?_, rfl⟩; repeat' (first | exact True.intro | exact symRows_push | exact rfl | refine And.intro ?_ ?_ | (intro i hi; show _ = _; with_reducible rfl) | (intro i hi; show _ = _; rfl) | (intro i hi; show _ = _; simp only [SC.den]; split <;> rfl)))
    | refine And.intro ?_ ?_
    | apply Exists.intro
    | (intro h; exfalso; simp at h; done)
    | (intro h; replace h := of_decide_eq_true h; first | (exfalso; omega) | skip)
    | (intro h; replace h := of_decide_eq_false h; first | (exfalso; omega) | skip)
    | (intro i hi; with_reducible exact rfl)
    | intro _
    | omega
    | exact rfl)
theorem scIN_T (x : AD) (O A H : Option Addr) (C D E : Nat) (so : Nat → Option Addr) (sc : Nat → Nat) (gG gB gR gC : Int) (tI : Int) (bo ko : Option Addr) (bn bc kn kc : Nat) (bf kf : Nat → Int) (bp kp : Bool) (tC : Int) : (exFn Try.prog {tb := [(53, sCpA), (67, sAdAt), (52, sArrOk), (68, sSym), (69, sAdIx), (70, sEqL), (71, sCpC)], D := fun _ => [9]} 400 Try.f23 ([.a (.agg [.int gG, .int gB, .int gR, .int gC]), .a (arrS 0 x O A H C D E), .a (.agg [.int tI, .sl 4 bo bn bc, .bool bp, .sl 5 ko kn kc, .bool kp, .int tC])]) (arrR 0 x O A H so sc ++ [.row ⟨false, bo, 0, 1, bn, 0, [fun i => .int (bf i)]⟩, .row ⟨false, ko, 0, 1, kn, 0, [fun i => .int (kf i)]⟩]) (fun v ch => ∃ (Oq Aq Hq : Option Addr) (Cq Dq Ee : Nat) (soq : Nat → Option Addr) (scq : Nat → Nat), v.den = .tuple #[arrV x Oq Aq Hq Cq Dq Ee, .bool false] ∧ SelS ch (idsArr v ch) (arrO 0 x Oq Aq Hq Cq Dq Ee soq scq))) = (
  (∀ b0 : Nat,
 (∀ b1 : Nat,
 (∀ b2 : Nat,
 (∀ b3 : Nat,
 (b1 = b1 ∧
 (Exists (fun (t4 : Nat) => (Exists (fun (y5 : CD) => (Exists (fun (so6 : (Nat →
 (Option Addr))) => (Exists (fun (sc7 : (Nat →
 Nat)) => (Exists (fun (sd8 : (Nat →
 Nat)) => (Exists (fun (ag9 : (Nat →
 Int)) => (Exists (fun (hg10 : (Nat →
 Int)) => (((symRows Bool.false 0 (x).1 so (fun (x11 : Nat) => 0)) = (symRows Bool.false t4 y5 so6 sd8) ∧
 ([(fun (i12 : Nat) => (SC.sl 3 (so i12) (((x).1).2 i12) (sc i12))), (fun (i13 : Nat) => (SC.bool (((x).1).4 i13)))] = [(fun (i14 : Nat) => (SC.sl 3 (so6 i14) ((y5).2 i14) (sc7 i14))), (fun (i15 : Nat) => (SC.bool ((y5).4 i15)))] ∧
 (O = O ∧
 (((x).1).1 = ((x).1).1 ∧
 (((x).1).1 = (y5).1 ∧
 (A = A ∧
 ((x).2 = (x).2 ∧
 ([(fun (i16 : Nat) => (SC.int ((x).3 i16)))] = [(fun (i17 : Nat) => (SC.int (ag9 i17)))] ∧
 (H = H ∧
 ((x).4 = (x).4 ∧
 [(fun (i18 : Nat) => (SC.int ((x).5 i18)))] = [(fun (i19 : Nat) => (SC.int (hg10 i19)))])))))))))) ∧
 ((capA (AD.mk y5 (x).2 ag9 (x).4 hg10)) ∧
 (∀ Oq20 : (Option Addr),
 (∀ Aq21 : (Option Addr),
 (∀ Hq22 : (Option Addr),
 (∀ Cq23 : Nat,
 (∀ Dq24 : Nat,
 (∀ Ee25 : Nat,
 (∀ soq26 : (Nat →
 (Option Addr)),
 (∀ scq27 : (Nat →
 Nat),
 (∀ b28 : Nat,
 (b28 = b28 ∧
 (b0 = b0 ∧
 (b2 = b2 ∧
 (∀ b29 : Nat,
 (b29 = b29 ∧
 (((!(atOk gG gB gR gC tI)) = Bool.false →
 (b0 = b0 ∧
 (b1 = b1 ∧
 (Exists (fun (t30 : Nat) => (Exists (fun (y31 : CD) => (Exists (fun (so32 : (Nat →
 (Option Addr))) => (Exists (fun (sc33 : (Nat →
 Nat)) => (Exists (fun (sd34 : (Nat →
 Nat)) => (Exists (fun (ag35 : (Nat →
 Int)) => (Exists (fun (hg36 : (Nat →
 Int)) => (((symRows Bool.false 0 (x).1 so (fun (x37 : Nat) => 0)) = (symRows Bool.false t30 y31 so32 sd34) ∧
 ([(fun (i38 : Nat) => (SC.sl 3 (so i38) (((x).1).2 i38) (sc i38))), (fun (i39 : Nat) => (SC.bool (((x).1).4 i39)))] = [(fun (i40 : Nat) => (SC.sl 3 (so32 i40) ((y31).2 i40) (sc33 i40))), (fun (i41 : Nat) => (SC.bool ((y31).4 i41)))] ∧
 (O = O ∧
 (((x).1).1 = ((x).1).1 ∧
 (((x).1).1 = (y31).1 ∧
 (A = A ∧
 ((x).2 = (x).2 ∧
 ([(fun (i42 : Nat) => (SC.int ((x).3 i42)))] = [(fun (i43 : Nat) => (SC.int (ag35 i43)))] ∧
 (H = H ∧
 ((x).4 = (x).4 ∧
 [(fun (i44 : Nat) => (SC.int ((x).5 i44)))] = [(fun (i45 : Nat) => (SC.int (hg36 i45)))])))))))))) ∧
 ((lenA (AD.mk y31 (x).2 ag35 (x).4 hg36)) ∧
 (((!(arrOk gG gB gR gC (AD.mk y31 (x).2 ag35 (x).4 hg36))) = Bool.false →
 (b2 = b2 ∧
 (Exists (fun (g046 : (Nat →
 Int)) => ((ko = ko ∧
 (kn = kn ∧
 [(fun (i47 : Nat) => (SC.int (kf i47)))] = [(fun (i48 : Nat) => (SC.int (g046 i48)))])) ∧
 ((lenC kn) ∧
 (((!(symB kn g046 (11 : Int))) = Bool.true →
 (b28 = b28 ∧
 (b3 = b3 ∧
 (b3 = b3 ∧
 (Exists (fun (Oq49 : (Option Addr)) => (Exists (fun (Aq50 : (Option Addr)) => (Exists (fun (Hq51 : (Option Addr)) => (Exists (fun (Cq52 : Nat) => (Exists (fun (Dq53 : Nat) => (Exists (fun (Ee54 : Nat) => (Exists (fun (soq55 : (Nat →
 (Option Addr))) => (Exists (fun (scq56 : (Nat →
 Nat)) => ((Value.tuple (List.toArray [(Value.agg (List.toArray [(Value.slice Oq20 (y5).1 Cq23), (Value.slice Aq21 (x).2 Dq24), (Value.slice Hq22 (x).4 Ee25)])), (Value.bool Bool.false)])) = (Value.tuple (List.toArray [(Value.agg (List.toArray [(Value.slice Oq49 ((x).1).1 Cq52), (Value.slice Aq50 (x).2 Dq53), (Value.slice Hq51 (x).4 Ee54)])), (Value.bool Bool.false)])) ∧
 (SelS [(Ch.row (Row.mk Bool.false O 0 2 ((x).1).1 0 [(fun (i57 : Nat) => (SC.sl 3 (so i57) (((x).1).2 i57) (sc i57))), (fun (i58 : Nat) => (SC.bool (((x).1).4 i58)))])), (Ch.row (Row.mk Bool.false A 0 1 (x).2 0 [(fun (i59 : Nat) => (SC.int ((x).3 i59)))])), (Ch.row (Row.mk Bool.false H 0 1 (x).4 0 [(fun (i60 : Nat) => (SC.int ((x).5 i60)))])), (Ch.obj Bool.false (symRows Bool.false 0 (x).1 so (fun (x61 : Nat) => 0))), (Ch.row (Row.mk Bool.false bo 0 1 bn 0 [(fun (i62 : Nat) => (SC.int (bf i62)))])), (Ch.row (Row.mk Bool.false ko 0 1 kn 0 [(fun (i63 : Nat) => (SC.int (kf i63)))])), (Ch.cells b0 37 [(SC.int gG), (SC.int gB), (SC.int gR), (SC.int gC)]), (Ch.cells b1 33 [(SC.sl 0 O ((x).1).1 C), (SC.sl 1 A (x).2 D), (SC.sl 2 H (x).4 E)]), (Ch.cells b2 54 [(SC.int tI), (SC.sl 4 bo bn bc), (SC.bool bp), (SC.sl 5 ko kn kc), (SC.bool kp), (SC.int tC)]), (Ch.cells b3 33 [(SC.sl 10 Oq20 (y5).1 Cq23), (SC.sl 11 Aq21 (x).2 Dq24), (SC.sl 12 Hq22 (x).4 Ee25)]), (Ch.row (Row.mk Bool.true Oq20 52 2 (y5).1 Cq23 [(fun (i64 : Nat) => (SC.sl 13 (soq26 i64) ((y5).2 i64) (scq27 i64))), (fun (i65 : Nat) => (SC.bool ((y5).4 i65)))])), (Ch.row (Row.mk Bool.true Aq21 3 1 (x).2 Dq24 [(fun (i66 : Nat) => (SC.int (ag9 i66)))])), (Ch.row (Row.mk Bool.true Hq22 3 1 (x).4 Ee25 [(fun (i67 : Nat) => (SC.int (hg10 i67)))])), (Ch.obj Bool.true (symRows Bool.true 3 y5 soq26 scq27)), (Ch.cells b28 33 [(SC.sl 10 Oq20 (y5).1 Cq23), (SC.sl 11 Aq21 (x).2 Dq24), (SC.sl 12 Hq22 (x).4 Ee25)]), (Ch.cells b29 70 [(SC.int (atB gG gB gR gC tI)), (SC.int (atR gG gB gR gC tI)), (SC.int (atC gG gB gR gC tI))])] [10, 11, 12, 13] [(Ch.row (Row.mk Bool.true Oq49 52 2 ((x).1).1 Cq52 [(fun (i68 : Nat) => (SC.sl 3 (soq55 i68) (((x).1).2 i68) (scq56 i68))), (fun (i69 : Nat) => (SC.bool (((x).1).4 i69)))])), (Ch.row (Row.mk Bool.true Aq50 3 1 (x).2 Dq53 [(fun (i70 : Nat) => (SC.int ((x).3 i70)))])), (Ch.row (Row.mk Bool.true Hq51 3 1 (x).4 Ee54 [(fun (i71 : Nat) => (SC.int ((x).5 i71)))])), (Ch.obj Bool.true (symRows Bool.true 3 (x).1 soq55 scq56))])))))))))))))))))))))) ∧
 ((!(symB kn g046 (11 : Int))) = Bool.false →
 (b1 = b1 ∧
 (b0 = b0 ∧
 (b29 = b29 ∧
 ((True ∧
 (O = O ∧
 (((x).1).1 = ((x).1).1 ∧
 ((0 ≤ (adIx gG gB gR gC (atB gG gB gR gC tI) (atR gG gB gR gC tI) (atC gG gB gR gC tI)) ∧ (adIx gG gB gR gC (atB gG gB gR gC tI) (atR gG gB gR gC tI) (atC gG gB gR gC tI)) < ((((x).1).1 : Nat) : Int)) ∧
 (O = O ∧
 ((Int.toNat (adIx gG gB gR gC (atB gG gB gR gC tI) (atR gG gB gR gC tI) (atC gG gB gR gC tI))) < ((x).1).1 ∧
 (∀ b72 : Nat,
 (True ∧
 (b72 = b72 ∧
 (True ∧
 (b72 = b72 ∧
 (b2 = b2 ∧
 ((((((x).1).4 (Int.toNat (adIx gG gB gR gC (atB gG gB gR gC tI) (atR gG gB gR gC tI) (atC gG gB gR gC tI)))) != bp) = Bool.false →
 (b72 = b72 ∧
 (b2 = b2 ∧
 (Exists (fun (t73 : Nat) => (Exists (fun (y74 : CD) => (Exists (fun (so75 : (Nat →
 (Option Addr))) => (Exists (fun (sc76 : (Nat →
 Nat)) => (Exists (fun (i77 : Nat) => (((symRows Bool.false 0 (x).1 so (fun (x78 : Nat) => 0)) = (symRows Bool.false t73 y74 so75 sc76) ∧
 ((so (Int.toNat (adIx gG gB gR gC (atB gG gB gR gC tI) (atR gG gB gR gC tI) (atC gG gB gR gC tI)))) = (so75 i77) ∧
 ((((x).1).2 (Int.toNat (adIx gG gB gR gC (atB gG gB gR gC tI) (atR gG gB gR gC tI) (atC gG gB gR gC tI)))) = ((y74).2 i77) ∧
 i77 < (y74).1))) ∧
 (Exists (fun (g079 : (Nat →
 Int)) => ((bo = bo ∧
 (bn = bn ∧
 [(fun (i80 : Nat) => (SC.int (bf i80)))] = [(fun (i81 : Nat) => (SC.int (g079 i81)))])) ∧
 ((lenC (((x).1).2 (Int.toNat (adIx gG gB gR gC (atB gG gB gR gC tI) (atR gG gB gR gC tI) (atC gG gB gR gC tI))))) ∧
 (((!(eqSB (((x).1).2 (Int.toNat (adIx gG gB gR gC (atB gG gB gR gC tI) (atR gG gB gR gC tI) (atC gG gB gR gC tI)))) ((y74).3 i77) bn g079)) = Bool.true →
 (b28 = b28 ∧
 (b3 = b3 ∧
 (b3 = b3 ∧
 (Exists (fun (Oq82 : (Option Addr)) => (Exists (fun (Aq83 : (Option Addr)) => (Exists (fun (Hq84 : (Option Addr)) => (Exists (fun (Cq85 : Nat) => (Exists (fun (Dq86 : Nat) => (Exists (fun (Ee87 : Nat) => (Exists (fun (soq88 : (Nat →
 (Option Addr))) => (Exists (fun (scq89 : (Nat →
 Nat)) => ((Value.tuple (List.toArray [(Value.agg (List.toArray [(Value.slice Oq20 (y5).1 Cq23), (Value.slice Aq21 (x).2 Dq24), (Value.slice Hq22 (x).4 Ee25)])), (Value.bool Bool.false)])) = (Value.tuple (List.toArray [(Value.agg (List.toArray [(Value.slice Oq82 ((x).1).1 Cq85), (Value.slice Aq83 (x).2 Dq86), (Value.slice Hq84 (x).4 Ee87)])), (Value.bool Bool.false)])) ∧
 (SelS [(Ch.row (Row.mk Bool.false O 0 2 ((x).1).1 0 [(fun (i90 : Nat) => (SC.sl 3 (so i90) (((x).1).2 i90) (sc i90))), (fun (i91 : Nat) => (SC.bool (((x).1).4 i91)))])), (Ch.row (Row.mk Bool.false A 0 1 (x).2 0 [(fun (i92 : Nat) => (SC.int ((x).3 i92)))])), (Ch.row (Row.mk Bool.false H 0 1 (x).4 0 [(fun (i93 : Nat) => (SC.int ((x).5 i93)))])), (Ch.obj Bool.false (symRows Bool.false 0 (x).1 so (fun (x94 : Nat) => 0))), (Ch.row (Row.mk Bool.false bo 0 1 bn 0 [(fun (i95 : Nat) => (SC.int (bf i95)))])), (Ch.row (Row.mk Bool.false ko 0 1 kn 0 [(fun (i96 : Nat) => (SC.int (kf i96)))])), (Ch.cells b0 37 [(SC.int gG), (SC.int gB), (SC.int gR), (SC.int gC)]), (Ch.cells b1 33 [(SC.sl 0 O ((x).1).1 C), (SC.sl 1 A (x).2 D), (SC.sl 2 H (x).4 E)]), (Ch.cells b2 54 [(SC.int tI), (SC.sl 4 bo bn bc), (SC.bool bp), (SC.sl 5 ko kn kc), (SC.bool kp), (SC.int tC)]), (Ch.cells b3 33 [(SC.sl 10 Oq20 (y5).1 Cq23), (SC.sl 11 Aq21 (x).2 Dq24), (SC.sl 12 Hq22 (x).4 Ee25)]), (Ch.row (Row.mk Bool.true Oq20 52 2 (y5).1 Cq23 [(fun (i97 : Nat) => (SC.sl 13 (soq26 i97) ((y5).2 i97) (scq27 i97))), (fun (i98 : Nat) => (SC.bool ((y5).4 i98)))])), (Ch.row (Row.mk Bool.true Aq21 3 1 (x).2 Dq24 [(fun (i99 : Nat) => (SC.int (ag9 i99)))])), (Ch.row (Row.mk Bool.true Hq22 3 1 (x).4 Ee25 [(fun (i100 : Nat) => (SC.int (hg10 i100)))])), (Ch.obj Bool.true (symRows Bool.true 3 y5 soq26 scq27)), (Ch.cells b28 33 [(SC.sl 10 Oq20 (y5).1 Cq23), (SC.sl 11 Aq21 (x).2 Dq24), (SC.sl 12 Hq22 (x).4 Ee25)]), (Ch.cells b29 70 [(SC.int (atB gG gB gR gC tI)), (SC.int (atR gG gB gR gC tI)), (SC.int (atC gG gB gR gC tI))]), (Ch.cells b72 52 [(SC.sl 3 (so (Int.toNat (adIx gG gB gR gC (atB gG gB gR gC tI) (atR gG gB gR gC tI) (atC gG gB gR gC tI)))) (((x).1).2 (Int.toNat (adIx gG gB gR gC (atB gG gB gR gC tI) (atR gG gB gR gC tI) (atC gG gB gR gC tI)))) (sc (Int.toNat (adIx gG gB gR gC (atB gG gB gR gC tI) (atR gG gB gR gC tI) (atC gG gB gR gC tI))))), (SC.bool (((x).1).4 (Int.toNat (adIx gG gB gR gC (atB gG gB gR gC tI) (atR gG gB gR gC tI) (atC gG gB gR gC tI)))))])] [10, 11, 12, 13] [(Ch.row (Row.mk Bool.true Oq82 52 2 ((x).1).1 Cq85 [(fun (i101 : Nat) => (SC.sl 3 (soq88 i101) (((x).1).2 i101) (scq89 i101))), (fun (i102 : Nat) => (SC.bool (((x).1).4 i102)))])), (Ch.row (Row.mk Bool.true Aq83 3 1 (x).2 Dq86 [(fun (i103 : Nat) => (SC.int ((x).3 i103)))])), (Ch.row (Row.mk Bool.true Hq84 3 1 (x).4 Ee87 [(fun (i104 : Nat) => (SC.int ((x).5 i104)))])), (Ch.obj Bool.true (symRows Bool.true 3 (x).1 soq88 scq89))])))))))))))))))))))))) ∧
 ((!(eqSB (((x).1).2 (Int.toNat (adIx gG gB gR gC (atB gG gB gR gC tI) (atR gG gB gR gC tI) (atC gG gB gR gC tI)))) ((y74).3 i77) bn g079)) = Bool.false →
 (b28 = b28 ∧
 (b2 = b2 ∧
 (b2 = b2 ∧
 (Exists (fun (g0105 : (Nat →
 Int)) => ((ko = ko ∧
 (kn = kn ∧
 [(fun (i106 : Nat) => (SC.int (kf i106)))] = [(fun (i107 : Nat) => (SC.int (g0105 i107)))])) ∧
 ((capC kn) ∧
 (∀ ro108 : (Option Addr),
 (∀ rc109 : Nat,
 (True ∧
 (Oq20 = Oq20 ∧
 ((y5).1 = (y5).1 ∧
 ((0 ≤ tI ∧ tI < (((y5).1 : Nat) : Int)) ∧
 (Oq20 = Oq20 ∧
 ((Int.toNat tI) < (y5).1 ∧
 (True ∧
 (b28 = b28 ∧
 (b3 = b3 ∧
 (b3 = b3 ∧
 (Exists (fun (Oq110 : (Option Addr)) => (Exists (fun (Aq111 : (Option Addr)) => (Exists (fun (Hq112 : (Option Addr)) => (Exists (fun (Cq113 : Nat) => (Exists (fun (Dq114 : Nat) => (Exists (fun (Ee115 : Nat) => (Exists (fun (soq116 : (Nat →
 (Option Addr))) => (Exists (fun (scq117 : (Nat →
 Nat)) => ((Value.tuple (List.toArray [(Value.agg (List.toArray [(Value.slice Oq20 (y5).1 Cq23), (Value.slice Aq21 (x).2 Dq24), (Value.slice Hq22 (x).4 Ee25)])), (Value.bool Bool.true)])) = (Value.tuple (List.toArray [(Value.agg (List.toArray [(Value.slice Oq110 ((x).1).1 Cq113), (Value.slice Aq111 (x).2 Dq114), (Value.slice Hq112 (x).4 Ee115)])), (Value.bool Bool.false)])) ∧
 (SelS [(Ch.row (Row.mk Bool.false O 0 2 ((x).1).1 0 [(fun (i118 : Nat) => (SC.sl 3 (so i118) (((x).1).2 i118) (sc i118))), (fun (i119 : Nat) => (SC.bool (((x).1).4 i119)))])), (Ch.row (Row.mk Bool.false A 0 1 (x).2 0 [(fun (i120 : Nat) => (SC.int ((x).3 i120)))])), (Ch.row (Row.mk Bool.false H 0 1 (x).4 0 [(fun (i121 : Nat) => (SC.int ((x).5 i121)))])), (Ch.obj Bool.false (symRows Bool.false 0 (x).1 so (fun (x122 : Nat) => 0))), (Ch.row (Row.mk Bool.false bo 0 1 bn 0 [(fun (i123 : Nat) => (SC.int (bf i123)))])), (Ch.row (Row.mk Bool.false ko 0 1 kn 0 [(fun (i124 : Nat) => (SC.int (kf i124)))])), (Ch.cells b0 37 [(SC.int gG), (SC.int gB), (SC.int gR), (SC.int gC)]), (Ch.cells b1 33 [(SC.sl 0 O ((x).1).1 C), (SC.sl 1 A (x).2 D), (SC.sl 2 H (x).4 E)]), (Ch.cells b2 54 [(SC.int tI), (SC.sl 4 bo bn bc), (SC.bool bp), (SC.sl 5 ko kn kc), (SC.bool kp), (SC.int tC)]), (Ch.cells b3 33 [(SC.sl 10 Oq20 (y5).1 Cq23), (SC.sl 11 Aq21 (x).2 Dq24), (SC.sl 12 Hq22 (x).4 Ee25)]), (Ch.row (Row.mk Bool.true Oq20 52 2 (y5).1 Cq23 [(fun (j125 : Nat) => (SC.val (if j125 = (Int.toNat tI) then (Value.slice ro108 kn rc109) else (Value.slice (soq26 j125) ((y5).2 j125) (scq27 j125))))), (fun (j126 : Nat) => (SC.bool (if j126 = (Int.toNat tI) then kp else ((y5).4 j126))))])), (Ch.row (Row.mk Bool.true Aq21 3 1 (x).2 Dq24 [(fun (i127 : Nat) => (SC.int (ag9 i127)))])), (Ch.row (Row.mk Bool.true Hq22 3 1 (x).4 Ee25 [(fun (i128 : Nat) => (SC.int (hg10 i128)))])), (Ch.obj Bool.true (symRows Bool.true 3 y5 soq26 scq27)), (Ch.cells b28 33 [(SC.sl 10 Oq20 (y5).1 Cq23), (SC.sl 11 Aq21 (x).2 Dq24), (SC.sl 12 Hq22 (x).4 Ee25)]), (Ch.cells b29 70 [(SC.int (atB gG gB gR gC tI)), (SC.int (atR gG gB gR gC tI)), (SC.int (atC gG gB gR gC tI))]), (Ch.cells b72 52 [(SC.sl 3 (so (Int.toNat (adIx gG gB gR gC (atB gG gB gR gC tI) (atR gG gB gR gC tI) (atC gG gB gR gC tI)))) (((x).1).2 (Int.toNat (adIx gG gB gR gC (atB gG gB gR gC tI) (atR gG gB gR gC tI) (atC gG gB gR gC tI)))) (sc (Int.toNat (adIx gG gB gR gC (atB gG gB gR gC tI) (atR gG gB gR gC tI) (atC gG gB gR gC tI))))), (SC.bool (((x).1).4 (Int.toNat (adIx gG gB gR gC (atB gG gB gR gC tI) (atR gG gB gR gC tI) (atC gG gB gR gC tI)))))]), (Ch.row (Row.mk Bool.true ro108 3 1 kn rc109 [(fun (i129 : Nat) => (SC.int (g0105 i129)))]))] [10, 11, 12, 1000003] [(Ch.row (Row.mk Bool.true Oq110 52 2 ((x).1).1 Cq113 [(fun (i130 : Nat) => (SC.sl 3 (soq116 i130) (((x).1).2 i130) (scq117 i130))), (fun (i131 : Nat) => (SC.bool (((x).1).4 i131)))])), (Ch.row (Row.mk Bool.true Aq111 3 1 (x).2 Dq114 [(fun (i132 : Nat) => (SC.int ((x).3 i132)))])), (Ch.row (Row.mk Bool.true Hq112 3 1 (x).4 Ee115 [(fun (i133 : Nat) => (SC.int ((x).5 i133)))])), (Ch.obj Bool.true (symRows Bool.true 3 (x).1 soq116 scq117))]))))))))))))))))))))))))))))))))))))))))))))))))))))))))) ∧
 (((((x).1).4 (Int.toNat (adIx gG gB gR gC (atB gG gB gR gC tI) (atR gG gB gR gC tI) (atC gG gB gR gC tI)))) != bp) = Bool.true →
 (b28 = b28 ∧
 (b3 = b3 ∧
 (b3 = b3 ∧
 (Exists (fun (Oq134 : (Option Addr)) => (Exists (fun (Aq135 : (Option Addr)) => (Exists (fun (Hq136 : (Option Addr)) => (Exists (fun (Cq137 : Nat) => (Exists (fun (Dq138 : Nat) => (Exists (fun (Ee139 : Nat) => (Exists (fun (soq140 : (Nat →
 (Option Addr))) => (Exists (fun (scq141 : (Nat →
 Nat)) => ((Value.tuple (List.toArray [(Value.agg (List.toArray [(Value.slice Oq20 (y5).1 Cq23), (Value.slice Aq21 (x).2 Dq24), (Value.slice Hq22 (x).4 Ee25)])), (Value.bool Bool.false)])) = (Value.tuple (List.toArray [(Value.agg (List.toArray [(Value.slice Oq134 ((x).1).1 Cq137), (Value.slice Aq135 (x).2 Dq138), (Value.slice Hq136 (x).4 Ee139)])), (Value.bool Bool.false)])) ∧
 (SelS [(Ch.row (Row.mk Bool.false O 0 2 ((x).1).1 0 [(fun (i142 : Nat) => (SC.sl 3 (so i142) (((x).1).2 i142) (sc i142))), (fun (i143 : Nat) => (SC.bool (((x).1).4 i143)))])), (Ch.row (Row.mk Bool.false A 0 1 (x).2 0 [(fun (i144 : Nat) => (SC.int ((x).3 i144)))])), (Ch.row (Row.mk Bool.false H 0 1 (x).4 0 [(fun (i145 : Nat) => (SC.int ((x).5 i145)))])), (Ch.obj Bool.false (symRows Bool.false 0 (x).1 so (fun (x146 : Nat) => 0))), (Ch.row (Row.mk Bool.false bo 0 1 bn 0 [(fun (i147 : Nat) => (SC.int (bf i147)))])), (Ch.row (Row.mk Bool.false ko 0 1 kn 0 [(fun (i148 : Nat) => (SC.int (kf i148)))])), (Ch.cells b0 37 [(SC.int gG), (SC.int gB), (SC.int gR), (SC.int gC)]), (Ch.cells b1 33 [(SC.sl 0 O ((x).1).1 C), (SC.sl 1 A (x).2 D), (SC.sl 2 H (x).4 E)]), (Ch.cells b2 54 [(SC.int tI), (SC.sl 4 bo bn bc), (SC.bool bp), (SC.sl 5 ko kn kc), (SC.bool kp), (SC.int tC)]), (Ch.cells b3 33 [(SC.sl 10 Oq20 (y5).1 Cq23), (SC.sl 11 Aq21 (x).2 Dq24), (SC.sl 12 Hq22 (x).4 Ee25)]), (Ch.row (Row.mk Bool.true Oq20 52 2 (y5).1 Cq23 [(fun (i149 : Nat) => (SC.sl 13 (soq26 i149) ((y5).2 i149) (scq27 i149))), (fun (i150 : Nat) => (SC.bool ((y5).4 i150)))])), (Ch.row (Row.mk Bool.true Aq21 3 1 (x).2 Dq24 [(fun (i151 : Nat) => (SC.int (ag9 i151)))])), (Ch.row (Row.mk Bool.true Hq22 3 1 (x).4 Ee25 [(fun (i152 : Nat) => (SC.int (hg10 i152)))])), (Ch.obj Bool.true (symRows Bool.true 3 y5 soq26 scq27)), (Ch.cells b28 33 [(SC.sl 10 Oq20 (y5).1 Cq23), (SC.sl 11 Aq21 (x).2 Dq24), (SC.sl 12 Hq22 (x).4 Ee25)]), (Ch.cells b29 70 [(SC.int (atB gG gB gR gC tI)), (SC.int (atR gG gB gR gC tI)), (SC.int (atC gG gB gR gC tI))]), (Ch.cells b72 52 [(SC.sl 3 (so (Int.toNat (adIx gG gB gR gC (atB gG gB gR gC tI) (atR gG gB gR gC tI) (atC gG gB gR gC tI)))) (((x).1).2 (Int.toNat (adIx gG gB gR gC (atB gG gB gR gC tI) (atR gG gB gR gC tI) (atC gG gB gR gC tI)))) (sc (Int.toNat (adIx gG gB gR gC (atB gG gB gR gC tI) (atR gG gB gR gC tI) (atC gG gB gR gC tI))))), (SC.bool (((x).1).4 (Int.toNat (adIx gG gB gR gC (atB gG gB gR gC tI) (atR gG gB gR gC tI) (atC gG gB gR gC tI)))))])] [10, 11, 12, 13] [(Ch.row (Row.mk Bool.true Oq134 52 2 ((x).1).1 Cq137 [(fun (i153 : Nat) => (SC.sl 3 (soq140 i153) (((x).1).2 i153) (scq141 i153))), (fun (i154 : Nat) => (SC.bool (((x).1).4 i154)))])), (Ch.row (Row.mk Bool.true Aq135 3 1 (x).2 Dq138 [(fun (i155 : Nat) => (SC.int ((x).3 i155)))])), (Ch.row (Row.mk Bool.true Hq136 3 1 (x).4 Ee139 [(fun (i156 : Nat) => (SC.int ((x).5 i156)))])), (Ch.obj Bool.true (symRows Bool.true 3 (x).1 soq140 scq141))]))))))))))))))))))))))))))))))))))) ∧
 (∀ b157 : Nat,
 (True ∧
 (True ∧
 (O = O ∧
 (((x).1).1 = ((x).1).1 ∧
 ((0 ≤ (adIx gG gB gR gC (atB gG gB gR gC tI) (atR gG gB gR gC tI) (atC gG gB gR gC tI)) ∧ (adIx gG gB gR gC (atB gG gB gR gC tI) (atR gG gB gR gC tI) (atC gG gB gR gC tI)) < ((((x).1).1 : Nat) : Int)) ∧
 (O = O ∧
 ((Int.toNat (adIx gG gB gR gC (atB gG gB gR gC tI) (atR gG gB gR gC tI) (atC gG gB gR gC tI))) < ((x).1).1 ∧
 (b157 = b157 ∧
 (True ∧
 (b157 = b157 ∧
 (b2 = b2 ∧
 ((((((x).1).4 (Int.toNat (adIx gG gB gR gC (atB gG gB gR gC tI) (atR gG gB gR gC tI) (atC gG gB gR gC tI)))) != bp) = Bool.false →
 (b157 = b157 ∧
 (b2 = b2 ∧
 (Exists (fun (t158 : Nat) => (Exists (fun (y159 : CD) => (Exists (fun (so160 : (Nat →
 (Option Addr))) => (Exists (fun (sc161 : (Nat →
 Nat)) => (Exists (fun (i162 : Nat) => (((symRows Bool.false 0 (x).1 so (fun (x163 : Nat) => 0)) = (symRows Bool.false t158 y159 so160 sc161) ∧
 ((so (Int.toNat (adIx gG gB gR gC (atB gG gB gR gC tI) (atR gG gB gR gC tI) (atC gG gB gR gC tI)))) = (so160 i162) ∧
 ((((x).1).2 (Int.toNat (adIx gG gB gR gC (atB gG gB gR gC tI) (atR gG gB gR gC tI) (atC gG gB gR gC tI)))) = ((y159).2 i162) ∧
 i162 < (y159).1))) ∧
 (Exists (fun (g0164 : (Nat →
 Int)) => ((bo = bo ∧
 (bn = bn ∧
 [(fun (i165 : Nat) => (SC.int (bf i165)))] = [(fun (i166 : Nat) => (SC.int (g0164 i166)))])) ∧
 ((lenC (((x).1).2 (Int.toNat (adIx gG gB gR gC (atB gG gB gR gC tI) (atR gG gB gR gC tI) (atC gG gB gR gC tI))))) ∧
 (((!(eqSB (((x).1).2 (Int.toNat (adIx gG gB gR gC (atB gG gB gR gC tI) (atR gG gB gR gC tI) (atC gG gB gR gC tI)))) ((y159).3 i162) bn g0164)) = Bool.true →
 (b28 = b28 ∧
 (b3 = b3 ∧
 (b3 = b3 ∧
 (Exists (fun (Oq167 : (Option Addr)) => (Exists (fun (Aq168 : (Option Addr)) => (Exists (fun (Hq169 : (Option Addr)) => (Exists (fun (Cq170 : Nat) => (Exists (fun (Dq171 : Nat) => (Exists (fun (Ee172 : Nat) => (Exists (fun (soq173 : (Nat →
 (Option Addr))) => (Exists (fun (scq174 : (Nat →
 Nat)) => ((Value.tuple (List.toArray [(Value.agg (List.toArray [(Value.slice Oq20 (y5).1 Cq23), (Value.slice Aq21 (x).2 Dq24), (Value.slice Hq22 (x).4 Ee25)])), (Value.bool Bool.false)])) = (Value.tuple (List.toArray [(Value.agg (List.toArray [(Value.slice Oq167 ((x).1).1 Cq170), (Value.slice Aq168 (x).2 Dq171), (Value.slice Hq169 (x).4 Ee172)])), (Value.bool Bool.false)])) ∧
 (SelS [(Ch.row (Row.mk Bool.false O 0 2 ((x).1).1 0 [(fun (i175 : Nat) => (SC.sl 3 (so i175) (((x).1).2 i175) (sc i175))), (fun (i176 : Nat) => (SC.bool (((x).1).4 i176)))])), (Ch.row (Row.mk Bool.false A 0 1 (x).2 0 [(fun (i177 : Nat) => (SC.int ((x).3 i177)))])), (Ch.row (Row.mk Bool.false H 0 1 (x).4 0 [(fun (i178 : Nat) => (SC.int ((x).5 i178)))])), (Ch.obj Bool.false (symRows Bool.false 0 (x).1 so (fun (x179 : Nat) => 0))), (Ch.row (Row.mk Bool.false bo 0 1 bn 0 [(fun (i180 : Nat) => (SC.int (bf i180)))])), (Ch.row (Row.mk Bool.false ko 0 1 kn 0 [(fun (i181 : Nat) => (SC.int (kf i181)))])), (Ch.cells b0 37 [(SC.int gG), (SC.int gB), (SC.int gR), (SC.int gC)]), (Ch.cells b1 33 [(SC.sl 0 O ((x).1).1 C), (SC.sl 1 A (x).2 D), (SC.sl 2 H (x).4 E)]), (Ch.cells b2 54 [(SC.int tI), (SC.sl 4 bo bn bc), (SC.bool bp), (SC.sl 5 ko kn kc), (SC.bool kp), (SC.int tC)]), (Ch.cells b3 33 [(SC.sl 10 Oq20 (y5).1 Cq23), (SC.sl 11 Aq21 (x).2 Dq24), (SC.sl 12 Hq22 (x).4 Ee25)]), (Ch.row (Row.mk Bool.true Oq20 52 2 (y5).1 Cq23 [(fun (i182 : Nat) => (SC.sl 13 (soq26 i182) ((y5).2 i182) (scq27 i182))), (fun (i183 : Nat) => (SC.bool ((y5).4 i183)))])), (Ch.row (Row.mk Bool.true Aq21 3 1 (x).2 Dq24 [(fun (i184 : Nat) => (SC.int (ag9 i184)))])), (Ch.row (Row.mk Bool.true Hq22 3 1 (x).4 Ee25 [(fun (i185 : Nat) => (SC.int (hg10 i185)))])), (Ch.obj Bool.true (symRows Bool.true 3 y5 soq26 scq27)), (Ch.cells b28 33 [(SC.sl 10 Oq20 (y5).1 Cq23), (SC.sl 11 Aq21 (x).2 Dq24), (SC.sl 12 Hq22 (x).4 Ee25)]), (Ch.cells b29 70 [(SC.int (atB gG gB gR gC tI)), (SC.int (atR gG gB gR gC tI)), (SC.int (atC gG gB gR gC tI))]), (Ch.cells b157 52 [(SC.sl 3 (so (Int.toNat (adIx gG gB gR gC (atB gG gB gR gC tI) (atR gG gB gR gC tI) (atC gG gB gR gC tI)))) (((x).1).2 (Int.toNat (adIx gG gB gR gC (atB gG gB gR gC tI) (atR gG gB gR gC tI) (atC gG gB gR gC tI)))) (sc (Int.toNat (adIx gG gB gR gC (atB gG gB gR gC tI) (atR gG gB gR gC tI) (atC gG gB gR gC tI))))), (SC.bool (((x).1).4 (Int.toNat (adIx gG gB gR gC (atB gG gB gR gC tI) (atR gG gB gR gC tI) (atC gG gB gR gC tI)))))])] [10, 11, 12, 13] [(Ch.row (Row.mk Bool.true Oq167 52 2 ((x).1).1 Cq170 [(fun (i186 : Nat) => (SC.sl 3 (soq173 i186) (((x).1).2 i186) (scq174 i186))), (fun (i187 : Nat) => (SC.bool (((x).1).4 i187)))])), (Ch.row (Row.mk Bool.true Aq168 3 1 (x).2 Dq171 [(fun (i188 : Nat) => (SC.int ((x).3 i188)))])), (Ch.row (Row.mk Bool.true Hq169 3 1 (x).4 Ee172 [(fun (i189 : Nat) => (SC.int ((x).5 i189)))])), (Ch.obj Bool.true (symRows Bool.true 3 (x).1 soq173 scq174))])))))))))))))))))))))) ∧
 ((!(eqSB (((x).1).2 (Int.toNat (adIx gG gB gR gC (atB gG gB gR gC tI) (atR gG gB gR gC tI) (atC gG gB gR gC tI)))) ((y159).3 i162) bn g0164)) = Bool.false →
 (b28 = b28 ∧
 (b2 = b2 ∧
 (b2 = b2 ∧
 (Exists (fun (g0190 : (Nat →
 Int)) => ((ko = ko ∧
 (kn = kn ∧
 [(fun (i191 : Nat) => (SC.int (kf i191)))] = [(fun (i192 : Nat) => (SC.int (g0190 i192)))])) ∧
 ((capC kn) ∧
 (∀ ro193 : (Option Addr),
 (∀ rc194 : Nat,
 (True ∧
 (Oq20 = Oq20 ∧
 ((y5).1 = (y5).1 ∧
 ((0 ≤ tI ∧ tI < (((y5).1 : Nat) : Int)) ∧
 (Oq20 = Oq20 ∧
 ((Int.toNat tI) < (y5).1 ∧
 (True ∧
 (b28 = b28 ∧
 (b3 = b3 ∧
 (b3 = b3 ∧
 (Exists (fun (Oq195 : (Option Addr)) => (Exists (fun (Aq196 : (Option Addr)) => (Exists (fun (Hq197 : (Option Addr)) => (Exists (fun (Cq198 : Nat) => (Exists (fun (Dq199 : Nat) => (Exists (fun (Ee200 : Nat) => (Exists (fun (soq201 : (Nat →
 (Option Addr))) => (Exists (fun (scq202 : (Nat →
 Nat)) => ((Value.tuple (List.toArray [(Value.agg (List.toArray [(Value.slice Oq20 (y5).1 Cq23), (Value.slice Aq21 (x).2 Dq24), (Value.slice Hq22 (x).4 Ee25)])), (Value.bool Bool.true)])) = (Value.tuple (List.toArray [(Value.agg (List.toArray [(Value.slice Oq195 ((x).1).1 Cq198), (Value.slice Aq196 (x).2 Dq199), (Value.slice Hq197 (x).4 Ee200)])), (Value.bool Bool.false)])) ∧
 (SelS [(Ch.row (Row.mk Bool.false O 0 2 ((x).1).1 0 [(fun (i203 : Nat) => (SC.sl 3 (so i203) (((x).1).2 i203) (sc i203))), (fun (i204 : Nat) => (SC.bool (((x).1).4 i204)))])), (Ch.row (Row.mk Bool.false A 0 1 (x).2 0 [(fun (i205 : Nat) => (SC.int ((x).3 i205)))])), (Ch.row (Row.mk Bool.false H 0 1 (x).4 0 [(fun (i206 : Nat) => (SC.int ((x).5 i206)))])), (Ch.obj Bool.false (symRows Bool.false 0 (x).1 so (fun (x207 : Nat) => 0))), (Ch.row (Row.mk Bool.false bo 0 1 bn 0 [(fun (i208 : Nat) => (SC.int (bf i208)))])), (Ch.row (Row.mk Bool.false ko 0 1 kn 0 [(fun (i209 : Nat) => (SC.int (kf i209)))])), (Ch.cells b0 37 [(SC.int gG), (SC.int gB), (SC.int gR), (SC.int gC)]), (Ch.cells b1 33 [(SC.sl 0 O ((x).1).1 C), (SC.sl 1 A (x).2 D), (SC.sl 2 H (x).4 E)]), (Ch.cells b2 54 [(SC.int tI), (SC.sl 4 bo bn bc), (SC.bool bp), (SC.sl 5 ko kn kc), (SC.bool kp), (SC.int tC)]), (Ch.cells b3 33 [(SC.sl 10 Oq20 (y5).1 Cq23), (SC.sl 11 Aq21 (x).2 Dq24), (SC.sl 12 Hq22 (x).4 Ee25)]), (Ch.row (Row.mk Bool.true Oq20 52 2 (y5).1 Cq23 [(fun (j210 : Nat) => (SC.val (if j210 = (Int.toNat tI) then (Value.slice ro193 kn rc194) else (Value.slice (soq26 j210) ((y5).2 j210) (scq27 j210))))), (fun (j211 : Nat) => (SC.bool (if j211 = (Int.toNat tI) then kp else ((y5).4 j211))))])), (Ch.row (Row.mk Bool.true Aq21 3 1 (x).2 Dq24 [(fun (i212 : Nat) => (SC.int (ag9 i212)))])), (Ch.row (Row.mk Bool.true Hq22 3 1 (x).4 Ee25 [(fun (i213 : Nat) => (SC.int (hg10 i213)))])), (Ch.obj Bool.true (symRows Bool.true 3 y5 soq26 scq27)), (Ch.cells b28 33 [(SC.sl 10 Oq20 (y5).1 Cq23), (SC.sl 11 Aq21 (x).2 Dq24), (SC.sl 12 Hq22 (x).4 Ee25)]), (Ch.cells b29 70 [(SC.int (atB gG gB gR gC tI)), (SC.int (atR gG gB gR gC tI)), (SC.int (atC gG gB gR gC tI))]), (Ch.cells b157 52 [(SC.sl 3 (so (Int.toNat (adIx gG gB gR gC (atB gG gB gR gC tI) (atR gG gB gR gC tI) (atC gG gB gR gC tI)))) (((x).1).2 (Int.toNat (adIx gG gB gR gC (atB gG gB gR gC tI) (atR gG gB gR gC tI) (atC gG gB gR gC tI)))) (sc (Int.toNat (adIx gG gB gR gC (atB gG gB gR gC tI) (atR gG gB gR gC tI) (atC gG gB gR gC tI))))), (SC.bool (((x).1).4 (Int.toNat (adIx gG gB gR gC (atB gG gB gR gC tI) (atR gG gB gR gC tI) (atC gG gB gR gC tI)))))]), (Ch.row (Row.mk Bool.true ro193 3 1 kn rc194 [(fun (i214 : Nat) => (SC.int (g0190 i214)))]))] [10, 11, 12, 1000003] [(Ch.row (Row.mk Bool.true Oq195 52 2 ((x).1).1 Cq198 [(fun (i215 : Nat) => (SC.sl 3 (soq201 i215) (((x).1).2 i215) (scq202 i215))), (fun (i216 : Nat) => (SC.bool (((x).1).4 i216)))])), (Ch.row (Row.mk Bool.true Aq196 3 1 (x).2 Dq199 [(fun (i217 : Nat) => (SC.int ((x).3 i217)))])), (Ch.row (Row.mk Bool.true Hq197 3 1 (x).4 Ee200 [(fun (i218 : Nat) => (SC.int ((x).5 i218)))])), (Ch.obj Bool.true (symRows Bool.true 3 (x).1 soq201 scq202))]))))))))))))))))))))))))))))))))))))))))))))))))))))))))) ∧
 (((((x).1).4 (Int.toNat (adIx gG gB gR gC (atB gG gB gR gC tI) (atR gG gB gR gC tI) (atC gG gB gR gC tI)))) != bp) = Bool.true →
 (b28 = b28 ∧
 (b3 = b3 ∧
 (b3 = b3 ∧
 (Exists (fun (Oq219 : (Option Addr)) => (Exists (fun (Aq220 : (Option Addr)) => (Exists (fun (Hq221 : (Option Addr)) => (Exists (fun (Cq222 : Nat) => (Exists (fun (Dq223 : Nat) => (Exists (fun (Ee224 : Nat) => (Exists (fun (soq225 : (Nat →
 (Option Addr))) => (Exists (fun (scq226 : (Nat →
 Nat)) => ((Value.tuple (List.toArray [(Value.agg (List.toArray [(Value.slice Oq20 (y5).1 Cq23), (Value.slice Aq21 (x).2 Dq24), (Value.slice Hq22 (x).4 Ee25)])), (Value.bool Bool.false)])) = (Value.tuple (List.toArray [(Value.agg (List.toArray [(Value.slice Oq219 ((x).1).1 Cq222), (Value.slice Aq220 (x).2 Dq223), (Value.slice Hq221 (x).4 Ee224)])), (Value.bool Bool.false)])) ∧
 (SelS [(Ch.row (Row.mk Bool.false O 0 2 ((x).1).1 0 [(fun (i227 : Nat) => (SC.sl 3 (so i227) (((x).1).2 i227) (sc i227))), (fun (i228 : Nat) => (SC.bool (((x).1).4 i228)))])), (Ch.row (Row.mk Bool.false A 0 1 (x).2 0 [(fun (i229 : Nat) => (SC.int ((x).3 i229)))])), (Ch.row (Row.mk Bool.false H 0 1 (x).4 0 [(fun (i230 : Nat) => (SC.int ((x).5 i230)))])), (Ch.obj Bool.false (symRows Bool.false 0 (x).1 so (fun (x231 : Nat) => 0))), (Ch.row (Row.mk Bool.false bo 0 1 bn 0 [(fun (i232 : Nat) => (SC.int (bf i232)))])), (Ch.row (Row.mk Bool.false ko 0 1 kn 0 [(fun (i233 : Nat) => (SC.int (kf i233)))])), (Ch.cells b0 37 [(SC.int gG), (SC.int gB), (SC.int gR), (SC.int gC)]), (Ch.cells b1 33 [(SC.sl 0 O ((x).1).1 C), (SC.sl 1 A (x).2 D), (SC.sl 2 H (x).4 E)]), (Ch.cells b2 54 [(SC.int tI), (SC.sl 4 bo bn bc), (SC.bool bp), (SC.sl 5 ko kn kc), (SC.bool kp), (SC.int tC)]), (Ch.cells b3 33 [(SC.sl 10 Oq20 (y5).1 Cq23), (SC.sl 11 Aq21 (x).2 Dq24), (SC.sl 12 Hq22 (x).4 Ee25)]), (Ch.row (Row.mk Bool.true Oq20 52 2 (y5).1 Cq23 [(fun (i234 : Nat) => (SC.sl 13 (soq26 i234) ((y5).2 i234) (scq27 i234))), (fun (i235 : Nat) => (SC.bool ((y5).4 i235)))])), (Ch.row (Row.mk Bool.true Aq21 3 1 (x).2 Dq24 [(fun (i236 : Nat) => (SC.int (ag9 i236)))])), (Ch.row (Row.mk Bool.true Hq22 3 1 (x).4 Ee25 [(fun (i237 : Nat) => (SC.int (hg10 i237)))])), (Ch.obj Bool.true (symRows Bool.true 3 y5 soq26 scq27)), (Ch.cells b28 33 [(SC.sl 10 Oq20 (y5).1 Cq23), (SC.sl 11 Aq21 (x).2 Dq24), (SC.sl 12 Hq22 (x).4 Ee25)]), (Ch.cells b29 70 [(SC.int (atB gG gB gR gC tI)), (SC.int (atR gG gB gR gC tI)), (SC.int (atC gG gB gR gC tI))]), (Ch.cells b157 52 [(SC.sl 3 (so (Int.toNat (adIx gG gB gR gC (atB gG gB gR gC tI) (atR gG gB gR gC tI) (atC gG gB gR gC tI)))) (((x).1).2 (Int.toNat (adIx gG gB gR gC (atB gG gB gR gC tI) (atR gG gB gR gC tI) (atC gG gB gR gC tI)))) (sc (Int.toNat (adIx gG gB gR gC (atB gG gB gR gC tI) (atR gG gB gR gC tI) (atC gG gB gR gC tI))))), (SC.bool (((x).1).4 (Int.toNat (adIx gG gB gR gC (atB gG gB gR gC tI) (atR gG gB gR gC tI) (atC gG gB gR gC tI)))))])] [10, 11, 12, 13] [(Ch.row (Row.mk Bool.true Oq219 52 2 ((x).1).1 Cq222 [(fun (i238 : Nat) => (SC.sl 3 (soq225 i238) (((x).1).2 i238) (scq226 i238))), (fun (i239 : Nat) => (SC.bool (((x).1).4 i239)))])), (Ch.row (Row.mk Bool.true Aq220 3 1 (x).2 Dq223 [(fun (i240 : Nat) => (SC.int ((x).3 i240)))])), (Ch.row (Row.mk Bool.true Hq221 3 1 (x).4 Ee224 [(fun (i241 : Nat) => (SC.int ((x).5 i241)))])), (Ch.obj Bool.true (symRows Bool.true 3 (x).1 soq225 scq226))]))))))))))))))))))))))))))))))))))))))))))))))) ∧
 ((!(arrOk gG gB gR gC (AD.mk y31 (x).2 ag35 (x).4 hg36))) = Bool.true →
 (b28 = b28 ∧
 (b3 = b3 ∧
 (b3 = b3 ∧
 (Exists (fun (Oq242 : (Option Addr)) => (Exists (fun (Aq243 : (Option Addr)) => (Exists (fun (Hq244 : (Option Addr)) => (Exists (fun (Cq245 : Nat) => (Exists (fun (Dq246 : Nat) => (Exists (fun (Ee247 : Nat) => (Exists (fun (soq248 : (Nat →
 (Option Addr))) => (Exists (fun (scq249 : (Nat →
 Nat)) => ((Value.tuple (List.toArray [(Value.agg (List.toArray [(Value.slice Oq20 (y5).1 Cq23), (Value.slice Aq21 (x).2 Dq24), (Value.slice Hq22 (x).4 Ee25)])), (Value.bool Bool.false)])) = (Value.tuple (List.toArray [(Value.agg (List.toArray [(Value.slice Oq242 ((x).1).1 Cq245), (Value.slice Aq243 (x).2 Dq246), (Value.slice Hq244 (x).4 Ee247)])), (Value.bool Bool.false)])) ∧
 (SelS [(Ch.row (Row.mk Bool.false O 0 2 ((x).1).1 0 [(fun (i250 : Nat) => (SC.sl 3 (so i250) (((x).1).2 i250) (sc i250))), (fun (i251 : Nat) => (SC.bool (((x).1).4 i251)))])), (Ch.row (Row.mk Bool.false A 0 1 (x).2 0 [(fun (i252 : Nat) => (SC.int ((x).3 i252)))])), (Ch.row (Row.mk Bool.false H 0 1 (x).4 0 [(fun (i253 : Nat) => (SC.int ((x).5 i253)))])), (Ch.obj Bool.false (symRows Bool.false 0 (x).1 so (fun (x254 : Nat) => 0))), (Ch.row (Row.mk Bool.false bo 0 1 bn 0 [(fun (i255 : Nat) => (SC.int (bf i255)))])), (Ch.row (Row.mk Bool.false ko 0 1 kn 0 [(fun (i256 : Nat) => (SC.int (kf i256)))])), (Ch.cells b0 37 [(SC.int gG), (SC.int gB), (SC.int gR), (SC.int gC)]), (Ch.cells b1 33 [(SC.sl 0 O ((x).1).1 C), (SC.sl 1 A (x).2 D), (SC.sl 2 H (x).4 E)]), (Ch.cells b2 54 [(SC.int tI), (SC.sl 4 bo bn bc), (SC.bool bp), (SC.sl 5 ko kn kc), (SC.bool kp), (SC.int tC)]), (Ch.cells b3 33 [(SC.sl 10 Oq20 (y5).1 Cq23), (SC.sl 11 Aq21 (x).2 Dq24), (SC.sl 12 Hq22 (x).4 Ee25)]), (Ch.row (Row.mk Bool.true Oq20 52 2 (y5).1 Cq23 [(fun (i257 : Nat) => (SC.sl 13 (soq26 i257) ((y5).2 i257) (scq27 i257))), (fun (i258 : Nat) => (SC.bool ((y5).4 i258)))])), (Ch.row (Row.mk Bool.true Aq21 3 1 (x).2 Dq24 [(fun (i259 : Nat) => (SC.int (ag9 i259)))])), (Ch.row (Row.mk Bool.true Hq22 3 1 (x).4 Ee25 [(fun (i260 : Nat) => (SC.int (hg10 i260)))])), (Ch.obj Bool.true (symRows Bool.true 3 y5 soq26 scq27)), (Ch.cells b28 33 [(SC.sl 10 Oq20 (y5).1 Cq23), (SC.sl 11 Aq21 (x).2 Dq24), (SC.sl 12 Hq22 (x).4 Ee25)]), (Ch.cells b29 70 [(SC.int (atB gG gB gR gC tI)), (SC.int (atR gG gB gR gC tI)), (SC.int (atC gG gB gR gC tI))])] [10, 11, 12, 13] [(Ch.row (Row.mk Bool.true Oq242 52 2 ((x).1).1 Cq245 [(fun (i261 : Nat) => (SC.sl 3 (soq248 i261) (((x).1).2 i261) (scq249 i261))), (fun (i262 : Nat) => (SC.bool (((x).1).4 i262)))])), (Ch.row (Row.mk Bool.true Aq243 3 1 (x).2 Dq246 [(fun (i263 : Nat) => (SC.int ((x).3 i263)))])), (Ch.row (Row.mk Bool.true Hq244 3 1 (x).4 Ee247 [(fun (i264 : Nat) => (SC.int ((x).5 i264)))])), (Ch.obj Bool.true (symRows Bool.true 3 (x).1 soq248 scq249))])))))))))))))))))))))))))))))))))))))))))) ∧
 ((!(atOk gG gB gR gC tI)) = Bool.true →
 (b28 = b28 ∧
 (b3 = b3 ∧
 (b3 = b3 ∧
 (Exists (fun (Oq265 : (Option Addr)) => (Exists (fun (Aq266 : (Option Addr)) => (Exists (fun (Hq267 : (Option Addr)) => (Exists (fun (Cq268 : Nat) => (Exists (fun (Dq269 : Nat) => (Exists (fun (Ee270 : Nat) => (Exists (fun (soq271 : (Nat →
 (Option Addr))) => (Exists (fun (scq272 : (Nat →
 Nat)) => ((Value.tuple (List.toArray [(Value.agg (List.toArray [(Value.slice Oq20 (y5).1 Cq23), (Value.slice Aq21 (x).2 Dq24), (Value.slice Hq22 (x).4 Ee25)])), (Value.bool Bool.false)])) = (Value.tuple (List.toArray [(Value.agg (List.toArray [(Value.slice Oq265 ((x).1).1 Cq268), (Value.slice Aq266 (x).2 Dq269), (Value.slice Hq267 (x).4 Ee270)])), (Value.bool Bool.false)])) ∧
 (SelS [(Ch.row (Row.mk Bool.false O 0 2 ((x).1).1 0 [(fun (i273 : Nat) => (SC.sl 3 (so i273) (((x).1).2 i273) (sc i273))), (fun (i274 : Nat) => (SC.bool (((x).1).4 i274)))])), (Ch.row (Row.mk Bool.false A 0 1 (x).2 0 [(fun (i275 : Nat) => (SC.int ((x).3 i275)))])), (Ch.row (Row.mk Bool.false H 0 1 (x).4 0 [(fun (i276 : Nat) => (SC.int ((x).5 i276)))])), (Ch.obj Bool.false (symRows Bool.false 0 (x).1 so (fun (x277 : Nat) => 0))), (Ch.row (Row.mk Bool.false bo 0 1 bn 0 [(fun (i278 : Nat) => (SC.int (bf i278)))])), (Ch.row (Row.mk Bool.false ko 0 1 kn 0 [(fun (i279 : Nat) => (SC.int (kf i279)))])), (Ch.cells b0 37 [(SC.int gG), (SC.int gB), (SC.int gR), (SC.int gC)]), (Ch.cells b1 33 [(SC.sl 0 O ((x).1).1 C), (SC.sl 1 A (x).2 D), (SC.sl 2 H (x).4 E)]), (Ch.cells b2 54 [(SC.int tI), (SC.sl 4 bo bn bc), (SC.bool bp), (SC.sl 5 ko kn kc), (SC.bool kp), (SC.int tC)]), (Ch.cells b3 33 [(SC.sl 10 Oq20 (y5).1 Cq23), (SC.sl 11 Aq21 (x).2 Dq24), (SC.sl 12 Hq22 (x).4 Ee25)]), (Ch.row (Row.mk Bool.true Oq20 52 2 (y5).1 Cq23 [(fun (i280 : Nat) => (SC.sl 13 (soq26 i280) ((y5).2 i280) (scq27 i280))), (fun (i281 : Nat) => (SC.bool ((y5).4 i281)))])), (Ch.row (Row.mk Bool.true Aq21 3 1 (x).2 Dq24 [(fun (i282 : Nat) => (SC.int (ag9 i282)))])), (Ch.row (Row.mk Bool.true Hq22 3 1 (x).4 Ee25 [(fun (i283 : Nat) => (SC.int (hg10 i283)))])), (Ch.obj Bool.true (symRows Bool.true 3 y5 soq26 scq27)), (Ch.cells b28 33 [(SC.sl 10 Oq20 (y5).1 Cq23), (SC.sl 11 Aq21 (x).2 Dq24), (SC.sl 12 Hq22 (x).4 Ee25)]), (Ch.cells b29 70 [(SC.int (atB gG gB gR gC tI)), (SC.int (atR gG gB gR gC tI)), (SC.int (atC gG gB gR gC tI))])] [10, 11, 12, 13] [(Ch.row (Row.mk Bool.true Oq265 52 2 ((x).1).1 Cq268 [(fun (i284 : Nat) => (SC.sl 3 (soq271 i284) (((x).1).2 i284) (scq272 i284))), (fun (i285 : Nat) => (SC.bool (((x).1).4 i285)))])), (Ch.row (Row.mk Bool.true Aq266 3 1 (x).2 Dq269 [(fun (i286 : Nat) => (SC.int ((x).3 i286)))])), (Ch.row (Row.mk Bool.true Hq267 3 1 (x).4 Ee270 [(fun (i287 : Nat) => (SC.int ((x).5 i287)))])), (Ch.obj Bool.true (symRows Bool.true 3 (x).1 soq271 scq272))]))))))))))))))))))))))))))))))))))))))))))))))))))))))))))) := by kernel_rfl
theorem scIN_any (x : AD) (O A H : Option Addr) (C D E : Nat) (so : Nat → Option Addr) (sc : Nat → Nat) (gG gB gR gC : Int) (tI : Int) (bo ko : Option Addr) (bn bc kn kc : Nat) (bf kf : Nat → Int) (bp kp : Bool) (tC : Int) (w : World) (hA : SeenA w x O A H so sc) (hr1 : Row.sat w ⟨false, bo, 0, 1, bn, 0, [fun i => .int (bf i)]⟩) (hr2 : Row.sat w ⟨false, ko, 0, 1, kn, 0, [fun i => .int (kf i)]⟩) (hcap : capA x) (hkn : kn ≤ 2097152) (hst : scOk gG gB gR gC x tI bn bf bp kn kf = false) : Calls Try.prog 23 #[.agg #[.int .i64 gG, .int .i64 gB, .int .i64 gR, .int .i64 gC], arrV x O A H C D E, .agg #[.int .i64 tI, .slice bo bn bc, .bool bp, .slice ko kn kc, .bool kp, .int .i64 tC]] w fun e w' => ∃ (Oq Aq Hq : Option Addr) (Cq Dq Ee : Nat) (soq : Nat → Option Addr) (scq : Nat → Nat), e = .returned (.tuple #[arrV (x) Oq Aq Hq Cq Dq Ee, .bool false]) ∧ HS ⟨w, fun _ => False⟩ (arrO 0 (x) Oq Aq Hq Cq Dq Ee soq scq) w' := by
  refine fnB (tb := [(53, sCpA), (67, sAdAt), (52, sArrOk), (68, sSym), (69, sAdIx), (70, sEqL), (71, sCpC)]) (D := fun _ => [9]) ⟨sCpA_I, sAdAt_I, sArrOk_I, sSym_I, sAdIx_I, sEqL_ok, sCpC_I, trivial⟩ Try.func23 (@Eq.mpr _ _ (scIN_T x O A H C D E so sc gG gB gR gC tI bo ko bn bc kn kc bf kf bp kp tC) ?_) (HS.seenAll (fun _ => False) _ (hA.all 0 (seenC_row rfl hr1 (seenC_row rfl hr2 seenC_nil)))) (fun v ch' w' ⟨Oq, Aq, Hq, Cq, Dq, Ee, soq, scq, hv, hc⟩ hs => ⟨Oq, Aq, Hq, Cq, Dq, Ee, soq, scq, by rw [hv], hc.hs hs⟩)
  clear hA hr1 hr2
  have hl := lenA_of hcap
  have hk1 : capC kn := hkn
  have hk2 : lenC kn := by show _ ≤ _; omega
  have hlb := line_bd gG gB gR gC
  cases hok : arrOk gG gB gR gC x
  · cases hat : atOk gG gB gR gC tI
    · skip
      repeat' (first
        | with_reducible exact rfl
        | exact True.intro
        | with_reducible assumption
        | exact hl
        | exact hcap
        | (intro h; exfalso; rw [hok] at h; simp at h; done)
        | (intro h; exfalso; rw [hat] at h; simp at h; done)
        | exact (by refine ⟨?_, rfl⟩; repeat' (first | exact True.intro | exact symRows_push | exact rfl | refine And.intro ?_ ?_ | (intro i hi; show _ = _; with_reducible rfl) | (intro i hi; show _ = _; rfl) | (intro i hi; show _ = _; simp only [SC.den]; split <;> rfl)))
        | refine And.intro ?_ ?_
        | apply Exists.intro
        | (intro h; exfalso; simp at h; done)
        | (intro h; replace h := of_decide_eq_true h; first | (exfalso; omega) | skip)
        | (intro h; replace h := of_decide_eq_false h; first | (exfalso; omega) | skip)
        | (intro i hi; with_reducible exact rfl)
        | intro _
        | omega
        | exact rfl)
    · skip
      repeat' (first
        | with_reducible exact rfl
        | exact True.intro
        | with_reducible assumption
        | exact hl
        | exact hcap
        | (intro h; exfalso; rw [hok] at h; simp at h; done)
        | (intro h; exfalso; rw [hat] at h; simp at h; done)
        | exact (by refine ⟨?_, rfl⟩; repeat' (first | exact True.intro | exact symRows_push | exact rfl | refine And.intro ?_ ?_ | (intro i hi; show _ = _; with_reducible rfl) | (intro i hi; show _ = _; rfl) | (intro i hi; show _ = _; simp only [SC.den]; split <;> rfl)))
        | refine And.intro ?_ ?_
        | apply Exists.intro
        | (intro h; exfalso; simp at h; done)
        | (intro h; replace h := of_decide_eq_true h; first | (exfalso; omega) | skip)
        | (intro h; replace h := of_decide_eq_false h; first | (exfalso; omega) | skip)
        | (intro i hi; with_reducible exact rfl)
        | intro _
        | omega
        | exact rfl)
  · cases hat : atOk gG gB gR gC tI
    · have hbt := at_not hok hat
      repeat' (first
        | with_reducible exact rfl
        | exact True.intro
        | with_reducible assumption
        | exact hl
        | exact hcap
        | (intro h; exfalso; rw [hok] at h; simp at h; done)
        | (intro h; exfalso; rw [hat] at h; simp at h; done)
        | (intro h; exfalso; rw [hbt] at h; simp at h; done)
        | exact (by refine ⟨?_, rfl⟩; repeat' (first | exact True.intro | exact symRows_push | exact rfl | refine And.intro ?_ ?_ | (intro i hi; show _ = _; with_reducible rfl) | (intro i hi; show _ = _; rfl) | (intro i hi; show _ = _; simp only [SC.den]; split <;> rfl)))
        | refine And.intro ?_ ?_
        | apply Exists.intro
        | (intro h; exfalso; simp at h; done)
        | (intro h; replace h := of_decide_eq_true h; first | (exfalso; omega) | skip)
        | (intro h; replace h := of_decide_eq_false h; first | (exfalso; omega) | skip)
        | (intro i hi; with_reducible exact rfl)
        | intro _
        | omega
        | exact rfl)
    · cases hsy : symB kn kf 11
      · obtain ⟨hin, hbt⟩ := at_in hok hat
        have hi1 := hin.1
        have hi2 := hin.2.1
        have hi3 : ltN (tn tI) x.c.n := hin.2.2
        repeat' (first
          | with_reducible exact rfl
          | exact True.intro
          | with_reducible assumption
          | exact hl
          | exact hcap
          | (intro h; exfalso; rw [hok] at h; simp at h; done)
          | (intro h; exfalso; rw [hat] at h; simp at h; done)
          | (intro h; exfalso; rw [hsy] at h; simp at h; done)
          | (intro h; exfalso; rw [hbt] at h; simp at h; done)
          | exact (by refine ⟨?_, rfl⟩; repeat' (first | exact True.intro | exact symRows_push | exact rfl | refine And.intro ?_ ?_ | (intro i hi; show _ = _; with_reducible rfl) | (intro i hi; show _ = _; rfl) | (intro i hi; show _ = _; simp only [SC.den]; split <;> rfl)))
          | refine And.intro ?_ ?_
          | apply Exists.intro
          | (intro h; exfalso; simp at h; done)
          | (intro h; replace h := of_decide_eq_true h; first | (exfalso; omega) | skip)
          | (intro h; replace h := of_decide_eq_false h; first | (exfalso; omega) | skip)
          | (intro i hi; with_reducible exact rfl)
          | intro _
          | omega
          | exact rfl)
      · skip
        have hsm : sameB x tI.toNat bn bf bp = false := by simpa [scOk, hok, hat, hsy] using hst
        obtain ⟨hin, hbt⟩ := at_in hok hat
        have hi1 := hin.1
        have hi2 := hin.2.1
        have hi3 : ltN (tn tI) x.c.n := hin.2.2
        have hb2 : lenC (x.c.sn (tn tI)) := hl.2.2.2 _ hin.2.2
        have hb1 : lenC (x.c.sn (adIx gG gB gR gC (atB gG gB gR gC tI) (atR gG gB gR gC tI) (atC gG gB gR gC tI)).toNat) := by rw [(at_addr hat).2]; exact hl.2.2.2 _ hin.2.2
        have j1 : 0 ≤ adIx gG gB gR gC (atB gG gB gR gC tI) (atR gG gB gR gC tI) (atC gG gB gR gC tI) := by rw [(at_addr hat).2]; exact hin.1
        have j2 : adIx gG gB gR gC (atB gG gB gR gC tI) (atR gG gB gR gC tI) (atC gG gB gR gC tI) < (x.c.n : Int) := by rw [(at_addr hat).2]; exact hin.2.1
        have j3 : ltN (tn (adIx gG gB gR gC (atB gG gB gR gC tI) (atR gG gB gR gC tI) (atC gG gB gR gC tI))) x.c.n := by rw [(at_addr hat).2]; exact hin.2.2
        cases hpo : (x.c.po tI.toNat == bp)
        · cases heq : eqSB (x.c.sn tI.toNat) (x.c.sy tI.toNat) bn bf
          · skip
            have hnp : (x.c.po (tn tI) != bp) = true := by simpa [tn] using hpo
            have hp1 : (x.c.po (tn (adIx gG gB gR gC (atB gG gB gR gC tI) (atR gG gB gR gC tI) (atC gG gB gR gC tI))) != bp) = true := by rw [(at_addr hat).2]; exact hnp
            have hq1 : eqSB (x.c.sn (tn (adIx gG gB gR gC (atB gG gB gR gC tI) (atR gG gB gR gC tI) (atC gG gB gR gC tI)))) (x.c.sy (tn (adIx gG gB gR gC (atB gG gB gR gC tI) (atR gG gB gR gC tI) (atC gG gB gR gC tI)))) bn bf = false := by rw [(at_addr hat).2]; exact heq
            have hs2 : andB (beqb (x.c.po (tn tI)) bp) (eqSB (x.c.sn (tn tI)) (x.c.sy (tn tI)) bn bf) = false := by simp only [andB, beqb, hpo, heq]; rfl
            have hs3 : andB false (eqSB (x.c.sn (tn tI)) (x.c.sy (tn tI)) bn bf) = false := by simp only [andB, heq]; rfl
            repeat' (first
              | with_reducible exact rfl
              | exact True.intro
              | with_reducible assumption
              | exact hl
              | exact hcap
              | (intro h; exfalso; rw [hok] at h; simp at h; done)
              | (intro h; exfalso; rw [hat] at h; simp at h; done)
              | (intro h; exfalso; rw [hsy] at h; simp at h; done)
              | (intro h; exfalso; rw [hbt] at h; simp at h; done)
              | (intro h; exfalso; rw [hp1] at h; simp at h; done)
              | (intro h; exfalso; rw [hq1] at h; simp at h; done)
              | (intro h; exfalso; rw [hs2] at h; simp at h; done)
              | (intro h; exfalso; rw [hs3] at h; simp at h; done)
              | (refine ⟨_, _, _, _, _, ⟨rfl, rfl, rfl, ?_⟩, ?_⟩)
              | exact (by refine ⟨?_, rfl⟩; repeat' (first | exact True.intro | exact symRows_push | exact rfl | refine And.intro ?_ ?_ | (intro i hi; show _ = _; with_reducible rfl) | (intro i hi; show _ = _; rfl) | (intro i hi; show _ = _; simp only [SC.den]; split <;> rfl)))
              | refine And.intro ?_ ?_
              | apply Exists.intro
              | (intro h; exfalso; simp at h; done)
              | (intro h; replace h := of_decide_eq_true h; first | (exfalso; omega) | skip)
              | (intro h; replace h := of_decide_eq_false h; first | (exfalso; omega) | skip)
              | (intro i hi; with_reducible exact rfl)
              | intro _
              | omega
              | exact rfl)
          · skip
            have hnp : (x.c.po (tn tI) != bp) = true := by simpa [tn] using hpo
            have hp1 : (x.c.po (tn (adIx gG gB gR gC (atB gG gB gR gC tI) (atR gG gB gR gC tI) (atC gG gB gR gC tI))) != bp) = true := by rw [(at_addr hat).2]; exact hnp
            have hq1 : eqSB (x.c.sn (tn (adIx gG gB gR gC (atB gG gB gR gC tI) (atR gG gB gR gC tI) (atC gG gB gR gC tI)))) (x.c.sy (tn (adIx gG gB gR gC (atB gG gB gR gC tI) (atR gG gB gR gC tI) (atC gG gB gR gC tI)))) bn bf = true := by rw [(at_addr hat).2]; exact heq
            have hs2 : andB (beqb (x.c.po (tn tI)) bp) (eqSB (x.c.sn (tn tI)) (x.c.sy (tn tI)) bn bf) = false := by simp only [andB, beqb, hpo, heq]; rfl
            have hs3 : andB false (eqSB (x.c.sn (tn tI)) (x.c.sy (tn tI)) bn bf) = false := by simp only [andB, heq]; rfl
            repeat' (first
              | with_reducible exact rfl
              | exact True.intro
              | with_reducible assumption
              | exact hl
              | exact hcap
              | (intro h; exfalso; rw [hok] at h; simp at h; done)
              | (intro h; exfalso; rw [hat] at h; simp at h; done)
              | (intro h; exfalso; rw [hsy] at h; simp at h; done)
              | (intro h; exfalso; rw [hbt] at h; simp at h; done)
              | (intro h; exfalso; rw [hp1] at h; simp at h; done)
              | (intro h; exfalso; rw [hq1] at h; simp at h; done)
              | (intro h; exfalso; rw [hs2] at h; simp at h; done)
              | (intro h; exfalso; rw [hs3] at h; simp at h; done)
              | (refine ⟨_, _, _, _, _, ⟨rfl, rfl, rfl, ?_⟩, ?_⟩)
              | exact (by refine ⟨?_, rfl⟩; repeat' (first | exact True.intro | exact symRows_push | exact rfl | refine And.intro ?_ ?_ | (intro i hi; show _ = _; with_reducible rfl) | (intro i hi; show _ = _; rfl) | (intro i hi; show _ = _; simp only [SC.den]; split <;> rfl)))
              | refine And.intro ?_ ?_
              | apply Exists.intro
              | (intro h; exfalso; simp at h; done)
              | (intro h; replace h := of_decide_eq_true h; first | (exfalso; omega) | skip)
              | (intro h; replace h := of_decide_eq_false h; first | (exfalso; omega) | skip)
              | (intro i hi; with_reducible exact rfl)
              | intro _
              | omega
              | exact rfl)
        · have heq : eqSB (x.c.sn tI.toNat) (x.c.sy tI.toNat) bn bf = false := by simpa [sameB, andB, beqb, hpo] using hsm
          have hnp : (x.c.po (tn tI) != bp) = false := by simpa [tn] using hpo
          have hp1 : (x.c.po (tn (adIx gG gB gR gC (atB gG gB gR gC tI) (atR gG gB gR gC tI) (atC gG gB gR gC tI))) != bp) = false := by rw [(at_addr hat).2]; exact hnp
          have hq1 : eqSB (x.c.sn (tn (adIx gG gB gR gC (atB gG gB gR gC tI) (atR gG gB gR gC tI) (atC gG gB gR gC tI)))) (x.c.sy (tn (adIx gG gB gR gC (atB gG gB gR gC tI) (atR gG gB gR gC tI) (atC gG gB gR gC tI)))) bn bf = false := by rw [(at_addr hat).2]; exact heq
          have hs2 : andB (beqb (x.c.po (tn tI)) bp) (eqSB (x.c.sn (tn tI)) (x.c.sy (tn tI)) bn bf) = false := by simp only [andB, beqb, hpo, heq]; rfl
          have hs3 : andB true (eqSB (x.c.sn (tn tI)) (x.c.sy (tn tI)) bn bf) = false := by simp only [andB, heq]; rfl
          repeat' (first
            | with_reducible exact rfl
            | exact True.intro
            | with_reducible assumption
            | exact hl
            | exact hcap
            | (intro h; exfalso; rw [hok] at h; simp at h; done)
            | (intro h; exfalso; rw [hat] at h; simp at h; done)
            | (intro h; exfalso; rw [hsy] at h; simp at h; done)
            | (intro h; exfalso; rw [hbt] at h; simp at h; done)
            | (intro h; exfalso; rw [hp1] at h; simp at h; done)
            | (intro h; exfalso; rw [hq1] at h; simp at h; done)
            | (intro h; exfalso; rw [hs2] at h; simp at h; done)
            | (intro h; exfalso; rw [hs3] at h; simp at h; done)
            | (refine ⟨_, _, _, _, _, ⟨rfl, rfl, rfl, ?_⟩, ?_⟩)
            | exact (by refine ⟨?_, rfl⟩; repeat' (first | exact True.intro | exact symRows_push | exact rfl | refine And.intro ?_ ?_ | (intro i hi; show _ = _; with_reducible rfl) | (intro i hi; show _ = _; rfl) | (intro i hi; show _ = _; simp only [SC.den]; split <;> rfl)))
            | refine And.intro ?_ ?_
            | apply Exists.intro
            | (intro h; exfalso; simp at h; done)
            | (intro h; replace h := of_decide_eq_true h; first | (exfalso; omega) | skip)
            | (intro h; replace h := of_decide_eq_false h; first | (exfalso; omega) | skip)
            | (intro i hi; with_reducible exact rfl)
            | intro _
            | omega
            | exact rfl)
theorem scI_any (x : AD) (O A H : Option Addr) (C D E : Nat) (so : Nat → Option Addr) (sc : Nat → Nat) (gG gB gR gC : Int) (tI : Int) (bo ko : Option Addr) (bn bc kn kc : Nat) (bf kf : Nat → Int) (bp kp : Bool) (tC : Int) (w : World) (hA : SeenA w x O A H so sc) (hr1 : Row.sat w ⟨false, bo, 0, 1, bn, 0, [fun i => .int (bf i)]⟩) (hr2 : Row.sat w ⟨false, ko, 0, 1, kn, 0, [fun i => .int (kf i)]⟩) (hcap : capA x) (hkn : kn ≤ 2097152) : Calls Try.prog 23 #[.agg #[.int .i64 gG, .int .i64 gB, .int .i64 gR, .int .i64 gC], arrV x O A H C D E, .agg #[.int .i64 tI, .slice bo bn bc, .bool bp, .slice ko kn kc, .bool kp, .int .i64 tC]] w fun e w' => ∃ (Oq Aq Hq : Option Addr) (Cq Dq Ee : Nat) (soq : Nat → Option Addr) (scq : Nat → Nat), e = .returned (.tuple #[arrV (scA gG gB gR gC x tI bn bf bp kn kf kp) Oq Aq Hq Cq Dq Ee, .bool (scOk gG gB gR gC x tI bn bf bp kn kf)]) ∧ HS ⟨w, fun _ => False⟩ (arrO 0 (scA gG gB gR gC x tI bn bf bp kn kf kp) Oq Aq Hq Cq Dq Ee soq scq) w' := by
  cases hst : scOk gG gB gR gC x tI bn bf bp kn kf
  · have e : scA gG gB gR gC x tI bn bf bp kn kf kp = x := by simp [scA, hst]
    rw [e]
    exact scIN_any x O A H C D E so sc gG gB gR gC tI bo ko bn bc kn kc bf kf bp kp tC w hA hr1 hr2 hcap hkn hst
  · have e : scA gG gB gR gC x tI bn bf bp kn kf kp = setA x tI.toNat kn kf kp := by simp [scA, hst]
    rw [e]
    exact scIY_any x O A H C D E so sc gG gB gR gC tI bo ko bn bc kn kc bf kf bp kp tC w hA hr1 hr2 hcap hkn hst
theorem scSY_T (x : AD) (O A H : Option Addr) (C D E : Nat) (so : Nat → Option Addr) (sc : Nat → Nat) (gG gB gR gC : Int) (tI : Int) (bo ko : Option Addr) (bn bc kn kc : Nat) (bf kf : Nat → Int) (bp kp : Bool) (tC : Int) : (exFn Try.prog {tb := [(45, sCpA), (46, sArrOk), (31, sLine), (63, sBtw), (64, sSym), (65, sL32), (49, sCpC)], D := fun _ => [9]} 400 Try.f21 ([.a (.agg [.int gG, .int gB, .int gR, .int gC]), .a (arrS 0 x O A H C D E), .a (.agg [.int tI, .sl 4 bo bn bc, .bool bp, .sl 5 ko kn kc, .bool kp, .int tC])]) (arrR 0 x O A H so sc ++ [.row ⟨false, bo, 0, 1, bn, 0, [fun i => .int (bf i)]⟩, .row ⟨false, ko, 0, 1, kn, 0, [fun i => .int (kf i)]⟩]) (fun v ch => ∃ (Oq Aq Hq : Option Addr) (Cq Dq Ee : Nat) (soq : Nat → Option Addr) (scq : Nat → Nat) (ro : Option Addr) (rc : Nat), v.den = .tuple #[arrV x Oq Aq Hq Cq Dq Ee, .bool true] ∧ SelS ch (idsSt v ch) (storedCh x (tn tI) kn kf kp Oq Aq Hq Cq Dq Ee soq scq ro rc))) = (
  (∀ b0 : Nat,
 (∀ b1 : Nat,
 (∀ b2 : Nat,
 (∀ b3 : Nat,
 (b1 = b1 ∧
 (Exists (fun (t4 : Nat) => (Exists (fun (y5 : CD) => (Exists (fun (so6 : (Nat →
 (Option Addr))) => (Exists (fun (sc7 : (Nat →
 Nat)) => (Exists (fun (sd8 : (Nat →
 Nat)) => (Exists (fun (ag9 : (Nat →
 Int)) => (Exists (fun (hg10 : (Nat →
 Int)) => (((symRows Bool.false 0 (x).1 so (fun (x11 : Nat) => 0)) = (symRows Bool.false t4 y5 so6 sd8) ∧
 ([(fun (i12 : Nat) => (SC.sl 3 (so i12) (((x).1).2 i12) (sc i12))), (fun (i13 : Nat) => (SC.bool (((x).1).4 i13)))] = [(fun (i14 : Nat) => (SC.sl 3 (so6 i14) ((y5).2 i14) (sc7 i14))), (fun (i15 : Nat) => (SC.bool ((y5).4 i15)))] ∧
 (O = O ∧
 (((x).1).1 = ((x).1).1 ∧
 (((x).1).1 = (y5).1 ∧
 (A = A ∧
 ((x).2 = (x).2 ∧
 ([(fun (i16 : Nat) => (SC.int ((x).3 i16)))] = [(fun (i17 : Nat) => (SC.int (ag9 i17)))] ∧
 (H = H ∧
 ((x).4 = (x).4 ∧
 [(fun (i18 : Nat) => (SC.int ((x).5 i18)))] = [(fun (i19 : Nat) => (SC.int (hg10 i19)))])))))))))) ∧
 ((capA (AD.mk y5 (x).2 ag9 (x).4 hg10)) ∧
 (∀ Oq20 : (Option Addr),
 (∀ Aq21 : (Option Addr),
 (∀ Hq22 : (Option Addr),
 (∀ Cq23 : Nat,
 (∀ Dq24 : Nat,
 (∀ Ee25 : Nat,
 (∀ soq26 : (Nat →
 (Option Addr)),
 (∀ scq27 : (Nat →
 Nat),
 (∀ b28 : Nat,
 (b28 = b28 ∧
 (b0 = b0 ∧
 (b1 = b1 ∧
 (Exists (fun (t29 : Nat) => (Exists (fun (y30 : CD) => (Exists (fun (so31 : (Nat →
 (Option Addr))) => (Exists (fun (sc32 : (Nat →
 Nat)) => (Exists (fun (sd33 : (Nat →
 Nat)) => (Exists (fun (ag34 : (Nat →
 Int)) => (Exists (fun (hg35 : (Nat →
 Int)) => (((symRows Bool.false 0 (x).1 so (fun (x36 : Nat) => 0)) = (symRows Bool.false t29 y30 so31 sd33) ∧
 ([(fun (i37 : Nat) => (SC.sl 3 (so i37) (((x).1).2 i37) (sc i37))), (fun (i38 : Nat) => (SC.bool (((x).1).4 i38)))] = [(fun (i39 : Nat) => (SC.sl 3 (so31 i39) ((y30).2 i39) (sc32 i39))), (fun (i40 : Nat) => (SC.bool ((y30).4 i40)))] ∧
 (O = O ∧
 (((x).1).1 = ((x).1).1 ∧
 (((x).1).1 = (y30).1 ∧
 (A = A ∧
 ((x).2 = (x).2 ∧
 ([(fun (i41 : Nat) => (SC.int ((x).3 i41)))] = [(fun (i42 : Nat) => (SC.int (ag34 i42)))] ∧
 (H = H ∧
 ((x).4 = (x).4 ∧
 [(fun (i43 : Nat) => (SC.int ((x).5 i43)))] = [(fun (i44 : Nat) => (SC.int (hg35 i44)))])))))))))) ∧
 ((lenA (AD.mk y30 (x).2 ag34 (x).4 hg35)) ∧
 (True ∧
 (((!(arrOk gG gB gR gC (AD.mk y30 (x).2 ag34 (x).4 hg35))) = Bool.false →
 (b2 = b2 ∧
 (b0 = b0 ∧
 (True ∧
 ((rng ((lineN gG gB gR gC) - (1 : Int))) ∧
 (True ∧
 (((!(btw tI (0 : Int) ((lineN gG gB gR gC) - (1 : Int)))) = Bool.false →
 (b2 = b2 ∧
 (Exists (fun (g045 : (Nat →
 Int)) => ((ko = ko ∧
 (kn = kn ∧
 [(fun (i46 : Nat) => (SC.int (kf i46)))] = [(fun (i47 : Nat) => (SC.int (g045 i47)))])) ∧
 ((lenC kn) ∧
 (True ∧
 (((!(symB kn g045 (11 : Int))) = Bool.false →
 (b1 = b1 ∧
 (b2 = b2 ∧
 (O = O ∧
 (((x).1).1 = ((x).1).1 ∧
 ((0 ≤ tI ∧ tI < ((((x).1).1 : Nat) : Int)) ∧
 (O = O ∧
 ((Int.toNat tI) < ((x).1).1 ∧
 (b2 = b2 ∧
 (Exists (fun (t48 : Nat) => (Exists (fun (y49 : CD) => (Exists (fun (so50 : (Nat →
 (Option Addr))) => (Exists (fun (sc51 : (Nat →
 Nat)) => (Exists (fun (i52 : Nat) => (((symRows Bool.false 0 (x).1 so (fun (x53 : Nat) => 0)) = (symRows Bool.false t48 y49 so50 sc51) ∧
 ((so (Int.toNat tI)) = (so50 i52) ∧
 ((((x).1).2 (Int.toNat tI)) = ((y49).2 i52) ∧
 i52 < (y49).1))) ∧
 (Exists (fun (g054 : (Nat →
 Int)) => ((bo = bo ∧
 (bn = bn ∧
 [(fun (i55 : Nat) => (SC.int (bf i55)))] = [(fun (i56 : Nat) => (SC.int (g054 i56)))])) ∧
 ((lenC (((x).1).2 (Int.toNat tI))) ∧
 (True ∧
 (((!(andB ((((x).1).4 (Int.toNat tI)) == bp) (eqSB (((x).1).2 (Int.toNat tI)) ((y49).3 i52) bn g054))) = Bool.true →
 (b28 = b28 ∧
 (b3 = b3 ∧
 (b3 = b3 ∧
 (Exists (fun (Oq57 : (Option Addr)) => (Exists (fun (Aq58 : (Option Addr)) => (Exists (fun (Hq59 : (Option Addr)) => (Exists (fun (Cq60 : Nat) => (Exists (fun (Dq61 : Nat) => (Exists (fun (Ee62 : Nat) => (Exists (fun (soq63 : (Nat →
 (Option Addr))) => (Exists (fun (scq64 : (Nat →
 Nat)) => (Exists (fun (ro65 : (Option Addr)) => (Exists (fun (rc66 : Nat) => ((Value.tuple (List.toArray [(Value.agg (List.toArray [(Value.slice Oq20 (y5).1 Cq23), (Value.slice Aq21 (x).2 Dq24), (Value.slice Hq22 (x).4 Ee25)])), (Value.bool Bool.false)])) = (Value.tuple (List.toArray [(Value.agg (List.toArray [(Value.slice Oq57 ((x).1).1 Cq60), (Value.slice Aq58 (x).2 Dq61), (Value.slice Hq59 (x).4 Ee62)])), (Value.bool Bool.true)])) ∧
 (SelS [(Ch.row (Row.mk Bool.false O 0 2 ((x).1).1 0 [(fun (i67 : Nat) => (SC.sl 3 (so i67) (((x).1).2 i67) (sc i67))), (fun (i68 : Nat) => (SC.bool (((x).1).4 i68)))])), (Ch.row (Row.mk Bool.false A 0 1 (x).2 0 [(fun (i69 : Nat) => (SC.int ((x).3 i69)))])), (Ch.row (Row.mk Bool.false H 0 1 (x).4 0 [(fun (i70 : Nat) => (SC.int ((x).5 i70)))])), (Ch.obj Bool.false (symRows Bool.false 0 (x).1 so (fun (x71 : Nat) => 0))), (Ch.row (Row.mk Bool.false bo 0 1 bn 0 [(fun (i72 : Nat) => (SC.int (bf i72)))])), (Ch.row (Row.mk Bool.false ko 0 1 kn 0 [(fun (i73 : Nat) => (SC.int (kf i73)))])), (Ch.cells b0 37 [(SC.int gG), (SC.int gB), (SC.int gR), (SC.int gC)]), (Ch.cells b1 33 [(SC.sl 0 O ((x).1).1 C), (SC.sl 1 A (x).2 D), (SC.sl 2 H (x).4 E)]), (Ch.cells b2 54 [(SC.int tI), (SC.sl 4 bo bn bc), (SC.bool bp), (SC.sl 5 ko kn kc), (SC.bool kp), (SC.int tC)]), (Ch.cells b3 33 [(SC.sl 10 Oq20 (y5).1 Cq23), (SC.sl 11 Aq21 (x).2 Dq24), (SC.sl 12 Hq22 (x).4 Ee25)]), (Ch.row (Row.mk Bool.true Oq20 52 2 (y5).1 Cq23 [(fun (i74 : Nat) => (SC.sl 13 (soq26 i74) ((y5).2 i74) (scq27 i74))), (fun (i75 : Nat) => (SC.bool ((y5).4 i75)))])), (Ch.row (Row.mk Bool.true Aq21 3 1 (x).2 Dq24 [(fun (i76 : Nat) => (SC.int (ag9 i76)))])), (Ch.row (Row.mk Bool.true Hq22 3 1 (x).4 Ee25 [(fun (i77 : Nat) => (SC.int (hg10 i77)))])), (Ch.obj Bool.true (symRows Bool.true 3 y5 soq26 scq27)), (Ch.cells b28 33 [(SC.sl 10 Oq20 (y5).1 Cq23), (SC.sl 11 Aq21 (x).2 Dq24), (SC.sl 12 Hq22 (x).4 Ee25)])] [10, 11, 12, 13, 14] [(Ch.row (Row.mk Bool.true Oq57 52 2 ((x).1).1 Cq60 [(fun (i78 : Nat) => (SC.val (if i78 = (Int.toNat tI) then (Value.slice ro65 kn rc66) else (Value.slice (soq63 i78) (((x).1).2 i78) (scq64 i78))))), (fun (i79 : Nat) => (SC.bool (if i79 = (Int.toNat tI) then kp else (((x).1).4 i79))))])), (Ch.row (Row.mk Bool.true Aq58 3 1 (x).2 Dq61 [(fun (i80 : Nat) => (SC.int ((x).3 i80)))])), (Ch.row (Row.mk Bool.true Hq59 3 1 (x).4 Ee62 [(fun (i81 : Nat) => (SC.int ((x).5 i81)))])), (Ch.obj Bool.true (symRows Bool.true 3 (x).1 soq63 scq64)), (Ch.row (Row.mk Bool.true ro65 3 1 kn rc66 [(fun (i82 : Nat) => (SC.int (kf i82)))]))])))))))))))))))))))))))))) ∧
 ((!(andB ((((x).1).4 (Int.toNat tI)) == bp) (eqSB (((x).1).2 (Int.toNat tI)) ((y49).3 i52) bn g054))) = Bool.false →
 (b28 = b28 ∧
 (b2 = b2 ∧
 (b2 = b2 ∧
 (Exists (fun (g083 : (Nat →
 Int)) => ((ko = ko ∧
 (kn = kn ∧
 [(fun (i84 : Nat) => (SC.int (kf i84)))] = [(fun (i85 : Nat) => (SC.int (g083 i85)))])) ∧
 ((capC kn) ∧
 (∀ ro86 : (Option Addr),
 (∀ rc87 : Nat,
 (True ∧
 (Oq20 = Oq20 ∧
 ((y5).1 = (y5).1 ∧
 ((0 ≤ tI ∧ tI < (((y5).1 : Nat) : Int)) ∧
 (Oq20 = Oq20 ∧
 ((Int.toNat tI) < (y5).1 ∧
 (True ∧
 (b28 = b28 ∧
 (b3 = b3 ∧
 (b3 = b3 ∧
 (Exists (fun (Oq88 : (Option Addr)) => (Exists (fun (Aq89 : (Option Addr)) => (Exists (fun (Hq90 : (Option Addr)) => (Exists (fun (Cq91 : Nat) => (Exists (fun (Dq92 : Nat) => (Exists (fun (Ee93 : Nat) => (Exists (fun (soq94 : (Nat →
 (Option Addr))) => (Exists (fun (scq95 : (Nat →
 Nat)) => (Exists (fun (ro96 : (Option Addr)) => (Exists (fun (rc97 : Nat) => ((Value.tuple (List.toArray [(Value.agg (List.toArray [(Value.slice Oq20 (y5).1 Cq23), (Value.slice Aq21 (x).2 Dq24), (Value.slice Hq22 (x).4 Ee25)])), (Value.bool Bool.true)])) = (Value.tuple (List.toArray [(Value.agg (List.toArray [(Value.slice Oq88 ((x).1).1 Cq91), (Value.slice Aq89 (x).2 Dq92), (Value.slice Hq90 (x).4 Ee93)])), (Value.bool Bool.true)])) ∧
 (SelS [(Ch.row (Row.mk Bool.false O 0 2 ((x).1).1 0 [(fun (i98 : Nat) => (SC.sl 3 (so i98) (((x).1).2 i98) (sc i98))), (fun (i99 : Nat) => (SC.bool (((x).1).4 i99)))])), (Ch.row (Row.mk Bool.false A 0 1 (x).2 0 [(fun (i100 : Nat) => (SC.int ((x).3 i100)))])), (Ch.row (Row.mk Bool.false H 0 1 (x).4 0 [(fun (i101 : Nat) => (SC.int ((x).5 i101)))])), (Ch.obj Bool.false (symRows Bool.false 0 (x).1 so (fun (x102 : Nat) => 0))), (Ch.row (Row.mk Bool.false bo 0 1 bn 0 [(fun (i103 : Nat) => (SC.int (bf i103)))])), (Ch.row (Row.mk Bool.false ko 0 1 kn 0 [(fun (i104 : Nat) => (SC.int (kf i104)))])), (Ch.cells b0 37 [(SC.int gG), (SC.int gB), (SC.int gR), (SC.int gC)]), (Ch.cells b1 33 [(SC.sl 0 O ((x).1).1 C), (SC.sl 1 A (x).2 D), (SC.sl 2 H (x).4 E)]), (Ch.cells b2 54 [(SC.int tI), (SC.sl 4 bo bn bc), (SC.bool bp), (SC.sl 5 ko kn kc), (SC.bool kp), (SC.int tC)]), (Ch.cells b3 33 [(SC.sl 10 Oq20 (y5).1 Cq23), (SC.sl 11 Aq21 (x).2 Dq24), (SC.sl 12 Hq22 (x).4 Ee25)]), (Ch.row (Row.mk Bool.true Oq20 52 2 (y5).1 Cq23 [(fun (j105 : Nat) => (SC.val (if j105 = (Int.toNat tI) then (Value.slice ro86 kn rc87) else (Value.slice (soq26 j105) ((y5).2 j105) (scq27 j105))))), (fun (j106 : Nat) => (SC.bool (if j106 = (Int.toNat tI) then kp else ((y5).4 j106))))])), (Ch.row (Row.mk Bool.true Aq21 3 1 (x).2 Dq24 [(fun (i107 : Nat) => (SC.int (ag9 i107)))])), (Ch.row (Row.mk Bool.true Hq22 3 1 (x).4 Ee25 [(fun (i108 : Nat) => (SC.int (hg10 i108)))])), (Ch.obj Bool.true (symRows Bool.true 3 y5 soq26 scq27)), (Ch.cells b28 33 [(SC.sl 10 Oq20 (y5).1 Cq23), (SC.sl 11 Aq21 (x).2 Dq24), (SC.sl 12 Hq22 (x).4 Ee25)]), (Ch.row (Row.mk Bool.true ro86 3 1 kn rc87 [(fun (i109 : Nat) => (SC.int (g083 i109)))]))] [10, 11, 12, 13, 15] [(Ch.row (Row.mk Bool.true Oq88 52 2 ((x).1).1 Cq91 [(fun (i110 : Nat) => (SC.val (if i110 = (Int.toNat tI) then (Value.slice ro96 kn rc97) else (Value.slice (soq94 i110) (((x).1).2 i110) (scq95 i110))))), (fun (i111 : Nat) => (SC.bool (if i111 = (Int.toNat tI) then kp else (((x).1).4 i111))))])), (Ch.row (Row.mk Bool.true Aq89 3 1 (x).2 Dq92 [(fun (i112 : Nat) => (SC.int ((x).3 i112)))])), (Ch.row (Row.mk Bool.true Hq90 3 1 (x).4 Ee93 [(fun (i113 : Nat) => (SC.int ((x).5 i113)))])), (Ch.obj Bool.true (symRows Bool.true 3 (x).1 soq94 scq95)), (Ch.row (Row.mk Bool.true ro96 3 1 kn rc97 [(fun (i114 : Nat) => (SC.int (kf i114)))]))])))))))))))))))))))))))))))))))))))))))))))))))))))))))))))))))))))) ∧
 ((!(symB kn g045 (11 : Int))) = Bool.true →
 (b28 = b28 ∧
 (b3 = b3 ∧
 (b3 = b3 ∧
 (Exists (fun (Oq115 : (Option Addr)) => (Exists (fun (Aq116 : (Option Addr)) => (Exists (fun (Hq117 : (Option Addr)) => (Exists (fun (Cq118 : Nat) => (Exists (fun (Dq119 : Nat) => (Exists (fun (Ee120 : Nat) => (Exists (fun (soq121 : (Nat →
 (Option Addr))) => (Exists (fun (scq122 : (Nat →
 Nat)) => (Exists (fun (ro123 : (Option Addr)) => (Exists (fun (rc124 : Nat) => ((Value.tuple (List.toArray [(Value.agg (List.toArray [(Value.slice Oq20 (y5).1 Cq23), (Value.slice Aq21 (x).2 Dq24), (Value.slice Hq22 (x).4 Ee25)])), (Value.bool Bool.false)])) = (Value.tuple (List.toArray [(Value.agg (List.toArray [(Value.slice Oq115 ((x).1).1 Cq118), (Value.slice Aq116 (x).2 Dq119), (Value.slice Hq117 (x).4 Ee120)])), (Value.bool Bool.true)])) ∧
 (SelS [(Ch.row (Row.mk Bool.false O 0 2 ((x).1).1 0 [(fun (i125 : Nat) => (SC.sl 3 (so i125) (((x).1).2 i125) (sc i125))), (fun (i126 : Nat) => (SC.bool (((x).1).4 i126)))])), (Ch.row (Row.mk Bool.false A 0 1 (x).2 0 [(fun (i127 : Nat) => (SC.int ((x).3 i127)))])), (Ch.row (Row.mk Bool.false H 0 1 (x).4 0 [(fun (i128 : Nat) => (SC.int ((x).5 i128)))])), (Ch.obj Bool.false (symRows Bool.false 0 (x).1 so (fun (x129 : Nat) => 0))), (Ch.row (Row.mk Bool.false bo 0 1 bn 0 [(fun (i130 : Nat) => (SC.int (bf i130)))])), (Ch.row (Row.mk Bool.false ko 0 1 kn 0 [(fun (i131 : Nat) => (SC.int (kf i131)))])), (Ch.cells b0 37 [(SC.int gG), (SC.int gB), (SC.int gR), (SC.int gC)]), (Ch.cells b1 33 [(SC.sl 0 O ((x).1).1 C), (SC.sl 1 A (x).2 D), (SC.sl 2 H (x).4 E)]), (Ch.cells b2 54 [(SC.int tI), (SC.sl 4 bo bn bc), (SC.bool bp), (SC.sl 5 ko kn kc), (SC.bool kp), (SC.int tC)]), (Ch.cells b3 33 [(SC.sl 10 Oq20 (y5).1 Cq23), (SC.sl 11 Aq21 (x).2 Dq24), (SC.sl 12 Hq22 (x).4 Ee25)]), (Ch.row (Row.mk Bool.true Oq20 52 2 (y5).1 Cq23 [(fun (i132 : Nat) => (SC.sl 13 (soq26 i132) ((y5).2 i132) (scq27 i132))), (fun (i133 : Nat) => (SC.bool ((y5).4 i133)))])), (Ch.row (Row.mk Bool.true Aq21 3 1 (x).2 Dq24 [(fun (i134 : Nat) => (SC.int (ag9 i134)))])), (Ch.row (Row.mk Bool.true Hq22 3 1 (x).4 Ee25 [(fun (i135 : Nat) => (SC.int (hg10 i135)))])), (Ch.obj Bool.true (symRows Bool.true 3 y5 soq26 scq27)), (Ch.cells b28 33 [(SC.sl 10 Oq20 (y5).1 Cq23), (SC.sl 11 Aq21 (x).2 Dq24), (SC.sl 12 Hq22 (x).4 Ee25)])] [10, 11, 12, 13, 14] [(Ch.row (Row.mk Bool.true Oq115 52 2 ((x).1).1 Cq118 [(fun (i136 : Nat) => (SC.val (if i136 = (Int.toNat tI) then (Value.slice ro123 kn rc124) else (Value.slice (soq121 i136) (((x).1).2 i136) (scq122 i136))))), (fun (i137 : Nat) => (SC.bool (if i137 = (Int.toNat tI) then kp else (((x).1).4 i137))))])), (Ch.row (Row.mk Bool.true Aq116 3 1 (x).2 Dq119 [(fun (i138 : Nat) => (SC.int ((x).3 i138)))])), (Ch.row (Row.mk Bool.true Hq117 3 1 (x).4 Ee120 [(fun (i139 : Nat) => (SC.int ((x).5 i139)))])), (Ch.obj Bool.true (symRows Bool.true 3 (x).1 soq121 scq122)), (Ch.row (Row.mk Bool.true ro123 3 1 kn rc124 [(fun (i140 : Nat) => (SC.int (kf i140)))]))])))))))))))))))))))))))))))))))))) ∧
 ((!(btw tI (0 : Int) ((lineN gG gB gR gC) - (1 : Int)))) = Bool.true →
 (b28 = b28 ∧
 (b3 = b3 ∧
 (b3 = b3 ∧
 (Exists (fun (Oq141 : (Option Addr)) => (Exists (fun (Aq142 : (Option Addr)) => (Exists (fun (Hq143 : (Option Addr)) => (Exists (fun (Cq144 : Nat) => (Exists (fun (Dq145 : Nat) => (Exists (fun (Ee146 : Nat) => (Exists (fun (soq147 : (Nat →
 (Option Addr))) => (Exists (fun (scq148 : (Nat →
 Nat)) => (Exists (fun (ro149 : (Option Addr)) => (Exists (fun (rc150 : Nat) => ((Value.tuple (List.toArray [(Value.agg (List.toArray [(Value.slice Oq20 (y5).1 Cq23), (Value.slice Aq21 (x).2 Dq24), (Value.slice Hq22 (x).4 Ee25)])), (Value.bool Bool.false)])) = (Value.tuple (List.toArray [(Value.agg (List.toArray [(Value.slice Oq141 ((x).1).1 Cq144), (Value.slice Aq142 (x).2 Dq145), (Value.slice Hq143 (x).4 Ee146)])), (Value.bool Bool.true)])) ∧
 (SelS [(Ch.row (Row.mk Bool.false O 0 2 ((x).1).1 0 [(fun (i151 : Nat) => (SC.sl 3 (so i151) (((x).1).2 i151) (sc i151))), (fun (i152 : Nat) => (SC.bool (((x).1).4 i152)))])), (Ch.row (Row.mk Bool.false A 0 1 (x).2 0 [(fun (i153 : Nat) => (SC.int ((x).3 i153)))])), (Ch.row (Row.mk Bool.false H 0 1 (x).4 0 [(fun (i154 : Nat) => (SC.int ((x).5 i154)))])), (Ch.obj Bool.false (symRows Bool.false 0 (x).1 so (fun (x155 : Nat) => 0))), (Ch.row (Row.mk Bool.false bo 0 1 bn 0 [(fun (i156 : Nat) => (SC.int (bf i156)))])), (Ch.row (Row.mk Bool.false ko 0 1 kn 0 [(fun (i157 : Nat) => (SC.int (kf i157)))])), (Ch.cells b0 37 [(SC.int gG), (SC.int gB), (SC.int gR), (SC.int gC)]), (Ch.cells b1 33 [(SC.sl 0 O ((x).1).1 C), (SC.sl 1 A (x).2 D), (SC.sl 2 H (x).4 E)]), (Ch.cells b2 54 [(SC.int tI), (SC.sl 4 bo bn bc), (SC.bool bp), (SC.sl 5 ko kn kc), (SC.bool kp), (SC.int tC)]), (Ch.cells b3 33 [(SC.sl 10 Oq20 (y5).1 Cq23), (SC.sl 11 Aq21 (x).2 Dq24), (SC.sl 12 Hq22 (x).4 Ee25)]), (Ch.row (Row.mk Bool.true Oq20 52 2 (y5).1 Cq23 [(fun (i158 : Nat) => (SC.sl 13 (soq26 i158) ((y5).2 i158) (scq27 i158))), (fun (i159 : Nat) => (SC.bool ((y5).4 i159)))])), (Ch.row (Row.mk Bool.true Aq21 3 1 (x).2 Dq24 [(fun (i160 : Nat) => (SC.int (ag9 i160)))])), (Ch.row (Row.mk Bool.true Hq22 3 1 (x).4 Ee25 [(fun (i161 : Nat) => (SC.int (hg10 i161)))])), (Ch.obj Bool.true (symRows Bool.true 3 y5 soq26 scq27)), (Ch.cells b28 33 [(SC.sl 10 Oq20 (y5).1 Cq23), (SC.sl 11 Aq21 (x).2 Dq24), (SC.sl 12 Hq22 (x).4 Ee25)])] [10, 11, 12, 13, 14] [(Ch.row (Row.mk Bool.true Oq141 52 2 ((x).1).1 Cq144 [(fun (i162 : Nat) => (SC.val (if i162 = (Int.toNat tI) then (Value.slice ro149 kn rc150) else (Value.slice (soq147 i162) (((x).1).2 i162) (scq148 i162))))), (fun (i163 : Nat) => (SC.bool (if i163 = (Int.toNat tI) then kp else (((x).1).4 i163))))])), (Ch.row (Row.mk Bool.true Aq142 3 1 (x).2 Dq145 [(fun (i164 : Nat) => (SC.int ((x).3 i164)))])), (Ch.row (Row.mk Bool.true Hq143 3 1 (x).4 Ee146 [(fun (i165 : Nat) => (SC.int ((x).5 i165)))])), (Ch.obj Bool.true (symRows Bool.true 3 (x).1 soq147 scq148)), (Ch.row (Row.mk Bool.true ro149 3 1 kn rc150 [(fun (i166 : Nat) => (SC.int (kf i166)))]))]))))))))))))))))))))))))))))))))) ∧
 ((!(arrOk gG gB gR gC (AD.mk y30 (x).2 ag34 (x).4 hg35))) = Bool.true →
 (b28 = b28 ∧
 (b3 = b3 ∧
 (b3 = b3 ∧
 (Exists (fun (Oq167 : (Option Addr)) => (Exists (fun (Aq168 : (Option Addr)) => (Exists (fun (Hq169 : (Option Addr)) => (Exists (fun (Cq170 : Nat) => (Exists (fun (Dq171 : Nat) => (Exists (fun (Ee172 : Nat) => (Exists (fun (soq173 : (Nat →
 (Option Addr))) => (Exists (fun (scq174 : (Nat →
 Nat)) => (Exists (fun (ro175 : (Option Addr)) => (Exists (fun (rc176 : Nat) => ((Value.tuple (List.toArray [(Value.agg (List.toArray [(Value.slice Oq20 (y5).1 Cq23), (Value.slice Aq21 (x).2 Dq24), (Value.slice Hq22 (x).4 Ee25)])), (Value.bool Bool.false)])) = (Value.tuple (List.toArray [(Value.agg (List.toArray [(Value.slice Oq167 ((x).1).1 Cq170), (Value.slice Aq168 (x).2 Dq171), (Value.slice Hq169 (x).4 Ee172)])), (Value.bool Bool.true)])) ∧
 (SelS [(Ch.row (Row.mk Bool.false O 0 2 ((x).1).1 0 [(fun (i177 : Nat) => (SC.sl 3 (so i177) (((x).1).2 i177) (sc i177))), (fun (i178 : Nat) => (SC.bool (((x).1).4 i178)))])), (Ch.row (Row.mk Bool.false A 0 1 (x).2 0 [(fun (i179 : Nat) => (SC.int ((x).3 i179)))])), (Ch.row (Row.mk Bool.false H 0 1 (x).4 0 [(fun (i180 : Nat) => (SC.int ((x).5 i180)))])), (Ch.obj Bool.false (symRows Bool.false 0 (x).1 so (fun (x181 : Nat) => 0))), (Ch.row (Row.mk Bool.false bo 0 1 bn 0 [(fun (i182 : Nat) => (SC.int (bf i182)))])), (Ch.row (Row.mk Bool.false ko 0 1 kn 0 [(fun (i183 : Nat) => (SC.int (kf i183)))])), (Ch.cells b0 37 [(SC.int gG), (SC.int gB), (SC.int gR), (SC.int gC)]), (Ch.cells b1 33 [(SC.sl 0 O ((x).1).1 C), (SC.sl 1 A (x).2 D), (SC.sl 2 H (x).4 E)]), (Ch.cells b2 54 [(SC.int tI), (SC.sl 4 bo bn bc), (SC.bool bp), (SC.sl 5 ko kn kc), (SC.bool kp), (SC.int tC)]), (Ch.cells b3 33 [(SC.sl 10 Oq20 (y5).1 Cq23), (SC.sl 11 Aq21 (x).2 Dq24), (SC.sl 12 Hq22 (x).4 Ee25)]), (Ch.row (Row.mk Bool.true Oq20 52 2 (y5).1 Cq23 [(fun (i184 : Nat) => (SC.sl 13 (soq26 i184) ((y5).2 i184) (scq27 i184))), (fun (i185 : Nat) => (SC.bool ((y5).4 i185)))])), (Ch.row (Row.mk Bool.true Aq21 3 1 (x).2 Dq24 [(fun (i186 : Nat) => (SC.int (ag9 i186)))])), (Ch.row (Row.mk Bool.true Hq22 3 1 (x).4 Ee25 [(fun (i187 : Nat) => (SC.int (hg10 i187)))])), (Ch.obj Bool.true (symRows Bool.true 3 y5 soq26 scq27)), (Ch.cells b28 33 [(SC.sl 10 Oq20 (y5).1 Cq23), (SC.sl 11 Aq21 (x).2 Dq24), (SC.sl 12 Hq22 (x).4 Ee25)])] [10, 11, 12, 13, 14] [(Ch.row (Row.mk Bool.true Oq167 52 2 ((x).1).1 Cq170 [(fun (i188 : Nat) => (SC.val (if i188 = (Int.toNat tI) then (Value.slice ro175 kn rc176) else (Value.slice (soq173 i188) (((x).1).2 i188) (scq174 i188))))), (fun (i189 : Nat) => (SC.bool (if i189 = (Int.toNat tI) then kp else (((x).1).4 i189))))])), (Ch.row (Row.mk Bool.true Aq168 3 1 (x).2 Dq171 [(fun (i190 : Nat) => (SC.int ((x).3 i190)))])), (Ch.row (Row.mk Bool.true Hq169 3 1 (x).4 Ee172 [(fun (i191 : Nat) => (SC.int ((x).5 i191)))])), (Ch.obj Bool.true (symRows Bool.true 3 (x).1 soq173 scq174)), (Ch.row (Row.mk Bool.true ro175 3 1 kn rc176 [(fun (i192 : Nat) => (SC.int (kf i192)))]))])))))))))))))))))))))))))))))))))))))))))))))))))))))))))))))))))))))))))))))) := by kernel_rfl
theorem scSY_any (x : AD) (O A H : Option Addr) (C D E : Nat) (so : Nat → Option Addr) (sc : Nat → Nat) (gG gB gR gC : Int) (tI : Int) (bo ko : Option Addr) (bn bc kn kc : Nat) (bf kf : Nat → Int) (bp kp : Bool) (tC : Int) (w : World) (hA : SeenA w x O A H so sc) (hr1 : Row.sat w ⟨false, bo, 0, 1, bn, 0, [fun i => .int (bf i)]⟩) (hr2 : Row.sat w ⟨false, ko, 0, 1, kn, 0, [fun i => .int (kf i)]⟩) (hcap : capA x) (hkn : kn ≤ 2097152) (hst : scOk gG gB gR gC x tI bn bf bp kn kf = true) : Calls Try.prog 21 #[.agg #[.int .i64 gG, .int .i64 gB, .int .i64 gR, .int .i64 gC], arrV x O A H C D E, .agg #[.int .i64 tI, .slice bo bn bc, .bool bp, .slice ko kn kc, .bool kp, .int .i64 tC]] w fun e w' => ∃ (Oq Aq Hq : Option Addr) (Cq Dq Ee : Nat) (soq : Nat → Option Addr) (scq : Nat → Nat), e = .returned (.tuple #[arrV (setA x tI.toNat kn kf kp) Oq Aq Hq Cq Dq Ee, .bool true]) ∧ HS ⟨w, fun _ => False⟩ (arrO 0 (setA x tI.toNat kn kf kp) Oq Aq Hq Cq Dq Ee soq scq) w' := by
  refine fnB (tb := [(45, sCpA), (46, sArrOk), (31, sLine), (63, sBtw), (64, sSym), (65, sL32), (49, sCpC)]) (D := fun _ => [9]) ⟨sCpA_S, sArrOk_S, sLine_S, sBtwS_ok, sSym_S, sL32_ok, sCpC_S, trivial⟩ Try.func21 (@Eq.mpr _ _ (scSY_T x O A H C D E so sc gG gB gR gC tI bo ko bn bc kn kc bf kf bp kp tC) ?_) (HS.seenAll (fun _ => False) _ (hA.all 0 (seenC_row rfl hr1 (seenC_row rfl hr2 seenC_nil)))) (fun v ch' w' ⟨Oq, Aq, Hq, Cq, Dq, Ee, soq, scq, ro, rc, hv, hc⟩ hs => ⟨Oq, Aq, Hq, Cq, Dq, Ee, _, _, by rw [hv]; rfl, (hc.hs hs).stored⟩)
  clear hA hr1 hr2
  have hl := lenA_of hcap
  have hk1 : capC kn := hkn
  have hk2 : lenC kn := by show _ ≤ _; omega
  have hlb := line_bd gG gB gR gC
  obtain ⟨hok, hat, hsy, hpo, heq⟩ := sc_facts hst
  obtain ⟨hin, hbt⟩ := at_in hok hat
  have hi1 := hin.1
  have hi2 := hin.2.1
  have hi3 : ltN (tn tI) x.c.n := hin.2.2
  have hb2 : lenC (x.c.sn (tn tI)) := hl.2.2.2 _ hin.2.2
  have hnp : (x.c.po (tn tI) != bp) = false := by simpa [tn] using hpo
  have hp1 : (x.c.po (tn (adIx gG gB gR gC (atB gG gB gR gC tI) (atR gG gB gR gC tI) (atC gG gB gR gC tI))) != bp) = false := by rw [(at_addr hat).2]; exact hnp
  have hq1 : eqSB (x.c.sn (tn (adIx gG gB gR gC (atB gG gB gR gC tI) (atR gG gB gR gC tI) (atC gG gB gR gC tI)))) (x.c.sy (tn (adIx gG gB gR gC (atB gG gB gR gC tI) (atR gG gB gR gC tI) (atC gG gB gR gC tI)))) bn bf = true := by rw [(at_addr hat).2]; exact heq
  have hs2 : andB (beqb (x.c.po (tn tI)) bp) (eqSB (x.c.sn (tn tI)) (x.c.sy (tn tI)) bn bf) = true := by simp only [andB, beqb, hpo, heq]; rfl
  have hs3 : andB true (eqSB (x.c.sn (tn tI)) (x.c.sy (tn tI)) bn bf) = true := by simp only [andB, heq]; rfl
  repeat' (first
    | with_reducible exact rfl
    | exact True.intro
    | with_reducible assumption
    | exact hl
    | exact hcap
    | (intro h; exfalso; rw [hok] at h; simp at h; done)
    | (intro h; exfalso; rw [hat] at h; simp at h; done)
    | (intro h; exfalso; rw [hsy] at h; simp at h; done)
    | (intro h; exfalso; rw [hbt] at h; simp at h; done)
    | (intro h; exfalso; rw [hp1] at h; simp at h; done)
    | (intro h; exfalso; rw [hq1] at h; simp at h; done)
    | (intro h; exfalso; rw [hs2] at h; simp at h; done)
    | (intro h; exfalso; rw [hs3] at h; simp at h; done)
    | (refine ⟨_, _, _, _, _, ⟨rfl, rfl, rfl, ?_⟩, ?_⟩)
    | exact (by refine ⟨?_, rfl⟩; repeat' (first | exact True.intro | exact symRows_push | exact rfl | refine And.intro ?_ ?_ | (intro i hi; show _ = _; with_reducible rfl) | (intro i hi; show _ = _; rfl) | (intro i hi; show _ = _; simp only [SC.den]; split <;> rfl)))
    | refine And.intro ?_ ?_
    | apply Exists.intro
    | (intro h; exfalso; simp at h; done)
    | (intro h; replace h := of_decide_eq_true h; first | (exfalso; omega) | skip)
    | (intro h; replace h := of_decide_eq_false h; first | (exfalso; omega) | skip)
    | (intro i hi; with_reducible exact rfl)
    | intro _
    | omega
    | exact rfl)
theorem scSN_T (x : AD) (O A H : Option Addr) (C D E : Nat) (so : Nat → Option Addr) (sc : Nat → Nat) (gG gB gR gC : Int) (tI : Int) (bo ko : Option Addr) (bn bc kn kc : Nat) (bf kf : Nat → Int) (bp kp : Bool) (tC : Int) : (exFn Try.prog {tb := [(45, sCpA), (46, sArrOk), (31, sLine), (63, sBtw), (64, sSym), (65, sL32), (49, sCpC)], D := fun _ => [9]} 400 Try.f21 ([.a (.agg [.int gG, .int gB, .int gR, .int gC]), .a (arrS 0 x O A H C D E), .a (.agg [.int tI, .sl 4 bo bn bc, .bool bp, .sl 5 ko kn kc, .bool kp, .int tC])]) (arrR 0 x O A H so sc ++ [.row ⟨false, bo, 0, 1, bn, 0, [fun i => .int (bf i)]⟩, .row ⟨false, ko, 0, 1, kn, 0, [fun i => .int (kf i)]⟩]) (fun v ch => ∃ (Oq Aq Hq : Option Addr) (Cq Dq Ee : Nat) (soq : Nat → Option Addr) (scq : Nat → Nat), v.den = .tuple #[arrV x Oq Aq Hq Cq Dq Ee, .bool false] ∧ SelS ch (idsArr v ch) (arrO 0 x Oq Aq Hq Cq Dq Ee soq scq))) = (
  (∀ b0 : Nat,
 (∀ b1 : Nat,
 (∀ b2 : Nat,
 (∀ b3 : Nat,
 (b1 = b1 ∧
 (Exists (fun (t4 : Nat) => (Exists (fun (y5 : CD) => (Exists (fun (so6 : (Nat →
 (Option Addr))) => (Exists (fun (sc7 : (Nat →
 Nat)) => (Exists (fun (sd8 : (Nat →
 Nat)) => (Exists (fun (ag9 : (Nat →
 Int)) => (Exists (fun (hg10 : (Nat →
 Int)) => (((symRows Bool.false 0 (x).1 so (fun (x11 : Nat) => 0)) = (symRows Bool.false t4 y5 so6 sd8) ∧
 ([(fun (i12 : Nat) => (SC.sl 3 (so i12) (((x).1).2 i12) (sc i12))), (fun (i13 : Nat) => (SC.bool (((x).1).4 i13)))] = [(fun (i14 : Nat) => (SC.sl 3 (so6 i14) ((y5).2 i14) (sc7 i14))), (fun (i15 : Nat) => (SC.bool ((y5).4 i15)))] ∧
 (O = O ∧
 (((x).1).1 = ((x).1).1 ∧
 (((x).1).1 = (y5).1 ∧
 (A = A ∧
 ((x).2 = (x).2 ∧
 ([(fun (i16 : Nat) => (SC.int ((x).3 i16)))] = [(fun (i17 : Nat) => (SC.int (ag9 i17)))] ∧
 (H = H ∧
 ((x).4 = (x).4 ∧
 [(fun (i18 : Nat) => (SC.int ((x).5 i18)))] = [(fun (i19 : Nat) => (SC.int (hg10 i19)))])))))))))) ∧
 ((capA (AD.mk y5 (x).2 ag9 (x).4 hg10)) ∧
 (∀ Oq20 : (Option Addr),
 (∀ Aq21 : (Option Addr),
 (∀ Hq22 : (Option Addr),
 (∀ Cq23 : Nat,
 (∀ Dq24 : Nat,
 (∀ Ee25 : Nat,
 (∀ soq26 : (Nat →
 (Option Addr)),
 (∀ scq27 : (Nat →
 Nat),
 (∀ b28 : Nat,
 (b28 = b28 ∧
 (b0 = b0 ∧
 (b1 = b1 ∧
 (Exists (fun (t29 : Nat) => (Exists (fun (y30 : CD) => (Exists (fun (so31 : (Nat →
 (Option Addr))) => (Exists (fun (sc32 : (Nat →
 Nat)) => (Exists (fun (sd33 : (Nat →
 Nat)) => (Exists (fun (ag34 : (Nat →
 Int)) => (Exists (fun (hg35 : (Nat →
 Int)) => (((symRows Bool.false 0 (x).1 so (fun (x36 : Nat) => 0)) = (symRows Bool.false t29 y30 so31 sd33) ∧
 ([(fun (i37 : Nat) => (SC.sl 3 (so i37) (((x).1).2 i37) (sc i37))), (fun (i38 : Nat) => (SC.bool (((x).1).4 i38)))] = [(fun (i39 : Nat) => (SC.sl 3 (so31 i39) ((y30).2 i39) (sc32 i39))), (fun (i40 : Nat) => (SC.bool ((y30).4 i40)))] ∧
 (O = O ∧
 (((x).1).1 = ((x).1).1 ∧
 (((x).1).1 = (y30).1 ∧
 (A = A ∧
 ((x).2 = (x).2 ∧
 ([(fun (i41 : Nat) => (SC.int ((x).3 i41)))] = [(fun (i42 : Nat) => (SC.int (ag34 i42)))] ∧
 (H = H ∧
 ((x).4 = (x).4 ∧
 [(fun (i43 : Nat) => (SC.int ((x).5 i43)))] = [(fun (i44 : Nat) => (SC.int (hg35 i44)))])))))))))) ∧
 ((lenA (AD.mk y30 (x).2 ag34 (x).4 hg35)) ∧
 (True ∧
 (((!(arrOk gG gB gR gC (AD.mk y30 (x).2 ag34 (x).4 hg35))) = Bool.false →
 (b2 = b2 ∧
 (b0 = b0 ∧
 (True ∧
 ((rng ((lineN gG gB gR gC) - (1 : Int))) ∧
 (True ∧
 (((!(btw tI (0 : Int) ((lineN gG gB gR gC) - (1 : Int)))) = Bool.false →
 (b2 = b2 ∧
 (Exists (fun (g045 : (Nat →
 Int)) => ((ko = ko ∧
 (kn = kn ∧
 [(fun (i46 : Nat) => (SC.int (kf i46)))] = [(fun (i47 : Nat) => (SC.int (g045 i47)))])) ∧
 ((lenC kn) ∧
 (True ∧
 (((!(symB kn g045 (11 : Int))) = Bool.false →
 (b1 = b1 ∧
 (b2 = b2 ∧
 (O = O ∧
 (((x).1).1 = ((x).1).1 ∧
 ((0 ≤ tI ∧ tI < ((((x).1).1 : Nat) : Int)) ∧
 (O = O ∧
 ((Int.toNat tI) < ((x).1).1 ∧
 (b2 = b2 ∧
 (Exists (fun (t48 : Nat) => (Exists (fun (y49 : CD) => (Exists (fun (so50 : (Nat →
 (Option Addr))) => (Exists (fun (sc51 : (Nat →
 Nat)) => (Exists (fun (i52 : Nat) => (((symRows Bool.false 0 (x).1 so (fun (x53 : Nat) => 0)) = (symRows Bool.false t48 y49 so50 sc51) ∧
 ((so (Int.toNat tI)) = (so50 i52) ∧
 ((((x).1).2 (Int.toNat tI)) = ((y49).2 i52) ∧
 i52 < (y49).1))) ∧
 (Exists (fun (g054 : (Nat →
 Int)) => ((bo = bo ∧
 (bn = bn ∧
 [(fun (i55 : Nat) => (SC.int (bf i55)))] = [(fun (i56 : Nat) => (SC.int (g054 i56)))])) ∧
 ((lenC (((x).1).2 (Int.toNat tI))) ∧
 (True ∧
 (((!(andB ((((x).1).4 (Int.toNat tI)) == bp) (eqSB (((x).1).2 (Int.toNat tI)) ((y49).3 i52) bn g054))) = Bool.true →
 (b28 = b28 ∧
 (b3 = b3 ∧
 (b3 = b3 ∧
 (Exists (fun (Oq57 : (Option Addr)) => (Exists (fun (Aq58 : (Option Addr)) => (Exists (fun (Hq59 : (Option Addr)) => (Exists (fun (Cq60 : Nat) => (Exists (fun (Dq61 : Nat) => (Exists (fun (Ee62 : Nat) => (Exists (fun (soq63 : (Nat →
 (Option Addr))) => (Exists (fun (scq64 : (Nat →
 Nat)) => ((Value.tuple (List.toArray [(Value.agg (List.toArray [(Value.slice Oq20 (y5).1 Cq23), (Value.slice Aq21 (x).2 Dq24), (Value.slice Hq22 (x).4 Ee25)])), (Value.bool Bool.false)])) = (Value.tuple (List.toArray [(Value.agg (List.toArray [(Value.slice Oq57 ((x).1).1 Cq60), (Value.slice Aq58 (x).2 Dq61), (Value.slice Hq59 (x).4 Ee62)])), (Value.bool Bool.false)])) ∧
 (SelS [(Ch.row (Row.mk Bool.false O 0 2 ((x).1).1 0 [(fun (i65 : Nat) => (SC.sl 3 (so i65) (((x).1).2 i65) (sc i65))), (fun (i66 : Nat) => (SC.bool (((x).1).4 i66)))])), (Ch.row (Row.mk Bool.false A 0 1 (x).2 0 [(fun (i67 : Nat) => (SC.int ((x).3 i67)))])), (Ch.row (Row.mk Bool.false H 0 1 (x).4 0 [(fun (i68 : Nat) => (SC.int ((x).5 i68)))])), (Ch.obj Bool.false (symRows Bool.false 0 (x).1 so (fun (x69 : Nat) => 0))), (Ch.row (Row.mk Bool.false bo 0 1 bn 0 [(fun (i70 : Nat) => (SC.int (bf i70)))])), (Ch.row (Row.mk Bool.false ko 0 1 kn 0 [(fun (i71 : Nat) => (SC.int (kf i71)))])), (Ch.cells b0 37 [(SC.int gG), (SC.int gB), (SC.int gR), (SC.int gC)]), (Ch.cells b1 33 [(SC.sl 0 O ((x).1).1 C), (SC.sl 1 A (x).2 D), (SC.sl 2 H (x).4 E)]), (Ch.cells b2 54 [(SC.int tI), (SC.sl 4 bo bn bc), (SC.bool bp), (SC.sl 5 ko kn kc), (SC.bool kp), (SC.int tC)]), (Ch.cells b3 33 [(SC.sl 10 Oq20 (y5).1 Cq23), (SC.sl 11 Aq21 (x).2 Dq24), (SC.sl 12 Hq22 (x).4 Ee25)]), (Ch.row (Row.mk Bool.true Oq20 52 2 (y5).1 Cq23 [(fun (i72 : Nat) => (SC.sl 13 (soq26 i72) ((y5).2 i72) (scq27 i72))), (fun (i73 : Nat) => (SC.bool ((y5).4 i73)))])), (Ch.row (Row.mk Bool.true Aq21 3 1 (x).2 Dq24 [(fun (i74 : Nat) => (SC.int (ag9 i74)))])), (Ch.row (Row.mk Bool.true Hq22 3 1 (x).4 Ee25 [(fun (i75 : Nat) => (SC.int (hg10 i75)))])), (Ch.obj Bool.true (symRows Bool.true 3 y5 soq26 scq27)), (Ch.cells b28 33 [(SC.sl 10 Oq20 (y5).1 Cq23), (SC.sl 11 Aq21 (x).2 Dq24), (SC.sl 12 Hq22 (x).4 Ee25)])] [10, 11, 12, 13] [(Ch.row (Row.mk Bool.true Oq57 52 2 ((x).1).1 Cq60 [(fun (i76 : Nat) => (SC.sl 3 (soq63 i76) (((x).1).2 i76) (scq64 i76))), (fun (i77 : Nat) => (SC.bool (((x).1).4 i77)))])), (Ch.row (Row.mk Bool.true Aq58 3 1 (x).2 Dq61 [(fun (i78 : Nat) => (SC.int ((x).3 i78)))])), (Ch.row (Row.mk Bool.true Hq59 3 1 (x).4 Ee62 [(fun (i79 : Nat) => (SC.int ((x).5 i79)))])), (Ch.obj Bool.true (symRows Bool.true 3 (x).1 soq63 scq64))])))))))))))))))))))))) ∧
 ((!(andB ((((x).1).4 (Int.toNat tI)) == bp) (eqSB (((x).1).2 (Int.toNat tI)) ((y49).3 i52) bn g054))) = Bool.false →
 (b28 = b28 ∧
 (b2 = b2 ∧
 (b2 = b2 ∧
 (Exists (fun (g080 : (Nat →
 Int)) => ((ko = ko ∧
 (kn = kn ∧
 [(fun (i81 : Nat) => (SC.int (kf i81)))] = [(fun (i82 : Nat) => (SC.int (g080 i82)))])) ∧
 ((capC kn) ∧
 (∀ ro83 : (Option Addr),
 (∀ rc84 : Nat,
 (True ∧
 (Oq20 = Oq20 ∧
 ((y5).1 = (y5).1 ∧
 ((0 ≤ tI ∧ tI < (((y5).1 : Nat) : Int)) ∧
 (Oq20 = Oq20 ∧
 ((Int.toNat tI) < (y5).1 ∧
 (True ∧
 (b28 = b28 ∧
 (b3 = b3 ∧
 (b3 = b3 ∧
 (Exists (fun (Oq85 : (Option Addr)) => (Exists (fun (Aq86 : (Option Addr)) => (Exists (fun (Hq87 : (Option Addr)) => (Exists (fun (Cq88 : Nat) => (Exists (fun (Dq89 : Nat) => (Exists (fun (Ee90 : Nat) => (Exists (fun (soq91 : (Nat →
 (Option Addr))) => (Exists (fun (scq92 : (Nat →
 Nat)) => ((Value.tuple (List.toArray [(Value.agg (List.toArray [(Value.slice Oq20 (y5).1 Cq23), (Value.slice Aq21 (x).2 Dq24), (Value.slice Hq22 (x).4 Ee25)])), (Value.bool Bool.true)])) = (Value.tuple (List.toArray [(Value.agg (List.toArray [(Value.slice Oq85 ((x).1).1 Cq88), (Value.slice Aq86 (x).2 Dq89), (Value.slice Hq87 (x).4 Ee90)])), (Value.bool Bool.false)])) ∧
 (SelS [(Ch.row (Row.mk Bool.false O 0 2 ((x).1).1 0 [(fun (i93 : Nat) => (SC.sl 3 (so i93) (((x).1).2 i93) (sc i93))), (fun (i94 : Nat) => (SC.bool (((x).1).4 i94)))])), (Ch.row (Row.mk Bool.false A 0 1 (x).2 0 [(fun (i95 : Nat) => (SC.int ((x).3 i95)))])), (Ch.row (Row.mk Bool.false H 0 1 (x).4 0 [(fun (i96 : Nat) => (SC.int ((x).5 i96)))])), (Ch.obj Bool.false (symRows Bool.false 0 (x).1 so (fun (x97 : Nat) => 0))), (Ch.row (Row.mk Bool.false bo 0 1 bn 0 [(fun (i98 : Nat) => (SC.int (bf i98)))])), (Ch.row (Row.mk Bool.false ko 0 1 kn 0 [(fun (i99 : Nat) => (SC.int (kf i99)))])), (Ch.cells b0 37 [(SC.int gG), (SC.int gB), (SC.int gR), (SC.int gC)]), (Ch.cells b1 33 [(SC.sl 0 O ((x).1).1 C), (SC.sl 1 A (x).2 D), (SC.sl 2 H (x).4 E)]), (Ch.cells b2 54 [(SC.int tI), (SC.sl 4 bo bn bc), (SC.bool bp), (SC.sl 5 ko kn kc), (SC.bool kp), (SC.int tC)]), (Ch.cells b3 33 [(SC.sl 10 Oq20 (y5).1 Cq23), (SC.sl 11 Aq21 (x).2 Dq24), (SC.sl 12 Hq22 (x).4 Ee25)]), (Ch.row (Row.mk Bool.true Oq20 52 2 (y5).1 Cq23 [(fun (j100 : Nat) => (SC.val (if j100 = (Int.toNat tI) then (Value.slice ro83 kn rc84) else (Value.slice (soq26 j100) ((y5).2 j100) (scq27 j100))))), (fun (j101 : Nat) => (SC.bool (if j101 = (Int.toNat tI) then kp else ((y5).4 j101))))])), (Ch.row (Row.mk Bool.true Aq21 3 1 (x).2 Dq24 [(fun (i102 : Nat) => (SC.int (ag9 i102)))])), (Ch.row (Row.mk Bool.true Hq22 3 1 (x).4 Ee25 [(fun (i103 : Nat) => (SC.int (hg10 i103)))])), (Ch.obj Bool.true (symRows Bool.true 3 y5 soq26 scq27)), (Ch.cells b28 33 [(SC.sl 10 Oq20 (y5).1 Cq23), (SC.sl 11 Aq21 (x).2 Dq24), (SC.sl 12 Hq22 (x).4 Ee25)]), (Ch.row (Row.mk Bool.true ro83 3 1 kn rc84 [(fun (i104 : Nat) => (SC.int (g080 i104)))]))] [10, 11, 12, 1000003] [(Ch.row (Row.mk Bool.true Oq85 52 2 ((x).1).1 Cq88 [(fun (i105 : Nat) => (SC.sl 3 (soq91 i105) (((x).1).2 i105) (scq92 i105))), (fun (i106 : Nat) => (SC.bool (((x).1).4 i106)))])), (Ch.row (Row.mk Bool.true Aq86 3 1 (x).2 Dq89 [(fun (i107 : Nat) => (SC.int ((x).3 i107)))])), (Ch.row (Row.mk Bool.true Hq87 3 1 (x).4 Ee90 [(fun (i108 : Nat) => (SC.int ((x).5 i108)))])), (Ch.obj Bool.true (symRows Bool.true 3 (x).1 soq91 scq92))])))))))))))))))))))))))))))))))))))))))))))))))))))))))))))))))) ∧
 ((!(symB kn g045 (11 : Int))) = Bool.true →
 (b28 = b28 ∧
 (b3 = b3 ∧
 (b3 = b3 ∧
 (Exists (fun (Oq109 : (Option Addr)) => (Exists (fun (Aq110 : (Option Addr)) => (Exists (fun (Hq111 : (Option Addr)) => (Exists (fun (Cq112 : Nat) => (Exists (fun (Dq113 : Nat) => (Exists (fun (Ee114 : Nat) => (Exists (fun (soq115 : (Nat →
 (Option Addr))) => (Exists (fun (scq116 : (Nat →
 Nat)) => ((Value.tuple (List.toArray [(Value.agg (List.toArray [(Value.slice Oq20 (y5).1 Cq23), (Value.slice Aq21 (x).2 Dq24), (Value.slice Hq22 (x).4 Ee25)])), (Value.bool Bool.false)])) = (Value.tuple (List.toArray [(Value.agg (List.toArray [(Value.slice Oq109 ((x).1).1 Cq112), (Value.slice Aq110 (x).2 Dq113), (Value.slice Hq111 (x).4 Ee114)])), (Value.bool Bool.false)])) ∧
 (SelS [(Ch.row (Row.mk Bool.false O 0 2 ((x).1).1 0 [(fun (i117 : Nat) => (SC.sl 3 (so i117) (((x).1).2 i117) (sc i117))), (fun (i118 : Nat) => (SC.bool (((x).1).4 i118)))])), (Ch.row (Row.mk Bool.false A 0 1 (x).2 0 [(fun (i119 : Nat) => (SC.int ((x).3 i119)))])), (Ch.row (Row.mk Bool.false H 0 1 (x).4 0 [(fun (i120 : Nat) => (SC.int ((x).5 i120)))])), (Ch.obj Bool.false (symRows Bool.false 0 (x).1 so (fun (x121 : Nat) => 0))), (Ch.row (Row.mk Bool.false bo 0 1 bn 0 [(fun (i122 : Nat) => (SC.int (bf i122)))])), (Ch.row (Row.mk Bool.false ko 0 1 kn 0 [(fun (i123 : Nat) => (SC.int (kf i123)))])), (Ch.cells b0 37 [(SC.int gG), (SC.int gB), (SC.int gR), (SC.int gC)]), (Ch.cells b1 33 [(SC.sl 0 O ((x).1).1 C), (SC.sl 1 A (x).2 D), (SC.sl 2 H (x).4 E)]), (Ch.cells b2 54 [(SC.int tI), (SC.sl 4 bo bn bc), (SC.bool bp), (SC.sl 5 ko kn kc), (SC.bool kp), (SC.int tC)]), (Ch.cells b3 33 [(SC.sl 10 Oq20 (y5).1 Cq23), (SC.sl 11 Aq21 (x).2 Dq24), (SC.sl 12 Hq22 (x).4 Ee25)]), (Ch.row (Row.mk Bool.true Oq20 52 2 (y5).1 Cq23 [(fun (i124 : Nat) => (SC.sl 13 (soq26 i124) ((y5).2 i124) (scq27 i124))), (fun (i125 : Nat) => (SC.bool ((y5).4 i125)))])), (Ch.row (Row.mk Bool.true Aq21 3 1 (x).2 Dq24 [(fun (i126 : Nat) => (SC.int (ag9 i126)))])), (Ch.row (Row.mk Bool.true Hq22 3 1 (x).4 Ee25 [(fun (i127 : Nat) => (SC.int (hg10 i127)))])), (Ch.obj Bool.true (symRows Bool.true 3 y5 soq26 scq27)), (Ch.cells b28 33 [(SC.sl 10 Oq20 (y5).1 Cq23), (SC.sl 11 Aq21 (x).2 Dq24), (SC.sl 12 Hq22 (x).4 Ee25)])] [10, 11, 12, 13] [(Ch.row (Row.mk Bool.true Oq109 52 2 ((x).1).1 Cq112 [(fun (i128 : Nat) => (SC.sl 3 (soq115 i128) (((x).1).2 i128) (scq116 i128))), (fun (i129 : Nat) => (SC.bool (((x).1).4 i129)))])), (Ch.row (Row.mk Bool.true Aq110 3 1 (x).2 Dq113 [(fun (i130 : Nat) => (SC.int ((x).3 i130)))])), (Ch.row (Row.mk Bool.true Hq111 3 1 (x).4 Ee114 [(fun (i131 : Nat) => (SC.int ((x).5 i131)))])), (Ch.obj Bool.true (symRows Bool.true 3 (x).1 soq115 scq116))])))))))))))))))))))))))))))))) ∧
 ((!(btw tI (0 : Int) ((lineN gG gB gR gC) - (1 : Int)))) = Bool.true →
 (b28 = b28 ∧
 (b3 = b3 ∧
 (b3 = b3 ∧
 (Exists (fun (Oq132 : (Option Addr)) => (Exists (fun (Aq133 : (Option Addr)) => (Exists (fun (Hq134 : (Option Addr)) => (Exists (fun (Cq135 : Nat) => (Exists (fun (Dq136 : Nat) => (Exists (fun (Ee137 : Nat) => (Exists (fun (soq138 : (Nat →
 (Option Addr))) => (Exists (fun (scq139 : (Nat →
 Nat)) => ((Value.tuple (List.toArray [(Value.agg (List.toArray [(Value.slice Oq20 (y5).1 Cq23), (Value.slice Aq21 (x).2 Dq24), (Value.slice Hq22 (x).4 Ee25)])), (Value.bool Bool.false)])) = (Value.tuple (List.toArray [(Value.agg (List.toArray [(Value.slice Oq132 ((x).1).1 Cq135), (Value.slice Aq133 (x).2 Dq136), (Value.slice Hq134 (x).4 Ee137)])), (Value.bool Bool.false)])) ∧
 (SelS [(Ch.row (Row.mk Bool.false O 0 2 ((x).1).1 0 [(fun (i140 : Nat) => (SC.sl 3 (so i140) (((x).1).2 i140) (sc i140))), (fun (i141 : Nat) => (SC.bool (((x).1).4 i141)))])), (Ch.row (Row.mk Bool.false A 0 1 (x).2 0 [(fun (i142 : Nat) => (SC.int ((x).3 i142)))])), (Ch.row (Row.mk Bool.false H 0 1 (x).4 0 [(fun (i143 : Nat) => (SC.int ((x).5 i143)))])), (Ch.obj Bool.false (symRows Bool.false 0 (x).1 so (fun (x144 : Nat) => 0))), (Ch.row (Row.mk Bool.false bo 0 1 bn 0 [(fun (i145 : Nat) => (SC.int (bf i145)))])), (Ch.row (Row.mk Bool.false ko 0 1 kn 0 [(fun (i146 : Nat) => (SC.int (kf i146)))])), (Ch.cells b0 37 [(SC.int gG), (SC.int gB), (SC.int gR), (SC.int gC)]), (Ch.cells b1 33 [(SC.sl 0 O ((x).1).1 C), (SC.sl 1 A (x).2 D), (SC.sl 2 H (x).4 E)]), (Ch.cells b2 54 [(SC.int tI), (SC.sl 4 bo bn bc), (SC.bool bp), (SC.sl 5 ko kn kc), (SC.bool kp), (SC.int tC)]), (Ch.cells b3 33 [(SC.sl 10 Oq20 (y5).1 Cq23), (SC.sl 11 Aq21 (x).2 Dq24), (SC.sl 12 Hq22 (x).4 Ee25)]), (Ch.row (Row.mk Bool.true Oq20 52 2 (y5).1 Cq23 [(fun (i147 : Nat) => (SC.sl 13 (soq26 i147) ((y5).2 i147) (scq27 i147))), (fun (i148 : Nat) => (SC.bool ((y5).4 i148)))])), (Ch.row (Row.mk Bool.true Aq21 3 1 (x).2 Dq24 [(fun (i149 : Nat) => (SC.int (ag9 i149)))])), (Ch.row (Row.mk Bool.true Hq22 3 1 (x).4 Ee25 [(fun (i150 : Nat) => (SC.int (hg10 i150)))])), (Ch.obj Bool.true (symRows Bool.true 3 y5 soq26 scq27)), (Ch.cells b28 33 [(SC.sl 10 Oq20 (y5).1 Cq23), (SC.sl 11 Aq21 (x).2 Dq24), (SC.sl 12 Hq22 (x).4 Ee25)])] [10, 11, 12, 13] [(Ch.row (Row.mk Bool.true Oq132 52 2 ((x).1).1 Cq135 [(fun (i151 : Nat) => (SC.sl 3 (soq138 i151) (((x).1).2 i151) (scq139 i151))), (fun (i152 : Nat) => (SC.bool (((x).1).4 i152)))])), (Ch.row (Row.mk Bool.true Aq133 3 1 (x).2 Dq136 [(fun (i153 : Nat) => (SC.int ((x).3 i153)))])), (Ch.row (Row.mk Bool.true Hq134 3 1 (x).4 Ee137 [(fun (i154 : Nat) => (SC.int ((x).5 i154)))])), (Ch.obj Bool.true (symRows Bool.true 3 (x).1 soq138 scq139))]))))))))))))))))))))))))))))) ∧
 ((!(arrOk gG gB gR gC (AD.mk y30 (x).2 ag34 (x).4 hg35))) = Bool.true →
 (b28 = b28 ∧
 (b3 = b3 ∧
 (b3 = b3 ∧
 (Exists (fun (Oq155 : (Option Addr)) => (Exists (fun (Aq156 : (Option Addr)) => (Exists (fun (Hq157 : (Option Addr)) => (Exists (fun (Cq158 : Nat) => (Exists (fun (Dq159 : Nat) => (Exists (fun (Ee160 : Nat) => (Exists (fun (soq161 : (Nat →
 (Option Addr))) => (Exists (fun (scq162 : (Nat →
 Nat)) => ((Value.tuple (List.toArray [(Value.agg (List.toArray [(Value.slice Oq20 (y5).1 Cq23), (Value.slice Aq21 (x).2 Dq24), (Value.slice Hq22 (x).4 Ee25)])), (Value.bool Bool.false)])) = (Value.tuple (List.toArray [(Value.agg (List.toArray [(Value.slice Oq155 ((x).1).1 Cq158), (Value.slice Aq156 (x).2 Dq159), (Value.slice Hq157 (x).4 Ee160)])), (Value.bool Bool.false)])) ∧
 (SelS [(Ch.row (Row.mk Bool.false O 0 2 ((x).1).1 0 [(fun (i163 : Nat) => (SC.sl 3 (so i163) (((x).1).2 i163) (sc i163))), (fun (i164 : Nat) => (SC.bool (((x).1).4 i164)))])), (Ch.row (Row.mk Bool.false A 0 1 (x).2 0 [(fun (i165 : Nat) => (SC.int ((x).3 i165)))])), (Ch.row (Row.mk Bool.false H 0 1 (x).4 0 [(fun (i166 : Nat) => (SC.int ((x).5 i166)))])), (Ch.obj Bool.false (symRows Bool.false 0 (x).1 so (fun (x167 : Nat) => 0))), (Ch.row (Row.mk Bool.false bo 0 1 bn 0 [(fun (i168 : Nat) => (SC.int (bf i168)))])), (Ch.row (Row.mk Bool.false ko 0 1 kn 0 [(fun (i169 : Nat) => (SC.int (kf i169)))])), (Ch.cells b0 37 [(SC.int gG), (SC.int gB), (SC.int gR), (SC.int gC)]), (Ch.cells b1 33 [(SC.sl 0 O ((x).1).1 C), (SC.sl 1 A (x).2 D), (SC.sl 2 H (x).4 E)]), (Ch.cells b2 54 [(SC.int tI), (SC.sl 4 bo bn bc), (SC.bool bp), (SC.sl 5 ko kn kc), (SC.bool kp), (SC.int tC)]), (Ch.cells b3 33 [(SC.sl 10 Oq20 (y5).1 Cq23), (SC.sl 11 Aq21 (x).2 Dq24), (SC.sl 12 Hq22 (x).4 Ee25)]), (Ch.row (Row.mk Bool.true Oq20 52 2 (y5).1 Cq23 [(fun (i170 : Nat) => (SC.sl 13 (soq26 i170) ((y5).2 i170) (scq27 i170))), (fun (i171 : Nat) => (SC.bool ((y5).4 i171)))])), (Ch.row (Row.mk Bool.true Aq21 3 1 (x).2 Dq24 [(fun (i172 : Nat) => (SC.int (ag9 i172)))])), (Ch.row (Row.mk Bool.true Hq22 3 1 (x).4 Ee25 [(fun (i173 : Nat) => (SC.int (hg10 i173)))])), (Ch.obj Bool.true (symRows Bool.true 3 y5 soq26 scq27)), (Ch.cells b28 33 [(SC.sl 10 Oq20 (y5).1 Cq23), (SC.sl 11 Aq21 (x).2 Dq24), (SC.sl 12 Hq22 (x).4 Ee25)])] [10, 11, 12, 13] [(Ch.row (Row.mk Bool.true Oq155 52 2 ((x).1).1 Cq158 [(fun (i174 : Nat) => (SC.sl 3 (soq161 i174) (((x).1).2 i174) (scq162 i174))), (fun (i175 : Nat) => (SC.bool (((x).1).4 i175)))])), (Ch.row (Row.mk Bool.true Aq156 3 1 (x).2 Dq159 [(fun (i176 : Nat) => (SC.int ((x).3 i176)))])), (Ch.row (Row.mk Bool.true Hq157 3 1 (x).4 Ee160 [(fun (i177 : Nat) => (SC.int ((x).5 i177)))])), (Ch.obj Bool.true (symRows Bool.true 3 (x).1 soq161 scq162))])))))))))))))))))))))))))))))))))))))))))))))))))))))))))))))))))))))))))) := by kernel_rfl
theorem scSN_any (x : AD) (O A H : Option Addr) (C D E : Nat) (so : Nat → Option Addr) (sc : Nat → Nat) (gG gB gR gC : Int) (tI : Int) (bo ko : Option Addr) (bn bc kn kc : Nat) (bf kf : Nat → Int) (bp kp : Bool) (tC : Int) (w : World) (hA : SeenA w x O A H so sc) (hr1 : Row.sat w ⟨false, bo, 0, 1, bn, 0, [fun i => .int (bf i)]⟩) (hr2 : Row.sat w ⟨false, ko, 0, 1, kn, 0, [fun i => .int (kf i)]⟩) (hcap : capA x) (hkn : kn ≤ 2097152) (hst : scOk gG gB gR gC x tI bn bf bp kn kf = false) : Calls Try.prog 21 #[.agg #[.int .i64 gG, .int .i64 gB, .int .i64 gR, .int .i64 gC], arrV x O A H C D E, .agg #[.int .i64 tI, .slice bo bn bc, .bool bp, .slice ko kn kc, .bool kp, .int .i64 tC]] w fun e w' => ∃ (Oq Aq Hq : Option Addr) (Cq Dq Ee : Nat) (soq : Nat → Option Addr) (scq : Nat → Nat), e = .returned (.tuple #[arrV (x) Oq Aq Hq Cq Dq Ee, .bool false]) ∧ HS ⟨w, fun _ => False⟩ (arrO 0 (x) Oq Aq Hq Cq Dq Ee soq scq) w' := by
  refine fnB (tb := [(45, sCpA), (46, sArrOk), (31, sLine), (63, sBtw), (64, sSym), (65, sL32), (49, sCpC)]) (D := fun _ => [9]) ⟨sCpA_S, sArrOk_S, sLine_S, sBtwS_ok, sSym_S, sL32_ok, sCpC_S, trivial⟩ Try.func21 (@Eq.mpr _ _ (scSN_T x O A H C D E so sc gG gB gR gC tI bo ko bn bc kn kc bf kf bp kp tC) ?_) (HS.seenAll (fun _ => False) _ (hA.all 0 (seenC_row rfl hr1 (seenC_row rfl hr2 seenC_nil)))) (fun v ch' w' ⟨Oq, Aq, Hq, Cq, Dq, Ee, soq, scq, hv, hc⟩ hs => ⟨Oq, Aq, Hq, Cq, Dq, Ee, soq, scq, by rw [hv], hc.hs hs⟩)
  clear hA hr1 hr2
  have hl := lenA_of hcap
  have hk1 : capC kn := hkn
  have hk2 : lenC kn := by show _ ≤ _; omega
  have hlb := line_bd gG gB gR gC
  cases hok : arrOk gG gB gR gC x
  · cases hat : atOk gG gB gR gC tI
    · skip
      repeat' (first
        | with_reducible exact rfl
        | exact True.intro
        | with_reducible assumption
        | exact hl
        | exact hcap
        | (intro h; exfalso; rw [hok] at h; simp at h; done)
        | (intro h; exfalso; rw [hat] at h; simp at h; done)
        | exact (by refine ⟨?_, rfl⟩; repeat' (first | exact True.intro | exact symRows_push | exact rfl | refine And.intro ?_ ?_ | (intro i hi; show _ = _; with_reducible rfl) | (intro i hi; show _ = _; rfl) | (intro i hi; show _ = _; simp only [SC.den]; split <;> rfl)))
        | refine And.intro ?_ ?_
        | apply Exists.intro
        | (intro h; exfalso; simp at h; done)
        | (intro h; replace h := of_decide_eq_true h; first | (exfalso; omega) | skip)
        | (intro h; replace h := of_decide_eq_false h; first | (exfalso; omega) | skip)
        | (intro i hi; with_reducible exact rfl)
        | intro _
        | omega
        | exact rfl)
    · skip
      repeat' (first
        | with_reducible exact rfl
        | exact True.intro
        | with_reducible assumption
        | exact hl
        | exact hcap
        | (intro h; exfalso; rw [hok] at h; simp at h; done)
        | (intro h; exfalso; rw [hat] at h; simp at h; done)
        | exact (by refine ⟨?_, rfl⟩; repeat' (first | exact True.intro | exact symRows_push | exact rfl | refine And.intro ?_ ?_ | (intro i hi; show _ = _; with_reducible rfl) | (intro i hi; show _ = _; rfl) | (intro i hi; show _ = _; simp only [SC.den]; split <;> rfl)))
        | refine And.intro ?_ ?_
        | apply Exists.intro
        | (intro h; exfalso; simp at h; done)
        | (intro h; replace h := of_decide_eq_true h; first | (exfalso; omega) | skip)
        | (intro h; replace h := of_decide_eq_false h; first | (exfalso; omega) | skip)
        | (intro i hi; with_reducible exact rfl)
        | intro _
        | omega
        | exact rfl)
  · cases hat : atOk gG gB gR gC tI
    · have hbt := at_not hok hat
      repeat' (first
        | with_reducible exact rfl
        | exact True.intro
        | with_reducible assumption
        | exact hl
        | exact hcap
        | (intro h; exfalso; rw [hok] at h; simp at h; done)
        | (intro h; exfalso; rw [hat] at h; simp at h; done)
        | (intro h; exfalso; rw [hbt] at h; simp at h; done)
        | exact (by refine ⟨?_, rfl⟩; repeat' (first | exact True.intro | exact symRows_push | exact rfl | refine And.intro ?_ ?_ | (intro i hi; show _ = _; with_reducible rfl) | (intro i hi; show _ = _; rfl) | (intro i hi; show _ = _; simp only [SC.den]; split <;> rfl)))
        | refine And.intro ?_ ?_
        | apply Exists.intro
        | (intro h; exfalso; simp at h; done)
        | (intro h; replace h := of_decide_eq_true h; first | (exfalso; omega) | skip)
        | (intro h; replace h := of_decide_eq_false h; first | (exfalso; omega) | skip)
        | (intro i hi; with_reducible exact rfl)
        | intro _
        | omega
        | exact rfl)
    · cases hsy : symB kn kf 11
      · obtain ⟨hin, hbt⟩ := at_in hok hat
        have hi1 := hin.1
        have hi2 := hin.2.1
        have hi3 : ltN (tn tI) x.c.n := hin.2.2
        repeat' (first
          | with_reducible exact rfl
          | exact True.intro
          | with_reducible assumption
          | exact hl
          | exact hcap
          | (intro h; exfalso; rw [hok] at h; simp at h; done)
          | (intro h; exfalso; rw [hat] at h; simp at h; done)
          | (intro h; exfalso; rw [hsy] at h; simp at h; done)
          | (intro h; exfalso; rw [hbt] at h; simp at h; done)
          | exact (by refine ⟨?_, rfl⟩; repeat' (first | exact True.intro | exact symRows_push | exact rfl | refine And.intro ?_ ?_ | (intro i hi; show _ = _; with_reducible rfl) | (intro i hi; show _ = _; rfl) | (intro i hi; show _ = _; simp only [SC.den]; split <;> rfl)))
          | refine And.intro ?_ ?_
          | apply Exists.intro
          | (intro h; exfalso; simp at h; done)
          | (intro h; replace h := of_decide_eq_true h; first | (exfalso; omega) | skip)
          | (intro h; replace h := of_decide_eq_false h; first | (exfalso; omega) | skip)
          | (intro i hi; with_reducible exact rfl)
          | intro _
          | omega
          | exact rfl)
      · skip
        have hsm : sameB x tI.toNat bn bf bp = false := by simpa [scOk, hok, hat, hsy] using hst
        obtain ⟨hin, hbt⟩ := at_in hok hat
        have hi1 := hin.1
        have hi2 := hin.2.1
        have hi3 : ltN (tn tI) x.c.n := hin.2.2
        have hb2 : lenC (x.c.sn (tn tI)) := hl.2.2.2 _ hin.2.2
        cases hpo : (x.c.po tI.toNat == bp)
        · cases heq : eqSB (x.c.sn tI.toNat) (x.c.sy tI.toNat) bn bf
          · skip
            have hnp : (x.c.po (tn tI) != bp) = true := by simpa [tn] using hpo
            have hp1 : (x.c.po (tn (adIx gG gB gR gC (atB gG gB gR gC tI) (atR gG gB gR gC tI) (atC gG gB gR gC tI))) != bp) = true := by rw [(at_addr hat).2]; exact hnp
            have hq1 : eqSB (x.c.sn (tn (adIx gG gB gR gC (atB gG gB gR gC tI) (atR gG gB gR gC tI) (atC gG gB gR gC tI)))) (x.c.sy (tn (adIx gG gB gR gC (atB gG gB gR gC tI) (atR gG gB gR gC tI) (atC gG gB gR gC tI)))) bn bf = false := by rw [(at_addr hat).2]; exact heq
            have hs2 : andB (beqb (x.c.po (tn tI)) bp) (eqSB (x.c.sn (tn tI)) (x.c.sy (tn tI)) bn bf) = false := by simp only [andB, beqb, hpo, heq]; rfl
            have hs3 : andB false (eqSB (x.c.sn (tn tI)) (x.c.sy (tn tI)) bn bf) = false := by simp only [andB, heq]; rfl
            repeat' (first
              | with_reducible exact rfl
              | exact True.intro
              | with_reducible assumption
              | exact hl
              | exact hcap
              | (intro h; exfalso; rw [hok] at h; simp at h; done)
              | (intro h; exfalso; rw [hat] at h; simp at h; done)
              | (intro h; exfalso; rw [hsy] at h; simp at h; done)
              | (intro h; exfalso; rw [hbt] at h; simp at h; done)
              | (intro h; exfalso; rw [hp1] at h; simp at h; done)
              | (intro h; exfalso; rw [hq1] at h; simp at h; done)
              | (intro h; exfalso; rw [hs2] at h; simp at h; done)
              | (intro h; exfalso; rw [hs3] at h; simp at h; done)
              | (refine ⟨_, _, _, _, _, ⟨rfl, rfl, rfl, ?_⟩, ?_⟩)
              | exact (by refine ⟨?_, rfl⟩; repeat' (first | exact True.intro | exact symRows_push | exact rfl | refine And.intro ?_ ?_ | (intro i hi; show _ = _; with_reducible rfl) | (intro i hi; show _ = _; rfl) | (intro i hi; show _ = _; simp only [SC.den]; split <;> rfl)))
              | refine And.intro ?_ ?_
              | apply Exists.intro
              | (intro h; exfalso; simp at h; done)
              | (intro h; replace h := of_decide_eq_true h; first | (exfalso; omega) | skip)
              | (intro h; replace h := of_decide_eq_false h; first | (exfalso; omega) | skip)
              | (intro i hi; with_reducible exact rfl)
              | intro _
              | omega
              | exact rfl)
          · skip
            have hnp : (x.c.po (tn tI) != bp) = true := by simpa [tn] using hpo
            have hp1 : (x.c.po (tn (adIx gG gB gR gC (atB gG gB gR gC tI) (atR gG gB gR gC tI) (atC gG gB gR gC tI))) != bp) = true := by rw [(at_addr hat).2]; exact hnp
            have hq1 : eqSB (x.c.sn (tn (adIx gG gB gR gC (atB gG gB gR gC tI) (atR gG gB gR gC tI) (atC gG gB gR gC tI)))) (x.c.sy (tn (adIx gG gB gR gC (atB gG gB gR gC tI) (atR gG gB gR gC tI) (atC gG gB gR gC tI)))) bn bf = true := by rw [(at_addr hat).2]; exact heq
            have hs2 : andB (beqb (x.c.po (tn tI)) bp) (eqSB (x.c.sn (tn tI)) (x.c.sy (tn tI)) bn bf) = false := by simp only [andB, beqb, hpo, heq]; rfl
            have hs3 : andB false (eqSB (x.c.sn (tn tI)) (x.c.sy (tn tI)) bn bf) = false := by simp only [andB, heq]; rfl
            repeat' (first
              | with_reducible exact rfl
              | exact True.intro
              | with_reducible assumption
              | exact hl
              | exact hcap
              | (intro h; exfalso; rw [hok] at h; simp at h; done)
              | (intro h; exfalso; rw [hat] at h; simp at h; done)
              | (intro h; exfalso; rw [hsy] at h; simp at h; done)
              | (intro h; exfalso; rw [hbt] at h; simp at h; done)
              | (intro h; exfalso; rw [hp1] at h; simp at h; done)
              | (intro h; exfalso; rw [hq1] at h; simp at h; done)
              | (intro h; exfalso; rw [hs2] at h; simp at h; done)
              | (intro h; exfalso; rw [hs3] at h; simp at h; done)
              | (refine ⟨_, _, _, _, _, ⟨rfl, rfl, rfl, ?_⟩, ?_⟩)
              | exact (by refine ⟨?_, rfl⟩; repeat' (first | exact True.intro | exact symRows_push | exact rfl | refine And.intro ?_ ?_ | (intro i hi; show _ = _; with_reducible rfl) | (intro i hi; show _ = _; rfl) | (intro i hi; show _ = _; simp only [SC.den]; split <;> rfl)))
              | refine And.intro ?_ ?_
              | apply Exists.intro
              | (intro h; exfalso; simp at h; done)
              | (intro h; replace h := of_decide_eq_true h; first | (exfalso; omega) | skip)
              | (intro h; replace h := of_decide_eq_false h; first | (exfalso; omega) | skip)
              | (intro i hi; with_reducible exact rfl)
              | intro _
              | omega
              | exact rfl)
        · have heq : eqSB (x.c.sn tI.toNat) (x.c.sy tI.toNat) bn bf = false := by simpa [sameB, andB, beqb, hpo] using hsm
          have hnp : (x.c.po (tn tI) != bp) = false := by simpa [tn] using hpo
          have hp1 : (x.c.po (tn (adIx gG gB gR gC (atB gG gB gR gC tI) (atR gG gB gR gC tI) (atC gG gB gR gC tI))) != bp) = false := by rw [(at_addr hat).2]; exact hnp
          have hq1 : eqSB (x.c.sn (tn (adIx gG gB gR gC (atB gG gB gR gC tI) (atR gG gB gR gC tI) (atC gG gB gR gC tI)))) (x.c.sy (tn (adIx gG gB gR gC (atB gG gB gR gC tI) (atR gG gB gR gC tI) (atC gG gB gR gC tI)))) bn bf = false := by rw [(at_addr hat).2]; exact heq
          have hs2 : andB (beqb (x.c.po (tn tI)) bp) (eqSB (x.c.sn (tn tI)) (x.c.sy (tn tI)) bn bf) = false := by simp only [andB, beqb, hpo, heq]; rfl
          have hs3 : andB true (eqSB (x.c.sn (tn tI)) (x.c.sy (tn tI)) bn bf) = false := by simp only [andB, heq]; rfl
          repeat' (first
            | with_reducible exact rfl
            | exact True.intro
            | with_reducible assumption
            | exact hl
            | exact hcap
            | (intro h; exfalso; rw [hok] at h; simp at h; done)
            | (intro h; exfalso; rw [hat] at h; simp at h; done)
            | (intro h; exfalso; rw [hsy] at h; simp at h; done)
            | (intro h; exfalso; rw [hbt] at h; simp at h; done)
            | (intro h; exfalso; rw [hp1] at h; simp at h; done)
            | (intro h; exfalso; rw [hq1] at h; simp at h; done)
            | (intro h; exfalso; rw [hs2] at h; simp at h; done)
            | (intro h; exfalso; rw [hs3] at h; simp at h; done)
            | (refine ⟨_, _, _, _, _, ⟨rfl, rfl, rfl, ?_⟩, ?_⟩)
            | exact (by refine ⟨?_, rfl⟩; repeat' (first | exact True.intro | exact symRows_push | exact rfl | refine And.intro ?_ ?_ | (intro i hi; show _ = _; with_reducible rfl) | (intro i hi; show _ = _; rfl) | (intro i hi; show _ = _; simp only [SC.den]; split <;> rfl)))
            | refine And.intro ?_ ?_
            | apply Exists.intro
            | (intro h; exfalso; simp at h; done)
            | (intro h; replace h := of_decide_eq_true h; first | (exfalso; omega) | skip)
            | (intro h; replace h := of_decide_eq_false h; first | (exfalso; omega) | skip)
            | (intro i hi; with_reducible exact rfl)
            | intro _
            | omega
            | exact rfl)
theorem scS_any (x : AD) (O A H : Option Addr) (C D E : Nat) (so : Nat → Option Addr) (sc : Nat → Nat) (gG gB gR gC : Int) (tI : Int) (bo ko : Option Addr) (bn bc kn kc : Nat) (bf kf : Nat → Int) (bp kp : Bool) (tC : Int) (w : World) (hA : SeenA w x O A H so sc) (hr1 : Row.sat w ⟨false, bo, 0, 1, bn, 0, [fun i => .int (bf i)]⟩) (hr2 : Row.sat w ⟨false, ko, 0, 1, kn, 0, [fun i => .int (kf i)]⟩) (hcap : capA x) (hkn : kn ≤ 2097152) : Calls Try.prog 21 #[.agg #[.int .i64 gG, .int .i64 gB, .int .i64 gR, .int .i64 gC], arrV x O A H C D E, .agg #[.int .i64 tI, .slice bo bn bc, .bool bp, .slice ko kn kc, .bool kp, .int .i64 tC]] w fun e w' => ∃ (Oq Aq Hq : Option Addr) (Cq Dq Ee : Nat) (soq : Nat → Option Addr) (scq : Nat → Nat), e = .returned (.tuple #[arrV (scA gG gB gR gC x tI bn bf bp kn kf kp) Oq Aq Hq Cq Dq Ee, .bool (scOk gG gB gR gC x tI bn bf bp kn kf)]) ∧ HS ⟨w, fun _ => False⟩ (arrO 0 (scA gG gB gR gC x tI bn bf bp kn kf kp) Oq Aq Hq Cq Dq Ee soq scq) w' := by
  cases hst : scOk gG gB gR gC x tI bn bf bp kn kf
  · have e : scA gG gB gR gC x tI bn bf bp kn kf kp = x := by simp [scA, hst]
    rw [e]
    exact scSN_any x O A H C D E so sc gG gB gR gC tI bo ko bn bc kn kc bf kf bp kp tC w hA hr1 hr2 hcap hkn hst
  · have e : scA gG gB gR gC x tI bn bf bp kn kf kp = setA x tI.toNat kn kf kp := by simp [scA, hst]
    rw [e]
    exact scSY_any x O A H C D E so sc gG gB gR gC tI bo ko bn bc kn kc bf kf bp kp tC w hA hr1 hr2 hcap hkn hst
end Go.Proofs.Ytddeinpnadfgmaa

/-
  Corrections committed.
-/
import Derived.Test.YtmgjmglmjfjliaaSxS1
namespace Go.Proofs.Ytmgjmglmjfjliaa
set_option linter.unusedVariables false
set_option linter.unusedSimpArgs false
open Go.RowKit
set_option maxRecDepth 100000
set_option maxHeartbeats 8000000

def sameB (x : AD) (k : Nat) (n : Nat) (f : Nat → Int) (p : Bool) : Bool := andB (beqb (x.c.po k) p) (eqSB (x.c.sn k) (x.c.sy k) n f)
def scOk (gG gB gR gC : Int) (x : AD) (tI : Int) (bn : Nat) (bf : Nat → Int) (bp : Bool) (kn : Nat) (kf : Nat → Int) : Bool := arrOk gG gB gR gC x && atOk gG gB gR gC tI && symB kn kf 11 && sameB x tI.toNat bn bf bp
def scA (gG gB gR gC : Int) (x : AD) (tI : Int) (bn : Nat) (bf : Nat → Int) (bp : Bool) (kn : Nat) (kf : Nat → Int) (kp : Bool) : AD := if scOk gG gB gR gC x tI bn bf bp kn kf = true then setA x tI.toNat kn kf kp else x
theorem at_addr {g b r c n : Int} (h : atOk g b r c n = true) : adOk g b r c (atB g b r c n) (atR g b r c n) (atC g b r c n) = true ∧ adIx g b r c (atB g b r c n) (atR g b r c n) (atC g b r c n) = n := by
  have h0 := h
  simp only [atOk, Bool.and_eq_true] at h0
  obtain ⟨hg, hz⟩ := h0
  have hf := geo_facts hg
  have hb := geo_bank hg
  have hl : lineN g b r c = g * b * r * c := by simp [lineN, hg]
  have hn := btw_f hz
  rw [hl] at hn
  have e1 : atB g b r c n = n / c / r := by simp [atB, h]
  have e2 : atR g b r c n = n / c % r := by simp [atR, h]
  have e3 : atC g b r c n = n % c := by simp [atC, h]
  have h1 : n / c < g * b * r := Int.ediv_lt_of_lt_mul (by omega) (by omega)
  have h2 : n / c / r < g * b := Int.ediv_lt_of_lt_mul (by omega) h1
  have h3 : 0 ≤ n / c := Int.ediv_nonneg (by omega) (by omega)
  have h4 : 0 ≤ n / c / r := Int.ediv_nonneg h3 (by omega)
  have h5 := Int.emod_nonneg (n / c) (show r ≠ 0 by omega)
  have h6 := Int.emod_lt_of_pos (n / c) (show 0 < r by omega)
  have h7 := Int.emod_nonneg n (show c ≠ 0 by omega)
  have h8 := Int.emod_lt_of_pos n (show 0 < c by omega)
  have hk : bankN g b r c = g * b := by simp [bankN, hg]
  have had : adOk g b r c (n / c / r) (n / c % r) (n % c) = true := by
    simp only [adOk, Bool.and_eq_true, hk]
    exact ⟨⟨⟨hg, btw_mk (by omega) (by omega)⟩, btw_mk h5 (by omega)⟩, btw_mk h7 (by omega)⟩
  rw [e1, e2, e3]
  refine ⟨had, ?_⟩
  simp only [adIx, had, if_true]
  have g1 := Int.mul_ediv_add_emod (n / c) r
  have g2 := Int.mul_ediv_add_emod n c
  have g3 : n / c / r * r + n / c % r = n / c := by rw [Int.mul_comm]; exact g1
  rw [g3, Int.mul_comm]
  exact g2
theorem sc_facts {gG gB gR gC tI : Int} {x : AD} {bn kn : Nat} {bf kf : Nat → Int} {bp : Bool} (h : scOk gG gB gR gC x tI bn bf bp kn kf = true) : arrOk gG gB gR gC x = true ∧ atOk gG gB gR gC tI = true ∧ symB kn kf 11 = true ∧ (x.c.po tI.toNat == bp) = true ∧ eqSB (x.c.sn tI.toNat) (x.c.sy tI.toNat) bn bf = true := by
  simp only [scOk, sameB, andB, beqb, Bool.and_eq_true] at h
  exact ⟨h.1.1.1, h.1.1.2, h.1.2, h.2.1, h.2.2⟩
theorem line_bd (G B R K : Int) : 0 ≤ lineN G B R K ∧ lineN G B R K ≤ 1024 := by
  unfold lineN
  split
  · rename_i h
    exact (geo_row h).2
  · omega
theorem at_inS {G B R K n : Int} {x : AD} (h : arrOk G B R K x = true) (h2 : atOk G B R K n = true) : (0 ≤ n ∧ n < (x.c.n : Int) ∧ n.toNat < x.c.n) ∧ btw n 0 (lineN G B R K - 1) = true := by
  have h3 := arr_in h (at_addr h2).1
  rw [(at_addr h2).2] at h3
  simp only [atOk, Bool.and_eq_true] at h2
  exact ⟨h3, h2.2⟩
theorem at_not {G B R K n : Int} {x : AD} (h : arrOk G B R K x = true) (h2 : atOk G B R K n = false) : btw n 0 (lineN G B R K - 1) = false := by
  have hg := (arrOk_facts h).1
  simpa [atOk, hg] using h2
theorem scIY_T (x : AD) (O A H : Option Addr) (C D E : Nat) (so : Nat → Option Addr) (sc : Nat → Nat) (gG gB gR gC : Int) (tI : Int) (bo ko : Option Addr) (bn bc kn kc : Nat) (bf kf : Nat → Int) (bp kp : Bool) (tC : Int) : (exFn Try.prog {tb := [(31, sCpA), (27, sAdAt), (28, sArrOk), (32, sSym), (33, sAdIx), (34, sEqL), (30, sCpC)], D := fun _ => [9]} 400 Try.f12 ([.a (.agg [.int gG, .int gB, .int gR, .int gC]), .a (arrS 0 x O A H C D E), .a (.agg [.int tI, .sl 4 bo bn bc, .bool bp, .sl 5 ko kn kc, .bool kp, .int tC])]) (arrR 0 x O A H so sc ++ [.row ⟨false, bo, 0, 1, bn, 0, [fun i => .int (bf i)]⟩, .row ⟨false, ko, 0, 1, kn, 0, [fun i => .int (kf i)]⟩]) (fun v ch => ∃ (Oq Aq Hq : Option Addr) (Cq Dq Ee : Nat) (soq : Nat → Option Addr) (scq : Nat → Nat) (ro : Option Addr) (rc : Nat), v.den = .tuple #[arrV x Oq Aq Hq Cq Dq Ee, .bool true] ∧ SelS ch (idsSt v ch) (storedCh x (tn tI) kn kf kp Oq Aq Hq Cq Dq Ee soq scq ro rc))) = (
  (fun b : Value => (fun c : Value => (fun d : Nat => (fun g : List (Nat→SC) => (fun h : List (Nat→SC) => (fun j : List (Nat→SC) => (fun k : List (Nat→SC) => (fun l : List Row => (fun m : List SC => (fun n : Ch => (fun o : Ch => (fun p : Ch => (fun q : Ch => (fun r : Ch => (fun s : List SC => (fun t : List SC => (fun u : List (Nat→SC) => (fun w : Int => (fun y : List SC => (fun z : Nat => (fun B : Ch => (fun F : Prop => (fun G : Bool => (fun I : Prop => (fun J : List SC => ∀ K L M N : Nat, (fun P : Ch => (fun Q : Ch => (fun R : Ch => L = L∧∃(S : Nat) (T : CD) (U : Nat→Option Addr) (V W : Nat→Nat) (X Y : Nat→Int), (fun Z : List (Nat→SC) => (fun aa : List (Nat→SC) => (fun ab : Prop => (l = (symRows false S T U W)∧u = [fun ac => Cs 3 (U ac) (T.2 ac) (V ac), fun ac => Cb (T.4 ac)]∧O = O∧x.1.1 = x.1.1∧x.1.1 = T.1∧A = A∧x.2 = x.2∧k = aa∧H = H∧x.4 = x.4∧j = Z)∧capA (AD.mk T x.2 X x.4 Y)∧∀(ac ad af : Option Addr) (ag ah aj : Nat) (ak : Nat→Option Addr) (al : Nat→Nat) (am : Nat), (fun an : Ch => (fun ao : Ch => (fun ap : Ch => (fun aq : Value => (fun ar : List SC => (fun au : Value => (fun av : Value => (fun aw : Ch => (fun ax : Ch => (fun ay : Ch => am = am∧K = K∧M = M∧∀ az : Nat, (fun aA : Ch => (fun aB : Prop => az = az∧((! (atOk gG gB gR gC tI)) = false→K = K∧L = L∧∃(aC : Nat) (aD : CD) (aE : Nat→Option Addr) (aF aG : Nat→Nat) (aH aI : Nat→Int), (fun aJ : Bool => (l = (symRows false aC aD aE aG)∧u = [fun aK => Cs 3 (aE aK) (aD.2 aK) (aF aK), fun aK => Cb (aD.4 aK)]∧O = O∧x.1.1 = x.1.1∧x.1.1 = aD.1∧A = A∧x.2 = x.2∧k = [fun aK => Ci (aH aK)]∧H = H∧x.4 = x.4∧j = [fun aK => Ci (aI aK)])∧lenA (AD.mk aD x.2 aH x.4 aI)∧(aJ = false→M = M∧∃ aK : Nat→Int, (ko = ko∧kn = kn∧h = [fun aL => Ci (aK aL)])∧lenC kn∧((! (symB kn aK (11 : Int))) = true→aB)∧((! (symB kn aK (11 : Int))) = false→L = L∧K = K∧az = az∧(True∧O = O∧x.1.1 = x.1.1∧I∧O = O∧z < x.1.1∧∀ aL : Nat, (fun aM : Prop => True∧aL = aL∧True∧aL = aL∧M = M∧(G = false→aL = aL∧M = M∧∃(aN : Nat) (aO : CD) (aP : Nat→Option Addr) (aQ : Nat→Nat) (aR : Nat), (l = (symRows false aN aO aP aQ)∧(so z) = (aP aR)∧(x.1.2 z) = (aO.2 aR)∧aR < aO.1)∧∃ aS : Nat→Int, (fun aT : Bool => (bo = bo∧bn = bn∧g = [fun aU => Ci (aS aU)])∧F∧(aT = true→aM)∧(aT = false→am = am∧M = M∧M = M∧∃ aU : Nat→Int, (ko = ko∧kn = kn∧h = [fun aV => Ci (aU aV)])∧capC kn∧∀(aV : Option Addr) (aW : Nat), True∧ac = ac∧T.1 = T.1∧ab∧ac = ac∧d < T.1∧True∧am = am∧N = N∧N = N∧∃(aX aY aZ : Option Addr) (a0 a1 a2 : Nat) (a3 : Nat→Option Addr) (a4 : Nat→Nat) (a5 : Option Addr) (a6 : Nat), au = (Wu [Wa [Ws aX x.1.1 a0, Ws aY x.2 a1, Ws aZ x.4 a2], b])∧SelS [B, r, q, p, o, n, R, Q, P, ax, Hr true ac 43 2 T.1 ag [fun a7 => Cv (if a7 = d then (Ws aV kn aW) else (Ws (ak a7) (T.2 a7) (al a7))), fun a7 => Cb (if a7 = d then kp else (T.4 a7))], ao, an, ap, aw, aA, Hc aL 43 J, Hr true aV 3 1 kn aW [fun a7 => Ci (aU a7)]] [10, 11, 12, 13, 17] [Hr true aX 43 2 x.1.1 a0 [fun a7 => Cv (if a7 = d then (Ws a5 kn a6) else (Ws (a3 a7) (x.1.2 a7) (a4 a7))), fun a7 => Cb (if a7 = d then kp else (x.1.4 a7))], Hr true aY 3 1 x.2 a1 k, Hr true aZ 3 1 x.4 a2 j, Ho true (symRows true 3 x.1 a3 a4), Hr true a5 3 1 kn a6 h])) (! (eqSB (x.1.2 z) (aO.3 aR) bn aS)))∧(G = true→aM)) (am = am∧N = N∧N = N∧∃(aM aN aO : Option Addr) (aP aQ aR : Nat) (aS : Nat→Option Addr) (aT : Nat→Nat) (aU : Option Addr) (aV : Nat), av = (Wu [Wa [Ws aM x.1.1 aP, Ws aN x.2 aQ, Ws aO x.4 aR], b])∧SelS [B, r, q, p, o, n, R, Q, P, ax, ay, ao, an, ap, aw, aA, Hc aL 43 J] [10, 11, 12, 13, 16] [Hr true aM 43 2 x.1.1 aP [fun aW => Cv (if aW = d then (Ws aU kn aV) else (Ws (aS aW) (x.1.2 aW) (aT aW))), fun aW => Cb (if aW = d then kp else (x.1.4 aW))], Hr true aN 3 1 x.2 aQ k, Hr true aO 3 1 x.4 aR j, Ho true (symRows true 3 x.1 aS aT), Hr true aU 3 1 kn aV h]))∧∀ aL : Nat, (fun aM : Prop => True∧True∧O = O∧x.1.1 = x.1.1∧I∧O = O∧z < x.1.1∧aL = aL∧True∧aL = aL∧M = M∧(G = false→aL = aL∧M = M∧∃(aN : Nat) (aO : CD) (aP : Nat→Option Addr) (aQ : Nat→Nat) (aR : Nat), (l = (symRows false aN aO aP aQ)∧(so z) = (aP aR)∧(x.1.2 z) = (aO.2 aR)∧aR < aO.1)∧∃ aS : Nat→Int, (fun aT : Bool => (bo = bo∧bn = bn∧g = [fun aU => Ci (aS aU)])∧F∧(aT = true→aM)∧(aT = false→am = am∧M = M∧M = M∧∃ aU : Nat→Int, (ko = ko∧kn = kn∧h = [fun aV => Ci (aU aV)])∧capC kn∧∀(aV : Option Addr) (aW : Nat), True∧ac = ac∧T.1 = T.1∧ab∧ac = ac∧d < T.1∧True∧am = am∧N = N∧N = N∧∃(aX aY aZ : Option Addr) (a0 a1 a2 : Nat) (a3 : Nat→Option Addr) (a4 : Nat→Nat) (a5 : Option Addr) (a6 : Nat), au = (Wu [Wa [Ws aX x.1.1 a0, Ws aY x.2 a1, Ws aZ x.4 a2], b])∧SelS [B, r, q, p, o, n, R, Q, P, ax, Hr true ac 43 2 T.1 ag [fun a7 => Cv (if a7 = d then (Ws aV kn aW) else (Ws (ak a7) (T.2 a7) (al a7))), fun a7 => Cb (if a7 = d then kp else (T.4 a7))], ao, an, ap, aw, aA, Hc aL 43 J, Hr true aV 3 1 kn aW [fun a7 => Ci (aU a7)]] [10, 11, 12, 13, 17] [Hr true aX 43 2 x.1.1 a0 [fun a7 => Cv (if a7 = d then (Ws a5 kn a6) else (Ws (a3 a7) (x.1.2 a7) (a4 a7))), fun a7 => Cb (if a7 = d then kp else (x.1.4 a7))], Hr true aY 3 1 x.2 a1 k, Hr true aZ 3 1 x.4 a2 j, Ho true (symRows true 3 x.1 a3 a4), Hr true a5 3 1 kn a6 h])) (! (eqSB (x.1.2 z) (aO.3 aR) bn aS)))∧(G = true→aM)) (am = am∧N = N∧N = N∧∃(aM aN aO : Option Addr) (aP aQ aR : Nat) (aS : Nat→Option Addr) (aT : Nat→Nat) (aU : Option Addr) (aV : Nat), av = (Wu [Wa [Ws aM x.1.1 aP, Ws aN x.2 aQ, Ws aO x.4 aR], b])∧SelS [B, r, q, p, o, n, R, Q, P, ax, ay, ao, an, ap, aw, aA, Hc aL 43 J] [10, 11, 12, 13, 16] [Hr true aM 43 2 x.1.1 aP [fun aW => Cv (if aW = d then (Ws aU kn aV) else (Ws (aS aW) (x.1.2 aW) (aT aW))), fun aW => Cb (if aW = d then kp else (x.1.4 aW))], Hr true aN 3 1 x.2 aQ k, Hr true aO 3 1 x.4 aR j, Ho true (symRows true 3 x.1 aS aT), Hr true aU 3 1 kn aV h])))∧(aJ = true→aB)) (! (arrOk gG gB gR gC (AD.mk aD x.2 aH x.4 aI))))∧((! (atOk gG gB gR gC tI)) = true→aB)) (am = am∧N = N∧N = N∧∃(aB aC aD : Option Addr) (aE aF aG : Nat) (aH : Nat→Option Addr) (aI : Nat→Nat) (aJ : Option Addr) (aK : Nat), av = (Wu [Wa [Ws aB x.1.1 aE, Ws aC x.2 aF, Ws aD x.4 aG], b])∧SelS [B, r, q, p, o, n, R, Q, P, ax, ay, ao, an, ap, aw, aA] [10, 11, 12, 13, 15] [Hr true aB 43 2 x.1.1 aE [fun aL => Cv (if aL = d then (Ws aJ kn aK) else (Ws (aH aL) (x.1.2 aL) (aI aL))), fun aL => Cb (if aL = d then kp else (x.1.4 aL))], Hr true aC 3 1 x.2 aF k, Hr true aD 3 1 x.4 aG j, Ho true (symRows true 3 x.1 aH aI), Hr true aJ 3 1 kn aK h])) (Hc az 37 y)) (Hr true ac 43 2 T.1 ag [fun ay => Cs 13 (ak ay) (T.2 ay) (al ay), fun ay => Cb (T.4 ay)])) (Hc N 31 ar)) (Hc am 31 ar)) (Wu [aq, c])) (Wu [aq, b])) [Cs 10 ac T.1 ag, Cs 11 ad x.2 ah, Cs 12 af x.4 aj]) (Wa [Ws ac T.1 ag, Ws ad x.2 ah, Ws af x.4 aj])) (Ho true (symRows true 3 T ak al))) (Hr true ad 3 1 x.2 ah aa)) (Hr true af 3 1 x.4 aj Z)) (0 ≤ tI∧tI < ((T.1 : Nat) : Int))) [fun aa => Ci (X aa)]) [fun Z => Ci (Y Z)]) (Hc K 25 m)) (Hc L 31 s)) (Hc M 45 t)) [Cs 3 (so z) (x.1.2 z) (sc z), Cb (x.1.4 z)]) (0 ≤ w∧w < ((x.1.1 : Nat) : Int))) ((x.1.4 z) != bp)) (lenC (x.1.2 z))) (Hr false O 0 2 x.1.1 0 u)) (Int.toNat w)) [Ci (atB gG gB gR gC tI), Ci (atR gG gB gR gC tI), Ci (atC gG gB gR gC tI)]) (adIx gG gB gR gC (atB gG gB gR gC tI) (atR gG gB gR gC tI) (atC gG gB gR gC tI))) [fun u => Cs 3 (so u) (x.1.2 u) (sc u), fun u => Cb (x.1.4 u)]) [Ci tI, Cs 4 bo bn bc, Cb bp, Cs 5 ko kn kc, Cb kp, Ci tC]) [Cs 0 O x.1.1 C, Cs 1 A x.2 D, Cs 2 H x.4 E]) (Hr false A 0 1 x.2 0 k)) (Hr false H 0 1 x.4 0 j)) (Ho false l)) (Hr false bo 0 1 bn 0 g)) (Hr false ko 0 1 kn 0 h)) [Ci gG, Ci gB, Ci gR, Ci gC]) (symRows false 0 x.1 so (fun l => 0))) [fun k => Ci (x.3 k)]) [fun j => Ci (x.5 j)]) [fun h => Ci (kf h)]) [fun g => Ci (bf g)]) (Int.toNat tI)) (Wb false)) (Wb true)) := by kernel_rfl
theorem scIY_any (x : AD) (O A H : Option Addr) (C D E : Nat) (so : Nat → Option Addr) (sc : Nat → Nat) (gG gB gR gC : Int) (tI : Int) (bo ko : Option Addr) (bn bc kn kc : Nat) (bf kf : Nat → Int) (bp kp : Bool) (tC : Int) (w : World) (hA : SeenA w x O A H so sc) (hr1 : Row.sat w ⟨false, bo, 0, 1, bn, 0, [fun i => .int (bf i)]⟩) (hr2 : Row.sat w ⟨false, ko, 0, 1, kn, 0, [fun i => .int (kf i)]⟩) (hcap : capA x) (hkn : kn ≤ 2097152) (hst : scOk gG gB gR gC x tI bn bf bp kn kf = true) : Calls Try.prog 12 #[.agg #[.int .i64 gG, .int .i64 gB, .int .i64 gR, .int .i64 gC], arrV x O A H C D E, .agg #[.int .i64 tI, .slice bo bn bc, .bool bp, .slice ko kn kc, .bool kp, .int .i64 tC]] w fun e w' => ∃ (Oq Aq Hq : Option Addr) (Cq Dq Ee : Nat) (soq : Nat → Option Addr) (scq : Nat → Nat), e = .returned (.tuple #[arrV (setA x tI.toNat kn kf kp) Oq Aq Hq Cq Dq Ee, .bool true]) ∧ HS ⟨w, fun _ => False⟩ (arrO 0 (setA x tI.toNat kn kf kp) Oq Aq Hq Cq Dq Ee soq scq) w' := by
  refine fnB (tb := [(31, sCpA), (27, sAdAt), (28, sArrOk), (32, sSym), (33, sAdIx), (34, sEqL), (30, sCpC)]) (D := fun _ => [9]) ⟨sCpA_I, sAdAt_I, sArrOk_I, sSym_I, sAdIx_I, sEqL_ok, sCpC_I, trivial⟩ Try.func12 (@Eq.mpr _ _ (scIY_T x O A H C D E so sc gG gB gR gC tI bo ko bn bc kn kc bf kf bp kp tC) ?_) (HS.seenAll (fun _ => False) _ (hA.all 0 (seenC_row rfl hr1 (seenC_row rfl hr2 seenC_nil)))) (fun v ch' w' ⟨Oq, Aq, Hq, Cq, Dq, Ee, soq, scq, ro, rc, hv, hc⟩ hs => ⟨Oq, Aq, Hq, Cq, Dq, Ee, _, _, by rw [hv]; rfl, (hc.hs hs).stored⟩)
  dsimp -zeta -proj -iota -eta -failIfUnchanged (etaStruct := .none) only
  clear hA hr1 hr2
  have hl := lenA_of hcap
  have hk1 : capC kn := hkn
  have hk2 : lenC kn := by show _ ≤ _; omega
  have hlb := line_bd gG gB gR gC
  obtain ⟨hok, hat, hsy, hpo, heq⟩ := sc_facts hst
  obtain ⟨hin, hbt⟩ := at_inS hok hat
  have hi1 := hin.1
  have hi2 := hin.2.1
  have hi3 : ltN (tn tI) x.c.n := hin.2.2
  have hb2 : lenC (x.c.sn (tn tI)) := hl.2.2.2 _ hin.2.2
  have hb1 : lenC (x.c.sn (adIx gG gB gR gC (atB gG gB gR gC tI) (atR gG gB gR gC tI) (atC gG gB gR gC tI)).toNat) := by rw [(at_addr hat).2]; exact hl.2.2.2 _ hin.2.2
  have j1 : 0 ≤ adIx gG gB gR gC (atB gG gB gR gC tI) (atR gG gB gR gC tI) (atC gG gB gR gC tI) := by rw [(at_addr hat).2]; exact hin.1
  have j2 : adIx gG gB gR gC (atB gG gB gR gC tI) (atR gG gB gR gC tI) (atC gG gB gR gC tI) < (x.c.n : Int) := by rw [(at_addr hat).2]; exact hin.2.1
  have j3 : ltN (tn (adIx gG gB gR gC (atB gG gB gR gC tI) (atR gG gB gR gC tI) (atC gG gB gR gC tI))) x.c.n := by rw [(at_addr hat).2]; exact hin.2.2
  have hnp : (x.c.po (tn tI) != bp) = false := by simpa [tn] using hpo
  have hp1 : (x.c.po (tn (adIx gG gB gR gC (atB gG gB gR gC tI) (atR gG gB gR gC tI) (atC gG gB gR gC tI))) != bp) = false := by rw [(at_addr hat).2]; exact hnp
  have hq1 : eqSB (x.c.sn (tn (adIx gG gB gR gC (atB gG gB gR gC tI) (atR gG gB gR gC tI) (atC gG gB gR gC tI)))) (x.c.sy (tn (adIx gG gB gR gC (atB gG gB gR gC tI) (atR gG gB gR gC tI) (atC gG gB gR gC tI)))) bn bf = true := by rw [(at_addr hat).2]; exact heq
  have hs2 : andB (beqb (x.c.po (tn tI)) bp) (eqSB (x.c.sn (tn tI)) (x.c.sy (tn tI)) bn bf) = true := by simp only [andB, beqb, hpo, heq]; rfl
  have hs3 : andB true (eqSB (x.c.sn (tn tI)) (x.c.sy (tn tI)) bn bf) = true := by simp only [andB, heq]; rfl
  repeat' (first
    | with_reducible exact rfl
    | exact True.intro
    | with_reducible assumption
    | exact hl
    | exact hcap
    | (intro h; exfalso; rw [hok] at h; simp at h; done)
    | (intro h; exfalso; rw [hat] at h; simp at h; done)
    | (intro h; exfalso; rw [hsy] at h; simp at h; done)
    | (intro h; exfalso; rw [hbt] at h; simp at h; done)
    | (intro h; exfalso; rw [hp1] at h; simp at h; done)
    | (intro h; exfalso; rw [hq1] at h; simp at h; done)
    | (intro h; exfalso; rw [hs2] at h; simp at h; done)
    | (intro h; exfalso; rw [hs3] at h; simp at h; done)
    | (refine ⟨_, _, _, _, _, ⟨rfl, rfl, rfl, ?_⟩, ?_⟩)
    | exact (by refine ⟨?_, rfl⟩; repeat' (first | exact True.intro | exact symRows_push | exact rfl | refine And.intro ?_ ?_ | (intro i hi; show _ = _; with_reducible rfl) | (intro i hi; show _ = _; rfl) | (intro i hi; show _ = _; simp only [SC.den]; split <;> rfl)))
    | refine And.intro ?_ ?_
    | apply Exists.intro
    | (intro h; exfalso; simp at h; done)
    | (intro h; replace h := of_decide_eq_true h; first | (exfalso; omega) | skip)
    | (intro h; replace h := of_decide_eq_false h; first | (exfalso; omega) | skip)
    | (intro i hi; with_reducible exact rfl)
    | intro _
    | omega
    | exact rfl)
theorem scIN_T (x : AD) (O A H : Option Addr) (C D E : Nat) (so : Nat → Option Addr) (sc : Nat → Nat) (gG gB gR gC : Int) (tI : Int) (bo ko : Option Addr) (bn bc kn kc : Nat) (bf kf : Nat → Int) (bp kp : Bool) (tC : Int) : (exFn Try.prog {tb := [(31, sCpA), (27, sAdAt), (28, sArrOk), (32, sSym), (33, sAdIx), (34, sEqL), (30, sCpC)], D := fun _ => [9]} 400 Try.f12 ([.a (.agg [.int gG, .int gB, .int gR, .int gC]), .a (arrS 0 x O A H C D E), .a (.agg [.int tI, .sl 4 bo bn bc, .bool bp, .sl 5 ko kn kc, .bool kp, .int tC])]) (arrR 0 x O A H so sc ++ [.row ⟨false, bo, 0, 1, bn, 0, [fun i => .int (bf i)]⟩, .row ⟨false, ko, 0, 1, kn, 0, [fun i => .int (kf i)]⟩]) (fun v ch => ∃ (Oq Aq Hq : Option Addr) (Cq Dq Ee : Nat) (soq : Nat → Option Addr) (scq : Nat → Nat), v.den = .tuple #[arrV x Oq Aq Hq Cq Dq Ee, .bool false] ∧ SelS ch (idsArr v ch) (arrO 0 x Oq Aq Hq Cq Dq Ee soq scq))) = (
  (fun b : Value => (fun c : Nat => (fun d : List (Nat→SC) => (fun g : List (Nat→SC) => (fun h : List (Nat→SC) => (fun j : List (Nat→SC) => (fun k : List Row => (fun l : List SC => (fun m : Ch => (fun n : Ch => (fun o : Ch => (fun p : Ch => (fun q : Ch => (fun r : List SC => (fun s : List SC => (fun t : List (Nat→SC) => (fun u : Int => (fun w : List SC => (fun y : Nat => (fun z : Ch => (fun B : Prop => (fun F : Bool => (fun G : Prop => (fun I : List SC => ∀ J K L M : Nat, (fun N : Ch => (fun P : Ch => (fun Q : Ch => K = K∧∃(R : Nat) (S : CD) (T : Nat→Option Addr) (U V : Nat→Nat) (W X : Nat→Int), (fun Y : List (Nat→SC) => (fun Z : List (Nat→SC) => (fun aa : Prop => (k = (symRows false R S T V)∧t = [fun ab => Cs 3 (T ab) (S.2 ab) (U ab), fun ab => Cb (S.4 ab)]∧O = O∧x.1.1 = x.1.1∧x.1.1 = S.1∧A = A∧x.2 = x.2∧j = Z∧H = H∧x.4 = x.4∧h = Y)∧capA (AD.mk S x.2 W x.4 X)∧∀(ab ac ad : Option Addr) (af ag ah : Nat) (aj : Nat→Option Addr) (ak : Nat→Nat) (al : Nat), (fun am : Ch => (fun an : Ch => (fun ao : Ch => (fun ap : Value => (fun aq : List SC => (fun ar : Value => (fun au : Ch => (fun av : Ch => (fun aw : Value => (fun ax : Ch => al = al∧J = J∧L = L∧∀ ay : Nat, (fun az : Ch => (fun aA : Prop => ay = ay∧((! (atOk gG gB gR gC tI)) = false→J = J∧K = K∧∃(aB : Nat) (aC : CD) (aD : Nat→Option Addr) (aE aF : Nat→Nat) (aG aH : Nat→Int), (fun aI : Bool => (k = (symRows false aB aC aD aF)∧t = [fun aJ => Cs 3 (aD aJ) (aC.2 aJ) (aE aJ), fun aJ => Cb (aC.4 aJ)]∧O = O∧x.1.1 = x.1.1∧x.1.1 = aC.1∧A = A∧x.2 = x.2∧j = [fun aJ => Ci (aG aJ)]∧H = H∧x.4 = x.4∧h = [fun aJ => Ci (aH aJ)])∧lenA (AD.mk aC x.2 aG x.4 aH)∧(aI = false→L = L∧∃ aJ : Nat→Int, (ko = ko∧kn = kn∧g = [fun aK => Ci (aJ aK)])∧lenC kn∧((! (symB kn aJ (11 : Int))) = true→aA)∧((! (symB kn aJ (11 : Int))) = false→K = K∧J = J∧ay = ay∧(True∧O = O∧x.1.1 = x.1.1∧G∧O = O∧y < x.1.1∧∀ aK : Nat, (fun aL : Prop => True∧aK = aK∧True∧aK = aK∧L = L∧(F = false→aK = aK∧L = L∧∃(aM : Nat) (aN : CD) (aO : Nat→Option Addr) (aP : Nat→Nat) (aQ : Nat), (k = (symRows false aM aN aO aP)∧(so y) = (aO aQ)∧(x.1.2 y) = (aN.2 aQ)∧aQ < aN.1)∧∃ aR : Nat→Int, (fun aS : Bool => (bo = bo∧bn = bn∧d = [fun aT => Ci (aR aT)])∧B∧(aS = true→aL)∧(aS = false→al = al∧L = L∧L = L∧∃ aT : Nat→Int, (ko = ko∧kn = kn∧g = [fun aU => Ci (aT aU)])∧capC kn∧∀(aU : Option Addr) (aV : Nat), True∧ab = ab∧S.1 = S.1∧aa∧ab = ab∧c < S.1∧True∧al = al∧M = M∧M = M∧∃(aW aX aY : Option Addr) (aZ a0 a1 : Nat) (a2 : Nat→Option Addr) (a3 : Nat→Nat), aw = (Wu [Wa [Ws aW x.1.1 aZ, Ws aX x.2 a0, Ws aY x.4 a1], b])∧SelS [z, q, p, o, n, m, Q, P, N, av, Hr true ab 43 2 S.1 af [fun a4 => Cv (if a4 = c then (Ws aU kn aV) else (Ws (aj a4) (S.2 a4) (ak a4))), fun a4 => Cb (if a4 = c then kp else (S.4 a4))], an, am, ao, au, az, Hc aK 43 I, Hr true aU 3 1 kn aV [fun a4 => Ci (aT a4)]] [10, 11, 12, 1000003] [Hr true aW 43 2 x.1.1 aZ [fun a4 => Cs 3 (a2 a4) (x.1.2 a4) (a3 a4), fun a4 => Cb (x.1.4 a4)], Hr true aX 3 1 x.2 a0 j, Hr true aY 3 1 x.4 a1 h, Ho true (symRows true 3 x.1 a2 a3)])) (! (eqSB (x.1.2 y) (aN.3 aQ) bn aR)))∧(F = true→aL)) (al = al∧M = M∧M = M∧∃(aL aM aN : Option Addr) (aO aP aQ : Nat) (aR : Nat→Option Addr) (aS : Nat→Nat), ar = (Wu [Wa [Ws aL x.1.1 aO, Ws aM x.2 aP, Ws aN x.4 aQ], b])∧SelS [z, q, p, o, n, m, Q, P, N, av, ax, an, am, ao, au, az, Hc aK 43 I] [10, 11, 12, 13] [Hr true aL 43 2 x.1.1 aO [fun aT => Cs 3 (aR aT) (x.1.2 aT) (aS aT), fun aT => Cb (x.1.4 aT)], Hr true aM 3 1 x.2 aP j, Hr true aN 3 1 x.4 aQ h, Ho true (symRows true 3 x.1 aR aS)]))∧∀ aK : Nat, (fun aL : Prop => True∧True∧O = O∧x.1.1 = x.1.1∧G∧O = O∧y < x.1.1∧aK = aK∧True∧aK = aK∧L = L∧(F = false→aK = aK∧L = L∧∃(aM : Nat) (aN : CD) (aO : Nat→Option Addr) (aP : Nat→Nat) (aQ : Nat), (k = (symRows false aM aN aO aP)∧(so y) = (aO aQ)∧(x.1.2 y) = (aN.2 aQ)∧aQ < aN.1)∧∃ aR : Nat→Int, (fun aS : Bool => (bo = bo∧bn = bn∧d = [fun aT => Ci (aR aT)])∧B∧(aS = true→aL)∧(aS = false→al = al∧L = L∧L = L∧∃ aT : Nat→Int, (ko = ko∧kn = kn∧g = [fun aU => Ci (aT aU)])∧capC kn∧∀(aU : Option Addr) (aV : Nat), True∧ab = ab∧S.1 = S.1∧aa∧ab = ab∧c < S.1∧True∧al = al∧M = M∧M = M∧∃(aW aX aY : Option Addr) (aZ a0 a1 : Nat) (a2 : Nat→Option Addr) (a3 : Nat→Nat), aw = (Wu [Wa [Ws aW x.1.1 aZ, Ws aX x.2 a0, Ws aY x.4 a1], b])∧SelS [z, q, p, o, n, m, Q, P, N, av, Hr true ab 43 2 S.1 af [fun a4 => Cv (if a4 = c then (Ws aU kn aV) else (Ws (aj a4) (S.2 a4) (ak a4))), fun a4 => Cb (if a4 = c then kp else (S.4 a4))], an, am, ao, au, az, Hc aK 43 I, Hr true aU 3 1 kn aV [fun a4 => Ci (aT a4)]] [10, 11, 12, 1000003] [Hr true aW 43 2 x.1.1 aZ [fun a4 => Cs 3 (a2 a4) (x.1.2 a4) (a3 a4), fun a4 => Cb (x.1.4 a4)], Hr true aX 3 1 x.2 a0 j, Hr true aY 3 1 x.4 a1 h, Ho true (symRows true 3 x.1 a2 a3)])) (! (eqSB (x.1.2 y) (aN.3 aQ) bn aR)))∧(F = true→aL)) (al = al∧M = M∧M = M∧∃(aL aM aN : Option Addr) (aO aP aQ : Nat) (aR : Nat→Option Addr) (aS : Nat→Nat), ar = (Wu [Wa [Ws aL x.1.1 aO, Ws aM x.2 aP, Ws aN x.4 aQ], b])∧SelS [z, q, p, o, n, m, Q, P, N, av, ax, an, am, ao, au, az, Hc aK 43 I] [10, 11, 12, 13] [Hr true aL 43 2 x.1.1 aO [fun aT => Cs 3 (aR aT) (x.1.2 aT) (aS aT), fun aT => Cb (x.1.4 aT)], Hr true aM 3 1 x.2 aP j, Hr true aN 3 1 x.4 aQ h, Ho true (symRows true 3 x.1 aR aS)])))∧(aI = true→aA)) (! (arrOk gG gB gR gC (AD.mk aC x.2 aG x.4 aH))))∧((! (atOk gG gB gR gC tI)) = true→aA)) (al = al∧M = M∧M = M∧∃(aA aB aC : Option Addr) (aD aE aF : Nat) (aG : Nat→Option Addr) (aH : Nat→Nat), ar = (Wu [Wa [Ws aA x.1.1 aD, Ws aB x.2 aE, Ws aC x.4 aF], b])∧SelS [z, q, p, o, n, m, Q, P, N, av, ax, an, am, ao, au, az] [10, 11, 12, 13] [Hr true aA 43 2 x.1.1 aD [fun aI => Cs 3 (aG aI) (x.1.2 aI) (aH aI), fun aI => Cb (x.1.4 aI)], Hr true aB 3 1 x.2 aE j, Hr true aC 3 1 x.4 aF h, Ho true (symRows true 3 x.1 aG aH)])) (Hc ay 37 w)) (Hr true ab 43 2 S.1 af [fun ax => Cs 13 (aj ax) (S.2 ax) (ak ax), fun ax => Cb (S.4 ax)])) (Wu [ap, Wb true])) (Hc M 31 aq)) (Hc al 31 aq)) (Wu [ap, b])) [Cs 10 ab S.1 af, Cs 11 ac x.2 ag, Cs 12 ad x.4 ah]) (Wa [Ws ab S.1 af, Ws ac x.2 ag, Ws ad x.4 ah])) (Ho true (symRows true 3 S aj ak))) (Hr true ac 3 1 x.2 ag Z)) (Hr true ad 3 1 x.4 ah Y)) (0 ≤ tI∧tI < ((S.1 : Nat) : Int))) [fun Z => Ci (W Z)]) [fun Y => Ci (X Y)]) (Hc J 25 l)) (Hc K 31 r)) (Hc L 45 s)) [Cs 3 (so y) (x.1.2 y) (sc y), Cb (x.1.4 y)]) (0 ≤ u∧u < ((x.1.1 : Nat) : Int))) ((x.1.4 y) != bp)) (lenC (x.1.2 y))) (Hr false O 0 2 x.1.1 0 t)) (Int.toNat u)) [Ci (atB gG gB gR gC tI), Ci (atR gG gB gR gC tI), Ci (atC gG gB gR gC tI)]) (adIx gG gB gR gC (atB gG gB gR gC tI) (atR gG gB gR gC tI) (atC gG gB gR gC tI))) [fun t => Cs 3 (so t) (x.1.2 t) (sc t), fun t => Cb (x.1.4 t)]) [Ci tI, Cs 4 bo bn bc, Cb bp, Cs 5 ko kn kc, Cb kp, Ci tC]) [Cs 0 O x.1.1 C, Cs 1 A x.2 D, Cs 2 H x.4 E]) (Hr false A 0 1 x.2 0 j)) (Hr false H 0 1 x.4 0 h)) (Ho false k)) (Hr false bo 0 1 bn 0 d)) (Hr false ko 0 1 kn 0 g)) [Ci gG, Ci gB, Ci gR, Ci gC]) (symRows false 0 x.1 so (fun k => 0))) [fun j => Ci (x.3 j)]) [fun h => Ci (x.5 h)]) [fun g => Ci (kf g)]) [fun d => Ci (bf d)]) (Int.toNat tI)) (Wb false)) := by kernel_rfl
theorem scIN_any (x : AD) (O A H : Option Addr) (C D E : Nat) (so : Nat → Option Addr) (sc : Nat → Nat) (gG gB gR gC : Int) (tI : Int) (bo ko : Option Addr) (bn bc kn kc : Nat) (bf kf : Nat → Int) (bp kp : Bool) (tC : Int) (w : World) (hA : SeenA w x O A H so sc) (hr1 : Row.sat w ⟨false, bo, 0, 1, bn, 0, [fun i => .int (bf i)]⟩) (hr2 : Row.sat w ⟨false, ko, 0, 1, kn, 0, [fun i => .int (kf i)]⟩) (hcap : capA x) (hkn : kn ≤ 2097152) (hst : scOk gG gB gR gC x tI bn bf bp kn kf = false) : Calls Try.prog 12 #[.agg #[.int .i64 gG, .int .i64 gB, .int .i64 gR, .int .i64 gC], arrV x O A H C D E, .agg #[.int .i64 tI, .slice bo bn bc, .bool bp, .slice ko kn kc, .bool kp, .int .i64 tC]] w fun e w' => ∃ (Oq Aq Hq : Option Addr) (Cq Dq Ee : Nat) (soq : Nat → Option Addr) (scq : Nat → Nat), e = .returned (.tuple #[arrV (x) Oq Aq Hq Cq Dq Ee, .bool false]) ∧ HS ⟨w, fun _ => False⟩ (arrO 0 (x) Oq Aq Hq Cq Dq Ee soq scq) w' := by
  refine fnB (tb := [(31, sCpA), (27, sAdAt), (28, sArrOk), (32, sSym), (33, sAdIx), (34, sEqL), (30, sCpC)]) (D := fun _ => [9]) ⟨sCpA_I, sAdAt_I, sArrOk_I, sSym_I, sAdIx_I, sEqL_ok, sCpC_I, trivial⟩ Try.func12 (@Eq.mpr _ _ (scIN_T x O A H C D E so sc gG gB gR gC tI bo ko bn bc kn kc bf kf bp kp tC) ?_) (HS.seenAll (fun _ => False) _ (hA.all 0 (seenC_row rfl hr1 (seenC_row rfl hr2 seenC_nil)))) (fun v ch' w' ⟨Oq, Aq, Hq, Cq, Dq, Ee, soq, scq, hv, hc⟩ hs => ⟨Oq, Aq, Hq, Cq, Dq, Ee, soq, scq, by rw [hv], hc.hs hs⟩)
  dsimp -zeta -proj -iota -eta -failIfUnchanged (etaStruct := .none) only
  clear hA hr1 hr2
  have hl := lenA_of hcap
  have hk1 : capC kn := hkn
  have hk2 : lenC kn := by show _ ≤ _; omega
  have hlb := line_bd gG gB gR gC
  cases hok : arrOk gG gB gR gC x
  · cases hat : atOk gG gB gR gC tI
    · skip
      repeat' (first
        | with_reducible exact rfl
        | exact True.intro
        | with_reducible assumption
        | exact hl
        | exact hcap
        | (intro h; exfalso; rw [hok] at h; simp at h; done)
        | (intro h; exfalso; rw [hat] at h; simp at h; done)
        | exact (by refine ⟨?_, rfl⟩; repeat' (first | exact True.intro | exact symRows_push | exact rfl | refine And.intro ?_ ?_ | (intro i hi; show _ = _; with_reducible rfl) | (intro i hi; show _ = _; rfl) | (intro i hi; show _ = _; simp only [SC.den]; split <;> rfl)))
        | refine And.intro ?_ ?_
        | apply Exists.intro
        | (intro h; exfalso; simp at h; done)
        | (intro h; replace h := of_decide_eq_true h; first | (exfalso; omega) | skip)
        | (intro h; replace h := of_decide_eq_false h; first | (exfalso; omega) | skip)
        | (intro i hi; with_reducible exact rfl)
        | intro _
        | omega
        | exact rfl)
    · skip
      repeat' (first
        | with_reducible exact rfl
        | exact True.intro
        | with_reducible assumption
        | exact hl
        | exact hcap
        | (intro h; exfalso; rw [hok] at h; simp at h; done)
        | (intro h; exfalso; rw [hat] at h; simp at h; done)
        | exact (by refine ⟨?_, rfl⟩; repeat' (first | exact True.intro | exact symRows_push | exact rfl | refine And.intro ?_ ?_ | (intro i hi; show _ = _; with_reducible rfl) | (intro i hi; show _ = _; rfl) | (intro i hi; show _ = _; simp only [SC.den]; split <;> rfl)))
        | refine And.intro ?_ ?_
        | apply Exists.intro
        | (intro h; exfalso; simp at h; done)
        | (intro h; replace h := of_decide_eq_true h; first | (exfalso; omega) | skip)
        | (intro h; replace h := of_decide_eq_false h; first | (exfalso; omega) | skip)
        | (intro i hi; with_reducible exact rfl)
        | intro _
        | omega
        | exact rfl)
  · cases hat : atOk gG gB gR gC tI
    · have hbt := at_not hok hat
      repeat' (first
        | with_reducible exact rfl
        | exact True.intro
        | with_reducible assumption
        | exact hl
        | exact hcap
        | (intro h; exfalso; rw [hok] at h; simp at h; done)
        | (intro h; exfalso; rw [hat] at h; simp at h; done)
        | (intro h; exfalso; rw [hbt] at h; simp at h; done)
        | exact (by refine ⟨?_, rfl⟩; repeat' (first | exact True.intro | exact symRows_push | exact rfl | refine And.intro ?_ ?_ | (intro i hi; show _ = _; with_reducible rfl) | (intro i hi; show _ = _; rfl) | (intro i hi; show _ = _; simp only [SC.den]; split <;> rfl)))
        | refine And.intro ?_ ?_
        | apply Exists.intro
        | (intro h; exfalso; simp at h; done)
        | (intro h; replace h := of_decide_eq_true h; first | (exfalso; omega) | skip)
        | (intro h; replace h := of_decide_eq_false h; first | (exfalso; omega) | skip)
        | (intro i hi; with_reducible exact rfl)
        | intro _
        | omega
        | exact rfl)
    · cases hsy : symB kn kf 11
      · obtain ⟨hin, hbt⟩ := at_inS hok hat
        have hi1 := hin.1
        have hi2 := hin.2.1
        have hi3 : ltN (tn tI) x.c.n := hin.2.2
        repeat' (first
          | with_reducible exact rfl
          | exact True.intro
          | with_reducible assumption
          | exact hl
          | exact hcap
          | (intro h; exfalso; rw [hok] at h; simp at h; done)
          | (intro h; exfalso; rw [hat] at h; simp at h; done)
          | (intro h; exfalso; rw [hsy] at h; simp at h; done)
          | (intro h; exfalso; rw [hbt] at h; simp at h; done)
          | exact (by refine ⟨?_, rfl⟩; repeat' (first | exact True.intro | exact symRows_push | exact rfl | refine And.intro ?_ ?_ | (intro i hi; show _ = _; with_reducible rfl) | (intro i hi; show _ = _; rfl) | (intro i hi; show _ = _; simp only [SC.den]; split <;> rfl)))
          | refine And.intro ?_ ?_
          | apply Exists.intro
          | (intro h; exfalso; simp at h; done)
          | (intro h; replace h := of_decide_eq_true h; first | (exfalso; omega) | skip)
          | (intro h; replace h := of_decide_eq_false h; first | (exfalso; omega) | skip)
          | (intro i hi; with_reducible exact rfl)
          | intro _
          | omega
          | exact rfl)
      · skip
        have hsm : sameB x tI.toNat bn bf bp = false := by simpa [scOk, hok, hat, hsy] using hst
        obtain ⟨hin, hbt⟩ := at_inS hok hat
        have hi1 := hin.1
        have hi2 := hin.2.1
        have hi3 : ltN (tn tI) x.c.n := hin.2.2
        have hb2 : lenC (x.c.sn (tn tI)) := hl.2.2.2 _ hin.2.2
        have hb1 : lenC (x.c.sn (adIx gG gB gR gC (atB gG gB gR gC tI) (atR gG gB gR gC tI) (atC gG gB gR gC tI)).toNat) := by rw [(at_addr hat).2]; exact hl.2.2.2 _ hin.2.2
        have j1 : 0 ≤ adIx gG gB gR gC (atB gG gB gR gC tI) (atR gG gB gR gC tI) (atC gG gB gR gC tI) := by rw [(at_addr hat).2]; exact hin.1
        have j2 : adIx gG gB gR gC (atB gG gB gR gC tI) (atR gG gB gR gC tI) (atC gG gB gR gC tI) < (x.c.n : Int) := by rw [(at_addr hat).2]; exact hin.2.1
        have j3 : ltN (tn (adIx gG gB gR gC (atB gG gB gR gC tI) (atR gG gB gR gC tI) (atC gG gB gR gC tI))) x.c.n := by rw [(at_addr hat).2]; exact hin.2.2
        cases hpo : (x.c.po tI.toNat == bp)
        · cases heq : eqSB (x.c.sn tI.toNat) (x.c.sy tI.toNat) bn bf
          · skip
            have hnp : (x.c.po (tn tI) != bp) = true := by simpa [tn] using hpo
            have hp1 : (x.c.po (tn (adIx gG gB gR gC (atB gG gB gR gC tI) (atR gG gB gR gC tI) (atC gG gB gR gC tI))) != bp) = true := by rw [(at_addr hat).2]; exact hnp
            have hq1 : eqSB (x.c.sn (tn (adIx gG gB gR gC (atB gG gB gR gC tI) (atR gG gB gR gC tI) (atC gG gB gR gC tI)))) (x.c.sy (tn (adIx gG gB gR gC (atB gG gB gR gC tI) (atR gG gB gR gC tI) (atC gG gB gR gC tI)))) bn bf = false := by rw [(at_addr hat).2]; exact heq
            have hs2 : andB (beqb (x.c.po (tn tI)) bp) (eqSB (x.c.sn (tn tI)) (x.c.sy (tn tI)) bn bf) = false := by simp only [andB, beqb, hpo, heq]; rfl
            have hs3 : andB false (eqSB (x.c.sn (tn tI)) (x.c.sy (tn tI)) bn bf) = false := by simp only [andB, heq]; rfl
            repeat' (first
              | with_reducible exact rfl
              | exact True.intro
              | with_reducible assumption
              | exact hl
              | exact hcap
              | (intro h; exfalso; rw [hok] at h; simp at h; done)
              | (intro h; exfalso; rw [hat] at h; simp at h; done)
              | (intro h; exfalso; rw [hsy] at h; simp at h; done)
              | (intro h; exfalso; rw [hbt] at h; simp at h; done)
              | (intro h; exfalso; rw [hp1] at h; simp at h; done)
              | (intro h; exfalso; rw [hq1] at h; simp at h; done)
              | (intro h; exfalso; rw [hs2] at h; simp at h; done)
              | (intro h; exfalso; rw [hs3] at h; simp at h; done)
              | (refine ⟨_, _, _, _, _, ⟨rfl, rfl, rfl, ?_⟩, ?_⟩)
              | exact (by refine ⟨?_, rfl⟩; repeat' (first | exact True.intro | exact symRows_push | exact rfl | refine And.intro ?_ ?_ | (intro i hi; show _ = _; with_reducible rfl) | (intro i hi; show _ = _; rfl) | (intro i hi; show _ = _; simp only [SC.den]; split <;> rfl)))
              | refine And.intro ?_ ?_
              | apply Exists.intro
              | (intro h; exfalso; simp at h; done)
              | (intro h; replace h := of_decide_eq_true h; first | (exfalso; omega) | skip)
              | (intro h; replace h := of_decide_eq_false h; first | (exfalso; omega) | skip)
              | (intro i hi; with_reducible exact rfl)
              | intro _
              | omega
              | exact rfl)
          · skip
            have hnp : (x.c.po (tn tI) != bp) = true := by simpa [tn] using hpo
            have hp1 : (x.c.po (tn (adIx gG gB gR gC (atB gG gB gR gC tI) (atR gG gB gR gC tI) (atC gG gB gR gC tI))) != bp) = true := by rw [(at_addr hat).2]; exact hnp
            have hq1 : eqSB (x.c.sn (tn (adIx gG gB gR gC (atB gG gB gR gC tI) (atR gG gB gR gC tI) (atC gG gB gR gC tI)))) (x.c.sy (tn (adIx gG gB gR gC (atB gG gB gR gC tI) (atR gG gB gR gC tI) (atC gG gB gR gC tI)))) bn bf = true := by rw [(at_addr hat).2]; exact heq
            have hs2 : andB (beqb (x.c.po (tn tI)) bp) (eqSB (x.c.sn (tn tI)) (x.c.sy (tn tI)) bn bf) = false := by simp only [andB, beqb, hpo, heq]; rfl
            have hs3 : andB false (eqSB (x.c.sn (tn tI)) (x.c.sy (tn tI)) bn bf) = false := by simp only [andB, heq]; rfl
            repeat' (first
              | with_reducible exact rfl
              | exact True.intro
              | with_reducible assumption
              | exact hl
              | exact hcap
              | (intro h; exfalso; rw [hok] at h; simp at h; done)
              | (intro h; exfalso; rw [hat] at h; simp at h; done)
              | (intro h; exfalso; rw [hsy] at h; simp at h; done)
              | (intro h; exfalso; rw [hbt] at h; simp at h; done)
              | (intro h; exfalso; rw [hp1] at h; simp at h; done)
              | (intro h; exfalso; rw [hq1] at h; simp at h; done)
              | (intro h; exfalso; rw [hs2] at h; simp at h; done)
              | (intro h; exfalso; rw [hs3] at h; simp at h; done)
              | (refine ⟨_, _, _, _, _, ⟨rfl, rfl, rfl, ?_⟩, ?_⟩)
              | exact (by refine ⟨?_, rfl⟩; repeat' (first | exact True.intro | exact symRows_push | exact rfl | refine And.intro ?_ ?_ | (intro i hi; show _ = _; with_reducible rfl) | (intro i hi; show _ = _; rfl) | (intro i hi; show _ = _; simp only [SC.den]; split <;> rfl)))
              | refine And.intro ?_ ?_
              | apply Exists.intro
              | (intro h; exfalso; simp at h; done)
              | (intro h; replace h := of_decide_eq_true h; first | (exfalso; omega) | skip)
              | (intro h; replace h := of_decide_eq_false h; first | (exfalso; omega) | skip)
              | (intro i hi; with_reducible exact rfl)
              | intro _
              | omega
              | exact rfl)
        · have heq : eqSB (x.c.sn tI.toNat) (x.c.sy tI.toNat) bn bf = false := by simpa [sameB, andB, beqb, hpo] using hsm
          have hnp : (x.c.po (tn tI) != bp) = false := by simpa [tn] using hpo
          have hp1 : (x.c.po (tn (adIx gG gB gR gC (atB gG gB gR gC tI) (atR gG gB gR gC tI) (atC gG gB gR gC tI))) != bp) = false := by rw [(at_addr hat).2]; exact hnp
          have hq1 : eqSB (x.c.sn (tn (adIx gG gB gR gC (atB gG gB gR gC tI) (atR gG gB gR gC tI) (atC gG gB gR gC tI)))) (x.c.sy (tn (adIx gG gB gR gC (atB gG gB gR gC tI) (atR gG gB gR gC tI) (atC gG gB gR gC tI)))) bn bf = false := by rw [(at_addr hat).2]; exact heq
          have hs2 : andB (beqb (x.c.po (tn tI)) bp) (eqSB (x.c.sn (tn tI)) (x.c.sy (tn tI)) bn bf) = false := by simp only [andB, beqb, hpo, heq]; rfl
          have hs3 : andB true (eqSB (x.c.sn (tn tI)) (x.c.sy (tn tI)) bn bf) = false := by simp only [andB, heq]; rfl
          repeat' (first
            | with_reducible exact rfl
            | exact True.intro
            | with_reducible assumption
            | exact hl
            | exact hcap
            | (intro h; exfalso; rw [hok] at h; simp at h; done)
            | (intro h; exfalso; rw [hat] at h; simp at h; done)
            | (intro h; exfalso; rw [hsy] at h; simp at h; done)
            | (intro h; exfalso; rw [hbt] at h; simp at h; done)
            | (intro h; exfalso; rw [hp1] at h; simp at h; done)
            | (intro h; exfalso; rw [hq1] at h; simp at h; done)
            | (intro h; exfalso; rw [hs2] at h; simp at h; done)
            | (intro h; exfalso; rw [hs3] at h; simp at h; done)
            | (refine ⟨_, _, _, _, _, ⟨rfl, rfl, rfl, ?_⟩, ?_⟩)
            | exact (by refine ⟨?_, rfl⟩; repeat' (first | exact True.intro | exact symRows_push | exact rfl | refine And.intro ?_ ?_ | (intro i hi; show _ = _; with_reducible rfl) | (intro i hi; show _ = _; rfl) | (intro i hi; show _ = _; simp only [SC.den]; split <;> rfl)))
            | refine And.intro ?_ ?_
            | apply Exists.intro
            | (intro h; exfalso; simp at h; done)
            | (intro h; replace h := of_decide_eq_true h; first | (exfalso; omega) | skip)
            | (intro h; replace h := of_decide_eq_false h; first | (exfalso; omega) | skip)
            | (intro i hi; with_reducible exact rfl)
            | intro _
            | omega
            | exact rfl)
theorem scI_any (x : AD) (O A H : Option Addr) (C D E : Nat) (so : Nat → Option Addr) (sc : Nat → Nat) (gG gB gR gC : Int) (tI : Int) (bo ko : Option Addr) (bn bc kn kc : Nat) (bf kf : Nat → Int) (bp kp : Bool) (tC : Int) (w : World) (hA : SeenA w x O A H so sc) (hr1 : Row.sat w ⟨false, bo, 0, 1, bn, 0, [fun i => .int (bf i)]⟩) (hr2 : Row.sat w ⟨false, ko, 0, 1, kn, 0, [fun i => .int (kf i)]⟩) (hcap : capA x) (hkn : kn ≤ 2097152) : Calls Try.prog 12 #[.agg #[.int .i64 gG, .int .i64 gB, .int .i64 gR, .int .i64 gC], arrV x O A H C D E, .agg #[.int .i64 tI, .slice bo bn bc, .bool bp, .slice ko kn kc, .bool kp, .int .i64 tC]] w fun e w' => ∃ (Oq Aq Hq : Option Addr) (Cq Dq Ee : Nat) (soq : Nat → Option Addr) (scq : Nat → Nat), e = .returned (.tuple #[arrV (scA gG gB gR gC x tI bn bf bp kn kf kp) Oq Aq Hq Cq Dq Ee, .bool (scOk gG gB gR gC x tI bn bf bp kn kf)]) ∧ HS ⟨w, fun _ => False⟩ (arrO 0 (scA gG gB gR gC x tI bn bf bp kn kf kp) Oq Aq Hq Cq Dq Ee soq scq) w' := by
  cases hst : scOk gG gB gR gC x tI bn bf bp kn kf
  · have e : scA gG gB gR gC x tI bn bf bp kn kf kp = x := by simp [scA, hst]
    rw [e]
    exact scIN_any x O A H C D E so sc gG gB gR gC tI bo ko bn bc kn kc bf kf bp kp tC w hA hr1 hr2 hcap hkn hst
  · have e : scA gG gB gR gC x tI bn bf bp kn kf kp = setA x tI.toNat kn kf kp := by simp [scA, hst]
    rw [e]
    exact scIY_any x O A H C D E so sc gG gB gR gC tI bo ko bn bc kn kc bf kf bp kp tC w hA hr1 hr2 hcap hkn hst
end Go.Proofs.Ytmgjmglmjfjliaa

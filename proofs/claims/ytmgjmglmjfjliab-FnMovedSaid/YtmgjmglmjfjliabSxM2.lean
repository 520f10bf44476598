/-
  Cells stored.
-/
import Derived.Test.YtmgjmglmjfjliabSxM1
namespace Go.Proofs.Ytmgjmglmjfjliab
set_option linter.unusedVariables false
set_option linter.unusedSimpArgs false
open Go.RowKit
set_option maxRecDepth 100000
set_option maxHeartbeats 1000000

def stOk (gG gB gR gC : Int) (dB dR dC : Int) (x : AD) (kn : Nat) (kf : Nat → Int) : Bool := arrOk gG gB gR gC x && adOk gG gB gR gC dB dR dC && symB kn kf 11
def stA (gG gB gR gC : Int) (dB dR dC : Int) (x : AD) (kn : Nat) (kf : Nat → Int) (kb : Bool) : AD := if stOk gG gB gR gC dB dR dC x kn kf = true then setA x (ixN gG gB gR gC dB dR dC) kn kf kb else x
theorem stY_T (x : AD) (O A H : Option Addr) (C D E : Nat) (so : Nat → Option Addr) (sc : Nat → Nat) (gG gB gR gC : Int) (dB dR dC : Int) (ko : Option Addr) (kn kc : Nat) (kf : Nat → Int) (kb : Bool) : (exFn Try.prog {tb := [(27, sCpA), (24, sArrOk), (42, sAdOk), (54, sSym), (57, sAdIx), (55, sCpC)]} 400 Try.f30 ([.a (.agg [.int gG, .int gB, .int gR, .int gC]), .a (arrS 0 x O A H C D E), .a (.agg [.int dB, .int dR, .int dC]), .a (.agg [.sl 4 ko kn kc, .bool kb])]) (arrR 0 x O A H so sc ++ [.row ⟨false, ko, 0, 1, kn, 0, [fun i => .int (kf i)]⟩]) (fun v ch => ∃ (Oq Aq Hq : Option Addr) (Cq Dq Ee : Nat) (soq : Nat → Option Addr) (scq : Nat → Nat) (ro : Option Addr) (rc : Nat), v.den = arrV x Oq Aq Hq Cq Dq Ee ∧ SelS ch (idsSt v ch) (storedCh x (ixN gG gB gR gC dB dR dC) kn kf kb Oq Aq Hq Cq Dq Ee soq scq ro rc))) = (
  (fun b : List (Nat→SC) => (fun c : List (Nat→SC) => (fun d : List (Nat→SC) => (fun g : Nat => (fun h : List SC => (fun j : List SC => (fun k : Int => (fun l : List Row => (fun m : List SC => (fun n : Nat => (fun o : Ch => (fun p : Ch => (fun q : Ch => (fun r : Ch => (fun s : List SC => (fun t : List (Nat→SC) => (fun u : Ch => ∀ w y z B F : Nat, (fun G : Ch => (fun I : Ch => (fun J : Ch => (fun K : Ch => y = y∧∃(L : Nat) (M : CD) (N : Nat→Option Addr) (P Q : Nat→Nat) (R S : Nat→Int), (fun T : List (Nat→SC) => (fun U : List (Nat→SC) => (l = (symRows false L M N Q)∧t = [fun V => Cs 3 (N V) (M.2 V) (P V), fun V => Cb (M.4 V)]∧O = O∧x.1.1 = x.1.1∧x.1.1 = M.1∧A = A∧x.2 = x.2∧d = U∧H = H∧x.4 = x.4∧c = T)∧capA (AD.mk M x.2 R x.4 S)∧∀(V W X : Option Addr) (Y Z aa : Nat) (ab : Nat→Option Addr) (ac : Nat→Nat) (ad : Nat), (fun af : Ch => (fun ag : Value => (fun ah : List SC => (fun aj : Ch => (fun ak : Ch => (fun al : Prop => ad = ad∧w = w∧y = y∧∃(am : Nat) (an : CD) (ao : Nat→Option Addr) (ap aq : Nat→Nat) (ar au : Nat→Int), (fun av : Bool => (l = (symRows false am an ao aq)∧t = [fun aw => Cs 3 (ao aw) (an.2 aw) (ap aw), fun aw => Cb (an.4 aw)]∧O = O∧x.1.1 = x.1.1∧x.1.1 = an.1∧A = A∧x.2 = x.2∧d = [fun aw => Ci (ar aw)]∧H = H∧x.4 = x.4∧c = [fun aw => Ci (au aw)])∧lenA (AD.mk an x.2 ar x.4 au)∧(av = true→w = w∧z = z∧((adOk gG gB gR gC dB dR dC) = true→B = B∧∃ aw : Nat→Int, (ko = ko∧kn = kn∧b = [fun ax => Ci (aw ax)])∧lenC kn∧((symB kn aw (11 : Int)) = true→ad = ad∧w = w∧z = z∧B = B∧True∧∃ ax : Nat→Int, (ko = ko∧kn = kn∧b = [fun ay => Ci (ax ay)])∧capC kn∧∀(ay : Option Addr) (az : Nat), True∧V = V∧M.1 = M.1∧(0 ≤ k∧k < ((M.1 : Nat) : Int))∧V = V∧n < M.1∧True∧ad = ad∧F = F∧F = F∧∃(aA aB aC : Option Addr) (aD aE aF : Nat) (aG : Nat→Option Addr) (aH : Nat→Nat) (aI : Option Addr) (aJ : Nat), ag = (Wa [Ws aA x.1.1 aD, Ws aB x.2 aE, Ws aC x.4 aF])∧SelS [u, r, q, p, o, K, J, I, G, ak, Hr true V 61 2 M.1 Y [fun aK => Cv (if aK = n then (Ws ay kn az) else (Ws (ab aK) (M.2 aK) (ac aK))), fun aK => Cb (if aK = n then kb else (M.4 aK))], Hr true W 3 1 x.2 Z U, Hr true X 3 1 x.4 aa T, af, aj, Hr true ay 3 1 kn az [fun aK => Ci (ax aK)]] [10, 11, 12, 13, 15] [Hr true aA 61 2 x.1.1 aD [fun aK => Cv (if aK = g then (Ws aI kn aJ) else (Ws (aG aK) (x.1.2 aK) (aH aK))), fun aK => Cb (if aK = g then kb else (x.1.4 aK))], Hr true aB 3 1 x.2 aE d, Hr true aC 3 1 x.4 aF c, Ho true (symRows true 3 x.1 aG aH), Hr true aI 3 1 kn aJ b])∧((symB kn aw (11 : Int)) = false→al))∧((adOk gG gB gR gC dB dR dC) = false→al))∧(av = false→al)) (arrOk gG gB gR gC (AD.mk an x.2 ar x.4 au))) (ad = ad∧F = F∧F = F∧∃(al am an : Option Addr) (ao ap aq : Nat) (ar : Nat→Option Addr) (au : Nat→Nat) (av : Option Addr) (aw : Nat), ag = (Wa [Ws al x.1.1 ao, Ws am x.2 ap, Ws an x.4 aq])∧SelS [u, r, q, p, o, K, J, I, G, ak, Hr true V 61 2 M.1 Y [fun ax => Cs 13 (ab ax) (M.2 ax) (ac ax), fun ax => Cb (M.4 ax)], Hr true W 3 1 x.2 Z U, Hr true X 3 1 x.4 aa T, af, aj] [10, 11, 12, 13, 14] [Hr true al 61 2 x.1.1 ao [fun ax => Cv (if ax = g then (Ws av kn aw) else (Ws (ar ax) (x.1.2 ax) (au ax))), fun ax => Cb (if ax = g then kb else (x.1.4 ax))], Hr true am 3 1 x.2 ap d, Hr true an 3 1 x.4 aq c, Ho true (symRows true 3 x.1 ar au), Hr true av 3 1 kn aw b])) (Hc F 31 ah)) (Hc ad 31 ah)) [Cs 10 V M.1 Y, Cs 11 W x.2 Z, Cs 12 X x.4 aa]) (Wa [Ws V M.1 Y, Ws W x.2 Z, Ws X x.4 aa])) (Ho true (symRows true 3 M ab ac))) [fun U => Ci (R U)]) [fun T => Ci (S T)]) (Hc w 25 m)) (Hc y 31 s)) (Hc z 41 j)) (Hc B 61 h)) (Hr false O 0 2 x.1.1 0 t)) [fun t => Cs 3 (so t) (x.1.2 t) (sc t), fun t => Cb (x.1.4 t)]) [Cs 0 O x.1.1 C, Cs 1 A x.2 D, Cs 2 H x.4 E]) (Hr false A 0 1 x.2 0 d)) (Hr false H 0 1 x.4 0 c)) (Ho false l)) (Hr false ko 0 1 kn 0 b)) (Int.toNat k)) [Ci gG, Ci gB, Ci gR, Ci gC]) (symRows false 0 x.1 so (fun l => 0))) (adIx gG gB gR gC dB dR dC)) [Ci dB, Ci dR, Ci dC]) [Cs 4 ko kn kc, Cb kb]) (ixN gG gB gR gC dB dR dC)) [fun d => Ci (x.3 d)]) [fun c => Ci (x.5 c)]) [fun b => Ci (kf b)]) := by kernel_rfl
theorem stY_any (x : AD) (O A H : Option Addr) (C D E : Nat) (so : Nat → Option Addr) (sc : Nat → Nat) (gG gB gR gC : Int) (dB dR dC : Int) (ko : Option Addr) (kn kc : Nat) (kf : Nat → Int) (kb : Bool) (w : World) (hA : SeenA w x O A H so sc) (hr : Row.sat w ⟨false, ko, 0, 1, kn, 0, [fun i => .int (kf i)]⟩) (hcap : capA x) (hkn : kn ≤ 2097152) (hst : stOk gG gB gR gC dB dR dC x kn kf = true) : Calls Try.prog 30 #[.agg #[.int .i64 gG, .int .i64 gB, .int .i64 gR, .int .i64 gC], arrV x O A H C D E, .agg #[.int .i64 dB, .int .i64 dR, .int .i64 dC], .agg #[.slice ko kn kc, .bool kb]] w fun e w' => ∃ (Oq Aq Hq : Option Addr) (Cq Dq Ee : Nat) (soq : Nat → Option Addr) (scq : Nat → Nat), e = .returned (arrV (setA x (ixN gG gB gR gC dB dR dC) kn kf kb) Oq Aq Hq Cq Dq Ee) ∧ HS ⟨w, fun _ => False⟩ (arrO 0 (setA x (ixN gG gB gR gC dB dR dC) kn kf kb) Oq Aq Hq Cq Dq Ee soq scq) w' := by
  refine fnB (tb := [(27, sCpA), (24, sArrOk), (42, sAdOk), (54, sSym), (57, sAdIx), (55, sCpC)]) ⟨sCpA_I, sArrOk_I, sAdOk_I, sSym_I, sAdIx_I, sCpC_I, trivial⟩ Try.func30 (@Eq.mpr _ _ (stY_T x O A H C D E so sc gG gB gR gC dB dR dC ko kn kc kf kb) ?_) (HS.seenAll (fun _ => False) _ (hA.all 0 (seenC_row rfl hr seenC_nil))) (fun v ch' w' ⟨Oq, Aq, Hq, Cq, Dq, Ee, soq, scq, ro, rc, hv, hc⟩ hs => ⟨Oq, Aq, Hq, Cq, Dq, Ee, _, _, by rw [hv]; rfl, (hc.hs hs).stored⟩)
  clear hA hr
  have hl := lenA_of hcap
  have hk1 : capC kn := hkn
  simp only [stOk, Bool.and_eq_true] at hst
  obtain ⟨⟨hok, had⟩, hsy⟩ := hst
  have hin := arr_in hok had
  have hi1 := hin.1
  have hi2 := hin.2.1
  have hi3 : ltN (tn (adIx gG gB gR gC dB dR dC)) x.c.n := hin.2.2
  repeat' (first
    | with_reducible exact rfl
    | exact True.intro
    | with_reducible assumption
    | exact hl
    | exact hcap
    | (intro h; exfalso; rw [hok] at h; simp at h; done)
    | (intro h; exfalso; rw [had] at h; simp at h; done)
    | (intro h; exfalso; rw [hsy] at h; simp at h; done)
    | exact (by refine ⟨?_, rfl⟩; repeat' (first | exact True.intro | exact symRows_push | exact rfl | refine And.intro ?_ ?_ | (intro i hi; show _ = _; with_reducible rfl) | (intro i hi; show _ = _; rfl) | (intro i hi; show _ = _; simp only [SC.den]; split <;> rfl)))
    | refine And.intro ?_ ?_
    | apply Exists.intro
    | (intro h; exfalso; simp at h; done)
    | (intro h; replace h := of_decide_eq_true h; first | (exfalso; omega) | skip)
    | (intro h; replace h := of_decide_eq_false h; first | (exfalso; omega) | skip)
    | (intro i hi; with_reducible exact rfl)
    | intro _
    | omega
    | exact rfl)
theorem stN_T (x : AD) (O A H : Option Addr) (C D E : Nat) (so : Nat → Option Addr) (sc : Nat → Nat) (gG gB gR gC : Int) (dB dR dC : Int) (ko : Option Addr) (kn kc : Nat) (kf : Nat → Int) (kb : Bool) : (exFn Try.prog {tb := [(27, sCpA), (24, sArrOk), (42, sAdOk), (54, sSym), (57, sAdIx), (55, sCpC)]} 400 Try.f30 ([.a (.agg [.int gG, .int gB, .int gR, .int gC]), .a (arrS 0 x O A H C D E), .a (.agg [.int dB, .int dR, .int dC]), .a (.agg [.sl 4 ko kn kc, .bool kb])]) (arrR 0 x O A H so sc ++ [.row ⟨false, ko, 0, 1, kn, 0, [fun i => .int (kf i)]⟩]) (fun v ch => ∃ (Oq Aq Hq : Option Addr) (Cq Dq Ee : Nat) (soq : Nat → Option Addr) (scq : Nat → Nat), v.den = arrV x Oq Aq Hq Cq Dq Ee ∧ SelS ch (idsArr v ch) (arrO 0 x Oq Aq Hq Cq Dq Ee soq scq))) = (
  (fun b : List (Nat→SC) => (fun c : List (Nat→SC) => (fun d : List (Nat→SC) => (fun g : List SC => (fun h : List SC => (fun j : Int => (fun k : List Row => (fun l : List SC => (fun m : Nat => (fun n : Ch => (fun o : Ch => (fun p : Ch => (fun q : Ch => (fun r : List SC => (fun s : List (Nat→SC) => (fun t : Ch => ∀ u w y z B : Nat, (fun F : Ch => (fun G : Ch => (fun I : Ch => (fun J : Ch => w = w∧∃(K : Nat) (L : CD) (M : Nat→Option Addr) (N P : Nat→Nat) (Q R : Nat→Int), (fun S : List (Nat→SC) => (fun T : List (Nat→SC) => (k = (symRows false K L M P)∧s = [fun U => Cs 3 (M U) (L.2 U) (N U), fun U => Cb (L.4 U)]∧O = O∧x.1.1 = x.1.1∧x.1.1 = L.1∧A = A∧x.2 = x.2∧d = T∧H = H∧x.4 = x.4∧c = S)∧capA (AD.mk L x.2 Q x.4 R)∧∀(U V W : Option Addr) (X Y Z : Nat) (aa : Nat→Option Addr) (ab : Nat→Nat) (ac : Nat), (fun ad : Ch => (fun af : Value => (fun ag : List SC => (fun ah : Ch => (fun aj : Ch => (fun ak : Prop => ac = ac∧u = u∧w = w∧∃(al : Nat) (am : CD) (an : Nat→Option Addr) (ao ap : Nat→Nat) (aq ar : Nat→Int), (fun au : Bool => (k = (symRows false al am an ap)∧s = [fun av => Cs 3 (an av) (am.2 av) (ao av), fun av => Cb (am.4 av)]∧O = O∧x.1.1 = x.1.1∧x.1.1 = am.1∧A = A∧x.2 = x.2∧d = [fun av => Ci (aq av)]∧H = H∧x.4 = x.4∧c = [fun av => Ci (ar av)])∧lenA (AD.mk am x.2 aq x.4 ar)∧(au = true→u = u∧y = y∧((adOk gG gB gR gC dB dR dC) = true→z = z∧∃ av : Nat→Int, (ko = ko∧kn = kn∧b = [fun aw => Ci (av aw)])∧lenC kn∧((symB kn av (11 : Int)) = true→ac = ac∧u = u∧y = y∧z = z∧True∧∃ aw : Nat→Int, (ko = ko∧kn = kn∧b = [fun ax => Ci (aw ax)])∧capC kn∧∀(ax : Option Addr) (ay : Nat), True∧U = U∧L.1 = L.1∧(0 ≤ j∧j < ((L.1 : Nat) : Int))∧U = U∧m < L.1∧True∧ac = ac∧B = B∧B = B∧∃(az aA aB : Option Addr) (aC aD aE : Nat) (aF : Nat→Option Addr) (aG : Nat→Nat), af = (Wa [Ws az x.1.1 aC, Ws aA x.2 aD, Ws aB x.4 aE])∧SelS [t, q, p, o, n, J, I, G, F, aj, Hr true U 61 2 L.1 X [fun aH => Cv (if aH = m then (Ws ax kn ay) else (Ws (aa aH) (L.2 aH) (ab aH))), fun aH => Cb (if aH = m then kb else (L.4 aH))], Hr true V 3 1 x.2 Y T, Hr true W 3 1 x.4 Z S, ad, ah, Hr true ax 3 1 kn ay [fun aH => Ci (aw aH)]] [10, 11, 12, 1000003] [Hr true az 61 2 x.1.1 aC [fun aH => Cs 3 (aF aH) (x.1.2 aH) (aG aH), fun aH => Cb (x.1.4 aH)], Hr true aA 3 1 x.2 aD d, Hr true aB 3 1 x.4 aE c, Ho true (symRows true 3 x.1 aF aG)])∧((symB kn av (11 : Int)) = false→ak))∧((adOk gG gB gR gC dB dR dC) = false→ak))∧(au = false→ak)) (arrOk gG gB gR gC (AD.mk am x.2 aq x.4 ar))) (ac = ac∧B = B∧B = B∧∃(ak al am : Option Addr) (an ao ap : Nat) (aq : Nat→Option Addr) (ar : Nat→Nat), af = (Wa [Ws ak x.1.1 an, Ws al x.2 ao, Ws am x.4 ap])∧SelS [t, q, p, o, n, J, I, G, F, aj, Hr true U 61 2 L.1 X [fun au => Cs 13 (aa au) (L.2 au) (ab au), fun au => Cb (L.4 au)], Hr true V 3 1 x.2 Y T, Hr true W 3 1 x.4 Z S, ad, ah] [10, 11, 12, 13] [Hr true ak 61 2 x.1.1 an [fun au => Cs 3 (aq au) (x.1.2 au) (ar au), fun au => Cb (x.1.4 au)], Hr true al 3 1 x.2 ao d, Hr true am 3 1 x.4 ap c, Ho true (symRows true 3 x.1 aq ar)])) (Hc B 31 ag)) (Hc ac 31 ag)) [Cs 10 U L.1 X, Cs 11 V x.2 Y, Cs 12 W x.4 Z]) (Wa [Ws U L.1 X, Ws V x.2 Y, Ws W x.4 Z])) (Ho true (symRows true 3 L aa ab))) [fun T => Ci (Q T)]) [fun S => Ci (R S)]) (Hc u 25 l)) (Hc w 31 r)) (Hc y 41 h)) (Hc z 61 g)) (Hr false O 0 2 x.1.1 0 s)) [fun s => Cs 3 (so s) (x.1.2 s) (sc s), fun s => Cb (x.1.4 s)]) [Cs 0 O x.1.1 C, Cs 1 A x.2 D, Cs 2 H x.4 E]) (Hr false A 0 1 x.2 0 d)) (Hr false H 0 1 x.4 0 c)) (Ho false k)) (Hr false ko 0 1 kn 0 b)) (Int.toNat j)) [Ci gG, Ci gB, Ci gR, Ci gC]) (symRows false 0 x.1 so (fun k => 0))) (adIx gG gB gR gC dB dR dC)) [Ci dB, Ci dR, Ci dC]) [Cs 4 ko kn kc, Cb kb]) [fun d => Ci (x.3 d)]) [fun c => Ci (x.5 c)]) [fun b => Ci (kf b)]) := by kernel_rfl
theorem stN_any (x : AD) (O A H : Option Addr) (C D E : Nat) (so : Nat → Option Addr) (sc : Nat → Nat) (gG gB gR gC : Int) (dB dR dC : Int) (ko : Option Addr) (kn kc : Nat) (kf : Nat → Int) (kb : Bool) (w : World) (hA : SeenA w x O A H so sc) (hr : Row.sat w ⟨false, ko, 0, 1, kn, 0, [fun i => .int (kf i)]⟩) (hcap : capA x) (hkn : kn ≤ 2097152) (hst : stOk gG gB gR gC dB dR dC x kn kf = false) : Calls Try.prog 30 #[.agg #[.int .i64 gG, .int .i64 gB, .int .i64 gR, .int .i64 gC], arrV x O A H C D E, .agg #[.int .i64 dB, .int .i64 dR, .int .i64 dC], .agg #[.slice ko kn kc, .bool kb]] w fun e w' => ∃ (Oq Aq Hq : Option Addr) (Cq Dq Ee : Nat) (soq : Nat → Option Addr) (scq : Nat → Nat), e = .returned (arrV (x) Oq Aq Hq Cq Dq Ee) ∧ HS ⟨w, fun _ => False⟩ (arrO 0 (x) Oq Aq Hq Cq Dq Ee soq scq) w' := by
  refine fnB (tb := [(27, sCpA), (24, sArrOk), (42, sAdOk), (54, sSym), (57, sAdIx), (55, sCpC)]) ⟨sCpA_I, sArrOk_I, sAdOk_I, sSym_I, sAdIx_I, sCpC_I, trivial⟩ Try.func30 (@Eq.mpr _ _ (stN_T x O A H C D E so sc gG gB gR gC dB dR dC ko kn kc kf kb) ?_) (HS.seenAll (fun _ => False) _ (hA.all 0 (seenC_row rfl hr seenC_nil))) (fun v ch' w' ⟨Oq, Aq, Hq, Cq, Dq, Ee, soq, scq, hv, hc⟩ hs => ⟨Oq, Aq, Hq, Cq, Dq, Ee, soq, scq, by rw [hv], hc.hs hs⟩)
  clear hA hr
  have hl := lenA_of hcap
  have hk1 : capC kn := hkn
  cases hok : arrOk gG gB gR gC x
  · skip
    repeat' (first
      | with_reducible exact rfl
      | exact True.intro
      | with_reducible assumption
      | exact hl
      | exact hcap
      | (intro h; exfalso; rw [hok] at h; simp at h; done)
      | exact (by refine ⟨?_, rfl⟩; repeat' (first | exact True.intro | exact symRows_push | exact rfl | refine And.intro ?_ ?_ | (intro i hi; show _ = _; with_reducible rfl) | (intro i hi; show _ = _; rfl) | (intro i hi; show _ = _; simp only [SC.den]; split <;> rfl)))
      | refine And.intro ?_ ?_
      | apply Exists.intro
      | (intro h; exfalso; simp at h; done)
      | (intro h; replace h := of_decide_eq_true h; first | (exfalso; omega) | skip)
      | (intro h; replace h := of_decide_eq_false h; first | (exfalso; omega) | skip)
      | (intro i hi; with_reducible exact rfl)
      | intro _
      | omega
      | exact rfl)
  · cases had : adOk gG gB gR gC dB dR dC
    · skip
      repeat' (first
        | with_reducible exact rfl
        | exact True.intro
        | with_reducible assumption
        | exact hl
        | exact hcap
        | (intro h; exfalso; rw [hok] at h; simp at h; done)
        | (intro h; exfalso; rw [had] at h; simp at h; done)
        | exact (by refine ⟨?_, rfl⟩; repeat' (first | exact True.intro | exact symRows_push | exact rfl | refine And.intro ?_ ?_ | (intro i hi; show _ = _; with_reducible rfl) | (intro i hi; show _ = _; rfl) | (intro i hi; show _ = _; simp only [SC.den]; split <;> rfl)))
        | refine And.intro ?_ ?_
        | apply Exists.intro
        | (intro h; exfalso; simp at h; done)
        | (intro h; replace h := of_decide_eq_true h; first | (exfalso; omega) | skip)
        | (intro h; replace h := of_decide_eq_false h; first | (exfalso; omega) | skip)
        | (intro i hi; with_reducible exact rfl)
        | intro _
        | omega
        | exact rfl)
    · have hsy : symB kn kf 11 = false := by simpa [stOk, hok, had] using hst
      repeat' (first
        | with_reducible exact rfl
        | exact True.intro
        | with_reducible assumption
        | exact hl
        | exact hcap
        | (intro h; exfalso; rw [hok] at h; simp at h; done)
        | (intro h; exfalso; rw [had] at h; simp at h; done)
        | (intro h; exfalso; rw [hsy] at h; simp at h; done)
        | exact (by refine ⟨?_, rfl⟩; repeat' (first | exact True.intro | exact symRows_push | exact rfl | refine And.intro ?_ ?_ | (intro i hi; show _ = _; with_reducible rfl) | (intro i hi; show _ = _; rfl) | (intro i hi; show _ = _; simp only [SC.den]; split <;> rfl)))
        | refine And.intro ?_ ?_
        | apply Exists.intro
        | (intro h; exfalso; simp at h; done)
        | (intro h; replace h := of_decide_eq_true h; first | (exfalso; omega) | skip)
        | (intro h; replace h := of_decide_eq_false h; first | (exfalso; omega) | skip)
        | (intro i hi; with_reducible exact rfl)
        | intro _
        | omega
        | exact rfl)
theorem st_any (x : AD) (O A H : Option Addr) (C D E : Nat) (so : Nat → Option Addr) (sc : Nat → Nat) (gG gB gR gC : Int) (dB dR dC : Int) (ko : Option Addr) (kn kc : Nat) (kf : Nat → Int) (kb : Bool) (w : World) (hA : SeenA w x O A H so sc) (hr : Row.sat w ⟨false, ko, 0, 1, kn, 0, [fun i => .int (kf i)]⟩) (hcap : capA x) (hkn : kn ≤ 2097152) : Calls Try.prog 30 #[.agg #[.int .i64 gG, .int .i64 gB, .int .i64 gR, .int .i64 gC], arrV x O A H C D E, .agg #[.int .i64 dB, .int .i64 dR, .int .i64 dC], .agg #[.slice ko kn kc, .bool kb]] w fun e w' => ∃ (Oq Aq Hq : Option Addr) (Cq Dq Ee : Nat) (soq : Nat → Option Addr) (scq : Nat → Nat), e = .returned (arrV (stA gG gB gR gC dB dR dC x kn kf kb) Oq Aq Hq Cq Dq Ee) ∧ HS ⟨w, fun _ => False⟩ (arrO 0 (stA gG gB gR gC dB dR dC x kn kf kb) Oq Aq Hq Cq Dq Ee soq scq) w' := by
  cases hst : stOk gG gB gR gC dB dR dC x kn kf
  · have e : stA gG gB gR gC dB dR dC x kn kf kb = x := by simp [stA, hst]
    rw [e]
    exact stN_any x O A H C D E so sc gG gB gR gC dB dR dC ko kn kc kf kb w hA hr hcap hkn hst
  · have e : stA gG gB gR gC dB dR dC x kn kf kb = setA x (ixN gG gB gR gC dB dR dC) kn kf kb := by simp [stA, hst]
    rw [e]
    exact stY_any x O A H C D E so sc gG gB gR gC dB dR dC ko kn kc kf kb w hA hr hcap hkn hst
def sSt : Sm := fun args ch kk =>
  match args with
  | [.a (.agg [c0, c1, c2, c3]), .a c, .a (.agg [e0, e1, e2]), .a d] =>
    match ints [c0, c1, c2, c3, e0, e1, e2] with
    | some [gG, gB, gR, gC, dB, dR, dC] => rdA ch c fun x => rdC ch d fun kn kf kb => (capA x ∧ capC kn) ∧ ∀ (Oq Aq Hq : Option Addr) (Cq Dq Ee : Nat) (soq : Nat → Option Addr) (scq : Nat → Nat), kk (.a (arrS ch.length (stA gG gB gR gC dB dR dC x kn kf kb) Oq Aq Hq Cq Dq Ee)) (ch ++ arrO ch.length (stA gG gB gR gC dB dR dC x kn kf kb) Oq Aq Hq Cq Dq Ee soq scq) []
    | _ => False
  | _ => False
theorem sSt_ok : SmOK Try.prog 30 sSt := by
  refine smN Try.call30 fun args ch kk w X h0 hs => ?_
  unfold sSt at h0
  split at h0
  · rename_i c0 c1 c2 c3 c e0 e1 e2 d
    split at h0
    · rename_i gG gB gR gC dB dR dC hi
      obtain ⟨q0, hi⟩ := ints_cons hi
      obtain ⟨q1, hi⟩ := ints_cons hi
      obtain ⟨q2, hi⟩ := ints_cons hi
      obtain ⟨q3, hi⟩ := ints_cons hi
      obtain ⟨q4, hi⟩ := ints_cons hi
      obtain ⟨q5, hi⟩ := ints_cons hi
      obtain ⟨q6, hi⟩ := ints_cons hi
      obtain ⟨x, O, A, H, C, D, E, so, sc, e, hA, h1⟩ := rdA_ok h0 hs
      obtain ⟨ko, kn, kc, kf, kb, eD, hr, ⟨hc, hkn⟩, h2⟩ := rdC_ok h1 hs
      have e8 : SA.den (.agg [c0, c1, c2, c3]) = .agg #[.int .i64 gG, .int .i64 gB, .int .i64 gR, .int .i64 gC] := by simp only [SA.den, List.map_cons, List.map_nil, q0, q1, q2, q3]
      have e9 : SA.den (.agg [e0, e1, e2]) = .agg #[.int .i64 dB, .int .i64 dR, .int .i64 dC] := by simp only [SA.den, List.map_cons, List.map_nil, q4, q5, q6]
      simp only [List.map_cons, List.map_nil, den_a, e, eD, e8, e9]
      refine Calls.mono (st_any x O A H C D E so sc gG gB gR gC dB dR dC ko kn kc kf kb w hA hr hc hkn) fun e w' ⟨Oq, Aq, Hq, Cq, Dq, Ee, soq, scq, he, hs'⟩ => ⟨.a (arrS ch.length (stA gG gB gR gC dB dR dC x kn kf kb) Oq Aq Hq Cq Dq Ee), _, by rw [he]; rfl, arrO_at hs', rfl, h2 Oq Aq Hq Cq Dq Ee soq scq⟩
    · exact h0.elim
  · exact h0.elim
end Go.Proofs.Ytmgjmglmjfjliab

/-
  Words put.
-/
import Derived.Test.YtmgjmglmjfjliabSxM2
import Derived.Test.YtmgjmglmjfjliabSxCA
namespace Go.Proofs.Ytmgjmglmjfjliab
set_option linter.unusedVariables false
set_option linter.unusedSimpArgs false
open Go.RowKit
set_option maxRecDepth 100000
set_option maxHeartbeats 8000000

def putOk (gG gB gR gC : Int) (dB dR dC : Int) (x : AD) (y : Int) : Bool := arrOk gG gB gR gC x && adOk gG gB gR gC dB dR dC && btw y 0 4294967295
def putA (gG gB gR gC : Int) (dB dR dC : Int) (x : AD) (y : Int) : AD := if putOk gG gB gR gC dB dR dC x y = true then setA x (ixN gG gB gR gC dB dR dC) 11 (fun i => cw y i) false else x
theorem put_facts {gG gB gR gC dB dR dC y : Int} {x : AD} (h : putOk gG gB gR gC dB dR dC x y = true) : arrOk gG gB gR gC x = true ∧ adOk gG gB gR gC dB dR dC = true ∧ btw y 0 4294967295 = true := by
  simp only [putOk, Bool.and_eq_true] at h
  exact ⟨h.1.1, h.1.2, h.2⟩
theorem cw_sym {y : Int} (h : btw y 0 4294967295 = true) : symB 11 (fun i => cw y i) 11 = true := symB_mk (fun i hi => word_el (btw_f h) hi) rfl
theorem stA_put {gG gB gR gC dB dR dC y : Int} {x : AD} (h : putOk gG gB gR gC dB dR dC x y = true) : stA gG gB gR gC dB dR dC x 11 (fun i => cw y i) false = setA x (ixN gG gB gR gC dB dR dC) 11 (fun i => cw y i) false := by
  obtain ⟨h1, h2, h3⟩ := put_facts h
  have h4 := cw_sym h3
  simp [stA, stOk, h1, h2, h4]
theorem stA_no {gG gB gR gC dB dR dC y : Int} {x : AD} (h : putOk gG gB gR gC dB dR dC x y = false) (hb : btw y 0 4294967295 = true) : stA gG gB gR gC dB dR dC x 11 (fun i => cw y i) false = x := by
  have : (arrOk gG gB gR gC x && adOk gG gB gR gC dB dR dC) = false := by simpa [putOk, hb] using h
  simp [stA, stOk, this]
theorem putI_T (x : AD) (O A H : Option Addr) (C D E : Nat) (so : Nat → Option Addr) (sc : Nat → Nat) (gG gB gR gC : Int) (dB dR dC : Int) (y : Int) (z : AD) : (exFn Try.prog {tb := [(26, sIwI), (27, sCpA), (56, sEnl), (30, sSt)]} 400 Try.f28 ([.a (.agg [.int gG, .int gB, .int gR, .int gC]), .a (arrS 0 x O A H C D E), .a (.agg [.int dB, .int dR, .int dC]), .a (.c (.int y))]) (arrR 0 x O A H so sc) (fun v ch => ∃ (Oq Aq Hq : Option Addr) (Cq Dq Ee : Nat) (soq : Nat → Option Addr) (scq : Nat → Nat), v.den = arrV z Oq Aq Hq Cq Dq Ee ∧ SelS ch (idsArr v ch) (arrO 0 z Oq Aq Hq Cq Dq Ee soq scq))) = (
  (fun b : List (Nat→SC) => (fun d : List (Nat→SC) => (fun g : List Row => (fun h : Bool => (fun j : List SC => (fun k : Bool => (fun l : Ch => (fun m : Ch => (fun n : Ch => (fun o : List SC => (fun p : List (Nat→SC) => (fun q : Ch => ∀ r s t u : Nat, (fun w : Ch => (k = true→s = s∧∃(B : Nat) (F : CD) (G : Nat→Option Addr) (I J : Nat→Nat) (K L : Nat→Int), (g = (symRows false B F G J)∧p = [fun M => Cs 3 (G M) (F.2 M) (I M), fun M => Cb (F.4 M)]∧O = O∧x.1.1 = x.1.1∧x.1.1 = F.1∧A = A∧x.2 = x.2∧d = [fun M => Ci (K M)]∧H = H∧x.4 = x.4∧b = [fun M => Ci (L M)])∧capA (AD.mk F x.2 K x.4 L)∧∀(M N P : Option Addr) (Q R S : Nat) (T : Nat→Option Addr) (U : Nat→Nat), u = u∧u = u∧∃(V W X : Option Addr) (Y Z aa : Nat) (ab : Nat→Option Addr) (ac : Nat→Nat), (Wa [Ws M F.1 Q, Ws N x.2 R, Ws P x.4 S]) = (Wa [Ws V z.1.1 Y, Ws W z.2 Z, Ws X z.4 aa])∧SelS [q, n, m, l, Hc r 25 j, Hc s 31 o, w, Hc u 31 [Cs 8 M F.1 Q, Cs 9 N x.2 R, Cs 10 P x.4 S], Hr true M 61 2 F.1 Q [fun ad => Cs 11 (T ad) (F.2 ad) (U ad), fun ad => Cb (F.4 ad)], Hr true N 3 1 x.2 R [fun ad => Ci (K ad)], Hr true P 3 1 x.4 S [fun ad => Ci (L ad)], Ho true (symRows true 3 F T U)] [8, 9, 10, 11] [Hr true V 61 2 z.1.1 Y [fun ad => Cs 3 (ab ad) (z.1.2 ad) (ac ad), fun ad => Cb (z.1.4 ad)], Hr true W 3 1 z.2 Z [fun ad => Ci (z.3 ad)], Hr true X 3 1 z.4 aa [fun ad => Ci (z.5 ad)], Ho true (symRows true 3 z.1 ab ac)])∧(k = false→r = r∧s = s∧t = t∧h = true∧∀(B : Option Addr) (F : Nat), True∧∃(G : Nat) (I : CD) (J : Nat→Option Addr) (K L : Nat→Nat) (M N : Nat→Int), (fun P : AD => (g = (symRows false G I J L)∧p = [fun Q => Cs 3 (J Q) (I.2 Q) (K Q), fun Q => Cb (I.4 Q)]∧O = O∧x.1.1 = x.1.1∧x.1.1 = I.1∧A = A∧x.2 = x.2∧d = [fun Q => Ci (M Q)]∧H = H∧x.4 = x.4∧b = [fun Q => Ci (N Q)])∧∃ Q : Nat→Int, (fun R : AD => (B = B∧11 = 11∧[fun S => Ci (cw y S)] = [fun S => Ci (Q S)])∧(capA P∧capC 11)∧∀(S T U : Option Addr) (V W X : Nat) (Y : Nat→Option Addr) (Z : Nat→Nat), True∧u = u∧True∧u = u∧∃(aa ab ac : Option Addr) (ad af ag : Nat) (ah : Nat→Option Addr) (aj : Nat→Nat), (Wa [Ws S R.1.1 V, Ws T R.2 W, Ws U R.4 X]) = (Wa [Ws aa z.1.1 ad, Ws ab z.2 af, Ws ac z.4 ag])∧SelS [q, n, m, l, Hc r 25 j, Hc s 31 o, w, Hc u 31 [Cs 9 S R.1.1 V, Cs 10 T R.2 W, Cs 11 U R.4 X], Hr true B 3 1 11 F [fun ak => Ci (cw y ak)], Hr true S 61 2 R.1.1 V [fun ak => Cs 12 (Y ak) (R.1.2 ak) (Z ak), fun ak => Cb (R.1.4 ak)], Hr true T 3 1 R.2 W [fun ak => Ci (R.3 ak)], Hr true U 3 1 R.4 X [fun ak => Ci (R.5 ak)], Ho true (symRows true 3 R.1 Y Z)] [9, 10, 11, 12] [Hr true aa 61 2 z.1.1 ad [fun ak => Cs 3 (ah ak) (z.1.2 ak) (aj ak), fun ak => Cb (z.1.4 ak)], Hr true ab 3 1 z.2 af [fun ak => Ci (z.3 ak)], Hr true ac 3 1 z.4 ag [fun ak => Ci (z.5 ak)], Ho true (symRows true 3 z.1 ah aj)]) (stA gG gB gR gC dB dR dC P 11 Q false)) (AD.mk I x.2 M x.4 N))) (Hc t 41 [Ci dB, Ci dR, Ci dC])) (Hr false O 0 2 x.1.1 0 p)) [fun p => Cs 3 (so p) (x.1.2 p) (sc p), fun p => Cb (x.1.4 p)]) [Cs 0 O x.1.1 C, Cs 1 A x.2 D, Cs 2 H x.4 E]) (Hr false A 0 1 x.2 0 d)) (Hr false H 0 1 x.4 0 b)) (Ho false g)) (! h)) [Ci gG, Ci gB, Ci gR, Ci gC]) (btw y (0 : Int) (4294967295 : Int))) (symRows false 0 x.1 so (fun g => 0))) [fun d => Ci (x.3 d)]) [fun b => Ci (x.5 b)]) := by kernel_rfl
theorem putI_any (x : AD) (O A H : Option Addr) (C D E : Nat) (so : Nat → Option Addr) (sc : Nat → Nat) (gG gB gR gC : Int) (dB dR dC : Int) (y : Int) (z : AD) (w : World) (hA : SeenA w x O A H so sc) (hcap : capA x) (h1 : btw y 0 4294967295 = true → z = stA gG gB gR gC dB dR dC x 11 (fun i => cw y i) false) (h2 : btw y 0 4294967295 = false → z = x) : Calls Try.prog 28 #[.agg #[.int .i64 gG, .int .i64 gB, .int .i64 gR, .int .i64 gC], arrV x O A H C D E, .agg #[.int .i64 dB, .int .i64 dR, .int .i64 dC], .int .i64 y] w fun e w' => ∃ (Oq Aq Hq : Option Addr) (Cq Dq Ee : Nat) (soq : Nat → Option Addr) (scq : Nat → Nat), e = .returned (arrV z Oq Aq Hq Cq Dq Ee) ∧ HS ⟨w, fun _ => False⟩ (arrO 0 z Oq Aq Hq Cq Dq Ee soq scq) w' := by
  refine fnB (tb := [(26, sIwI), (27, sCpA), (56, sEnl), (30, sSt)]) ⟨sIwI_ok, sCpA_I, sEnl_I, sSt_ok, trivial⟩ Try.func28 (@Eq.mpr _ _ (putI_T x O A H C D E so sc gG gB gR gC dB dR dC y z) ?_) (HS.seenAll (fun _ => False) _ (hA.all 0 seenC_nil)) (fun v ch' w' ⟨Oq, Aq, Hq, Cq, Dq, Ee, soq, scq, hv, hc⟩ hs => ⟨Oq, Aq, Hq, Cq, Dq, Ee, soq, scq, by rw [hv], hc.hs hs⟩)
  dsimp -zeta -proj -iota -eta -failIfUnchanged (etaStruct := .none) only
  clear hA
  have hl := lenA_of hcap
  have hc11 : capC 11 := by show 11 ≤ 2097152; omega
  cases hb : btw y 0 4294967295
  · obtain rfl := h2 hb
    repeat' (first
      | with_reducible exact rfl
      | exact True.intro
      | with_reducible assumption
      | exact hl
      | exact hcap
      | (intro h; exfalso; rw [hb] at h; simp at h; done)
      | exact (by refine ⟨?_, rfl⟩; repeat' (first | exact True.intro | exact symRows_push | exact rfl | refine And.intro ?_ ?_ | (intro i hi; show _ = _; with_reducible rfl) | (intro i hi; show _ = _; rfl) | (intro i hi; show _ = _; simp only [SC.den]; split <;> rfl)))
      | refine And.intro ?_ ?_
      | apply Exists.intro
      | (intro h; exfalso; simp at h; done)
      | (intro h; replace h := of_decide_eq_true h; first | (exfalso; omega) | skip)
      | (intro h; replace h := of_decide_eq_false h; first | (exfalso; omega) | skip)
      | (intro i hi; with_reducible exact rfl)
      | intro _
      | omega
      | exact rfl)
  · obtain rfl := h1 hb
    repeat' (first
      | with_reducible exact rfl
      | exact True.intro
      | with_reducible assumption
      | exact hl
      | exact hcap
      | exact hc11
      | (intro h; exfalso; rw [hb] at h; simp at h; done)
      | (refine ⟨_, _, _, _, _, ⟨rfl, rfl, rfl, ?_⟩, ?_⟩)
      | exact (by refine ⟨?_, rfl⟩; repeat' (first | exact True.intro | exact symRows_push | exact rfl | refine And.intro ?_ ?_ | (intro i hi; show _ = _; with_reducible rfl) | (intro i hi; show _ = _; rfl) | (intro i hi; show _ = _; simp only [SC.den]; split <;> rfl)))
      | refine And.intro ?_ ?_
      | apply Exists.intro
      | (intro h; exfalso; simp at h; done)
      | (intro h; replace h := of_decide_eq_true h; first | (exfalso; omega) | skip)
      | (intro h; replace h := of_decide_eq_false h; first | (exfalso; omega) | skip)
      | (intro i hi; with_reducible exact rfl)
      | intro _
      | omega
      | exact rfl)
theorem putSY_T (x : AD) (O A H : Option Addr) (C D E : Nat) (so : Nat → Option Addr) (sc : Nat → Nat) (gG gB gR gC : Int) (dB dR dC : Int) (y : Int) : (exFn Try.prog {tb := [(18, sCpA), (19, sArrOk), (20, sAdOk), (21, sIwS), (23, sAdIx), (22, sEnl)]} 400 Try.f8 ([.a (.agg [.int gG, .int gB, .int gR, .int gC]), .a (arrS 0 x O A H C D E), .a (.agg [.int dB, .int dR, .int dC]), .a (.c (.int y))]) (arrR 0 x O A H so sc) (fun v ch => ∃ (Oq Aq Hq : Option Addr) (Cq Dq Ee : Nat) (soq : Nat → Option Addr) (scq : Nat → Nat) (ro : Option Addr) (rc : Nat), v.den = arrV x Oq Aq Hq Cq Dq Ee ∧ SelS ch (idsSt v ch) (storedCh x (ixN gG gB gR gC dB dR dC) 11 (fun i => cw y i) false Oq Aq Hq Cq Dq Ee soq scq ro rc))) = (
  (fun b : List (Nat→SC) => (fun d : List (Nat→SC) => (fun g : List (Nat→SC) => (fun h : Nat => (fun j : List SC => (fun k : Int => (fun l : List Row => (fun m : List SC => (fun n : Bool => (fun o : Nat => (fun p : Ch => (fun q : Ch => (fun r : Ch => (fun s : List SC => (fun t : List (Nat→SC) => (fun u : Ch => ∀ w z B F : Nat, (fun G : Ch => (fun I : Ch => (fun J : Ch => z = z∧∃(K : Nat) (L : CD) (M : Nat→Option Addr) (N P : Nat→Nat) (Q R : Nat→Int), (fun S : List (Nat→SC) => (fun T : List (Nat→SC) => (l = (symRows false K L M P)∧t = [fun U => Cs 3 (M U) (L.2 U) (N U), fun U => Cb (L.4 U)]∧O = O∧x.1.1 = x.1.1∧x.1.1 = L.1∧A = A∧x.2 = x.2∧d = T∧H = H∧x.4 = x.4∧b = S)∧capA (AD.mk L x.2 Q x.4 R)∧∀(U V W : Option Addr) (X Y Z : Nat) (aa : Nat→Option Addr) (ab : Nat→Nat) (ac : Nat), (fun ad : Ch => (fun af : Value => (fun ag : List SC => (fun ah : Ch => (fun aj : Ch => (fun ak : Prop => ac = ac∧w = w∧z = z∧∃(al : Nat) (am : CD) (an : Nat→Option Addr) (ao ap : Nat→Nat) (aq ar : Nat→Int), (fun au : Bool => (l = (symRows false al am an ap)∧t = [fun av => Cs 3 (an av) (am.2 av) (ao av), fun av => Cb (am.4 av)]∧O = O∧x.1.1 = x.1.1∧x.1.1 = am.1∧A = A∧x.2 = x.2∧d = [fun av => Ci (aq av)]∧H = H∧x.4 = x.4∧b = [fun av => Ci (ar av)])∧lenA (AD.mk am x.2 aq x.4 ar)∧(au = true→w = w∧B = B∧((adOk gG gB gR gC dB dR dC) = true→(n = true→ac = ac∧w = w∧B = B∧True∧n = true∧∀(av : Option Addr) (aw : Nat), True∧U = U∧L.1 = L.1∧(0 ≤ k∧k < ((L.1 : Nat) : Int))∧U = U∧o < L.1∧True∧ac = ac∧F = F∧F = F∧∃(ax ay az : Option Addr) (aA aB aC : Nat) (aD : Nat→Option Addr) (aE : Nat→Nat) (aF : Option Addr) (aG : Nat), af = (Wa [Ws ax x.1.1 aA, Ws ay x.2 aB, Ws az x.4 aC])∧SelS [u, r, q, p, J, I, G, aj, Hr true U 61 2 L.1 X [fun aH => Cv (if aH = o then (Ws av 11 aw) else (Ws (aa aH) (L.2 aH) (ab aH))), fun aH => Cb (if aH = o then false else (L.4 aH))], Hr true V 3 1 x.2 Y T, Hr true W 3 1 x.4 Z S, ad, ah, Hr true av 3 1 11 aw g] [8, 9, 10, 11, 13] [Hr true ax 61 2 x.1.1 aA [fun aH => Cv (if aH = h then (Ws aF 11 aG) else (Ws (aD aH) (x.1.2 aH) (aE aH))), fun aH => Cb (if aH = h then false else (x.1.4 aH))], Hr true ay 3 1 x.2 aB d, Hr true az 3 1 x.4 aC b, Ho true (symRows true 3 x.1 aD aE), Hr true aF 3 1 11 aG g])∧(n = false→ak))∧((adOk gG gB gR gC dB dR dC) = false→ak))∧(au = false→ak)) (arrOk gG gB gR gC (AD.mk am x.2 aq x.4 ar))) (ac = ac∧F = F∧F = F∧∃(ak al am : Option Addr) (an ao ap : Nat) (aq : Nat→Option Addr) (ar : Nat→Nat) (au : Option Addr) (av : Nat), af = (Wa [Ws ak x.1.1 an, Ws al x.2 ao, Ws am x.4 ap])∧SelS [u, r, q, p, J, I, G, aj, Hr true U 61 2 L.1 X [fun aw => Cs 11 (aa aw) (L.2 aw) (ab aw), fun aw => Cb (L.4 aw)], Hr true V 3 1 x.2 Y T, Hr true W 3 1 x.4 Z S, ad, ah] [8, 9, 10, 11, 12] [Hr true ak 61 2 x.1.1 an [fun aw => Cv (if aw = h then (Ws au 11 av) else (Ws (aq aw) (x.1.2 aw) (ar aw))), fun aw => Cb (if aw = h then false else (x.1.4 aw))], Hr true al 3 1 x.2 ao d, Hr true am 3 1 x.4 ap b, Ho true (symRows true 3 x.1 aq ar), Hr true au 3 1 11 av g])) (Hc F 31 ag)) (Hc ac 31 ag)) [Cs 8 U L.1 X, Cs 9 V x.2 Y, Cs 10 W x.4 Z]) (Wa [Ws U L.1 X, Ws V x.2 Y, Ws W x.4 Z])) (Ho true (symRows true 3 L aa ab))) [fun T => Ci (Q T)]) [fun S => Ci (R S)]) (Hc w 25 m)) (Hc z 31 s)) (Hc B 41 j)) (Hr false O 0 2 x.1.1 0 t)) [fun t => Cs 3 (so t) (x.1.2 t) (sc t), fun t => Cb (x.1.4 t)]) [Cs 0 O x.1.1 C, Cs 1 A x.2 D, Cs 2 H x.4 E]) (Hr false A 0 1 x.2 0 d)) (Hr false H 0 1 x.4 0 b)) (Ho false l)) (Int.toNat k)) (btw y (0 : Int) (4294967295 : Int))) [Ci gG, Ci gB, Ci gR, Ci gC]) (symRows false 0 x.1 so (fun l => 0))) (adIx gG gB gR gC dB dR dC)) [Ci dB, Ci dR, Ci dC]) (ixN gG gB gR gC dB dR dC)) [fun g => Ci (cw y g)]) [fun d => Ci (x.3 d)]) [fun b => Ci (x.5 b)]) := by kernel_rfl
theorem putSY_any (x : AD) (O A H : Option Addr) (C D E : Nat) (so : Nat → Option Addr) (sc : Nat → Nat) (gG gB gR gC : Int) (dB dR dC : Int) (y : Int) (w : World) (hA : SeenA w x O A H so sc) (hcap : capA x) (hst : putOk gG gB gR gC dB dR dC x y = true) : Calls Try.prog 8 #[.agg #[.int .i64 gG, .int .i64 gB, .int .i64 gR, .int .i64 gC], arrV x O A H C D E, .agg #[.int .i64 dB, .int .i64 dR, .int .i64 dC], .int .i64 y] w fun e w' => ∃ (Oq Aq Hq : Option Addr) (Cq Dq Ee : Nat) (soq : Nat → Option Addr) (scq : Nat → Nat), e = .returned (arrV (setA x (ixN gG gB gR gC dB dR dC) 11 (fun i => cw y i) false) Oq Aq Hq Cq Dq Ee) ∧ HS ⟨w, fun _ => False⟩ (arrO 0 (setA x (ixN gG gB gR gC dB dR dC) 11 (fun i => cw y i) false) Oq Aq Hq Cq Dq Ee soq scq) w' := by
  refine fnB (tb := [(18, sCpA), (19, sArrOk), (20, sAdOk), (21, sIwS), (23, sAdIx), (22, sEnl)]) ⟨sCpA_S, sArrOk_S, sAdOk_S, sIwS_ok, sAdIx_S, sEnl_S, trivial⟩ Try.func8 (@Eq.mpr _ _ (putSY_T x O A H C D E so sc gG gB gR gC dB dR dC y) ?_) (HS.seenAll (fun _ => False) _ (hA.all 0 seenC_nil)) (fun v ch' w' ⟨Oq, Aq, Hq, Cq, Dq, Ee, soq, scq, ro, rc, hv, hc⟩ hs => ⟨Oq, Aq, Hq, Cq, Dq, Ee, _, _, by rw [hv]; rfl, (hc.hs hs).stored⟩)
  dsimp -zeta -proj -iota -eta -failIfUnchanged (etaStruct := .none) only
  clear hA
  have hl := lenA_of hcap
  have hc11 : capC 11 := by show 11 ≤ 2097152; omega
  obtain ⟨hok, had, hb⟩ := put_facts hst
  have hin := arr_in hok had
  have hi1 := hin.1
  have hi2 := hin.2.1
  have hi3 : ltN (tn (adIx gG gB gR gC dB dR dC)) x.c.n := hin.2.2
  repeat' (first
    | with_reducible exact rfl
    | exact True.intro
    | with_reducible assumption
    | exact hl
    | exact hcap
    | exact hc11
    | (intro h; exfalso; rw [hb] at h; simp at h; done)
    | (intro h; exfalso; rw [hok] at h; simp at h; done)
    | (intro h; exfalso; rw [had] at h; simp at h; done)
    | (refine ⟨_, _, _, _, _, ⟨rfl, rfl, rfl, ?_⟩, ?_⟩)
    | exact (by refine ⟨?_, rfl⟩; repeat' (first | exact True.intro | exact symRows_push | exact rfl | refine And.intro ?_ ?_ | (intro i hi; show _ = _; with_reducible rfl) | (intro i hi; show _ = _; rfl) | (intro i hi; show _ = _; simp only [SC.den]; split <;> rfl)))
    | refine And.intro ?_ ?_
    | apply Exists.intro
    | (intro h; exfalso; simp at h; done)
    | (intro h; replace h := of_decide_eq_true h; first | (exfalso; omega) | skip)
    | (intro h; replace h := of_decide_eq_false h; first | (exfalso; omega) | skip)
    | (intro i hi; with_reducible exact rfl)
    | intro _
    | omega
    | exact rfl)
theorem putSN_T (x : AD) (O A H : Option Addr) (C D E : Nat) (so : Nat → Option Addr) (sc : Nat → Nat) (gG gB gR gC : Int) (dB dR dC : Int) (y : Int) : (exFn Try.prog {tb := [(18, sCpA), (19, sArrOk), (20, sAdOk), (21, sIwS), (23, sAdIx), (22, sEnl)]} 400 Try.f8 ([.a (.agg [.int gG, .int gB, .int gR, .int gC]), .a (arrS 0 x O A H C D E), .a (.agg [.int dB, .int dR, .int dC]), .a (.c (.int y))]) (arrR 0 x O A H so sc) (fun v ch => ∃ (Oq Aq Hq : Option Addr) (Cq Dq Ee : Nat) (soq : Nat → Option Addr) (scq : Nat → Nat), v.den = arrV x Oq Aq Hq Cq Dq Ee ∧ SelS ch (idsArr v ch) (arrO 0 x Oq Aq Hq Cq Dq Ee soq scq))) = (
  (fun b : List (Nat→SC) => (fun d : List (Nat→SC) => (fun g : List SC => (fun h : Int => (fun j : List Row => (fun k : List SC => (fun l : Bool => (fun m : Nat => (fun n : Ch => (fun o : Ch => (fun p : Ch => (fun q : List SC => (fun r : List (Nat→SC) => (fun s : Ch => ∀ t u w z : Nat, (fun B : Ch => (fun F : Ch => (fun G : Ch => u = u∧∃(I : Nat) (J : CD) (K : Nat→Option Addr) (L M : Nat→Nat) (N P : Nat→Int), (fun Q : List (Nat→SC) => (fun R : List (Nat→SC) => (j = (symRows false I J K M)∧r = [fun S => Cs 3 (K S) (J.2 S) (L S), fun S => Cb (J.4 S)]∧O = O∧x.1.1 = x.1.1∧x.1.1 = J.1∧A = A∧x.2 = x.2∧d = R∧H = H∧x.4 = x.4∧b = Q)∧capA (AD.mk J x.2 N x.4 P)∧∀(S T U : Option Addr) (V W X : Nat) (Y : Nat→Option Addr) (Z : Nat→Nat) (aa : Nat), (fun ab : Ch => (fun ac : Value => (fun ad : List SC => (fun af : Ch => (fun ag : Ch => (fun ah : Prop => aa = aa∧t = t∧u = u∧∃(aj : Nat) (ak : CD) (al : Nat→Option Addr) (am an : Nat→Nat) (ao ap : Nat→Int), (fun aq : Bool => (j = (symRows false aj ak al an)∧r = [fun ar => Cs 3 (al ar) (ak.2 ar) (am ar), fun ar => Cb (ak.4 ar)]∧O = O∧x.1.1 = x.1.1∧x.1.1 = ak.1∧A = A∧x.2 = x.2∧d = [fun ar => Ci (ao ar)]∧H = H∧x.4 = x.4∧b = [fun ar => Ci (ap ar)])∧lenA (AD.mk ak x.2 ao x.4 ap)∧(aq = true→t = t∧w = w∧((adOk gG gB gR gC dB dR dC) = true→(l = true→aa = aa∧t = t∧w = w∧True∧l = true∧∀(ar : Option Addr) (au : Nat), True∧S = S∧J.1 = J.1∧(0 ≤ h∧h < ((J.1 : Nat) : Int))∧S = S∧m < J.1∧True∧aa = aa∧z = z∧z = z∧∃(av aw ax : Option Addr) (ay az aA : Nat) (aB : Nat→Option Addr) (aC : Nat→Nat), ac = (Wa [Ws av x.1.1 ay, Ws aw x.2 az, Ws ax x.4 aA])∧SelS [s, p, o, n, G, F, B, ag, Hr true S 61 2 J.1 V [fun aD => Cv (if aD = m then (Ws ar 11 au) else (Ws (Y aD) (J.2 aD) (Z aD))), fun aD => Cb (if aD = m then false else (J.4 aD))], Hr true T 3 1 x.2 W R, Hr true U 3 1 x.4 X Q, ab, af, Hr true ar 3 1 11 au [fun aD => Ci (cw y aD)]] [8, 9, 10, 1000003] [Hr true av 61 2 x.1.1 ay [fun aD => Cs 3 (aB aD) (x.1.2 aD) (aC aD), fun aD => Cb (x.1.4 aD)], Hr true aw 3 1 x.2 az d, Hr true ax 3 1 x.4 aA b, Ho true (symRows true 3 x.1 aB aC)])∧(l = false→ah))∧((adOk gG gB gR gC dB dR dC) = false→ah))∧(aq = false→ah)) (arrOk gG gB gR gC (AD.mk ak x.2 ao x.4 ap))) (aa = aa∧z = z∧z = z∧∃(ah aj ak : Option Addr) (al am an : Nat) (ao : Nat→Option Addr) (ap : Nat→Nat), ac = (Wa [Ws ah x.1.1 al, Ws aj x.2 am, Ws ak x.4 an])∧SelS [s, p, o, n, G, F, B, ag, Hr true S 61 2 J.1 V [fun aq => Cs 11 (Y aq) (J.2 aq) (Z aq), fun aq => Cb (J.4 aq)], Hr true T 3 1 x.2 W R, Hr true U 3 1 x.4 X Q, ab, af] [8, 9, 10, 11] [Hr true ah 61 2 x.1.1 al [fun aq => Cs 3 (ao aq) (x.1.2 aq) (ap aq), fun aq => Cb (x.1.4 aq)], Hr true aj 3 1 x.2 am d, Hr true ak 3 1 x.4 an b, Ho true (symRows true 3 x.1 ao ap)])) (Hc z 31 ad)) (Hc aa 31 ad)) [Cs 8 S J.1 V, Cs 9 T x.2 W, Cs 10 U x.4 X]) (Wa [Ws S J.1 V, Ws T x.2 W, Ws U x.4 X])) (Ho true (symRows true 3 J Y Z))) [fun R => Ci (N R)]) [fun Q => Ci (P Q)]) (Hc t 25 k)) (Hc u 31 q)) (Hc w 41 g)) (Hr false O 0 2 x.1.1 0 r)) [fun r => Cs 3 (so r) (x.1.2 r) (sc r), fun r => Cb (x.1.4 r)]) [Cs 0 O x.1.1 C, Cs 1 A x.2 D, Cs 2 H x.4 E]) (Hr false A 0 1 x.2 0 d)) (Hr false H 0 1 x.4 0 b)) (Ho false j)) (Int.toNat h)) (btw y (0 : Int) (4294967295 : Int))) [Ci gG, Ci gB, Ci gR, Ci gC]) (symRows false 0 x.1 so (fun j => 0))) (adIx gG gB gR gC dB dR dC)) [Ci dB, Ci dR, Ci dC]) [fun d => Ci (x.3 d)]) [fun b => Ci (x.5 b)]) := by kernel_rfl
theorem putSN_any (x : AD) (O A H : Option Addr) (C D E : Nat) (so : Nat → Option Addr) (sc : Nat → Nat) (gG gB gR gC : Int) (dB dR dC : Int) (y : Int) (w : World) (hA : SeenA w x O A H so sc) (hcap : capA x) (hst : putOk gG gB gR gC dB dR dC x y = false) : Calls Try.prog 8 #[.agg #[.int .i64 gG, .int .i64 gB, .int .i64 gR, .int .i64 gC], arrV x O A H C D E, .agg #[.int .i64 dB, .int .i64 dR, .int .i64 dC], .int .i64 y] w fun e w' => ∃ (Oq Aq Hq : Option Addr) (Cq Dq Ee : Nat) (soq : Nat → Option Addr) (scq : Nat → Nat), e = .returned (arrV x Oq Aq Hq Cq Dq Ee) ∧ HS ⟨w, fun _ => False⟩ (arrO 0 x Oq Aq Hq Cq Dq Ee soq scq) w' := by
  refine fnB (tb := [(18, sCpA), (19, sArrOk), (20, sAdOk), (21, sIwS), (23, sAdIx), (22, sEnl)]) ⟨sCpA_S, sArrOk_S, sAdOk_S, sIwS_ok, sAdIx_S, sEnl_S, trivial⟩ Try.func8 (@Eq.mpr _ _ (putSN_T x O A H C D E so sc gG gB gR gC dB dR dC y) ?_) (HS.seenAll (fun _ => False) _ (hA.all 0 seenC_nil)) (fun v ch' w' ⟨Oq, Aq, Hq, Cq, Dq, Ee, soq, scq, hv, hc⟩ hs => ⟨Oq, Aq, Hq, Cq, Dq, Ee, soq, scq, by rw [hv], hc.hs hs⟩)
  dsimp -zeta -proj -iota -eta -failIfUnchanged (etaStruct := .none) only
  clear hA
  have hl := lenA_of hcap
  have hc11 : capC 11 := by show 11 ≤ 2097152; omega
  cases hok : arrOk gG gB gR gC x
  · skip
    repeat' (first
      | with_reducible exact rfl
      | exact True.intro
      | with_reducible assumption
      | exact hl
      | exact hcap
      | (intro h; exfalso; rw [hok] at h; simp at h; done)
      | exact (by refine ⟨?_, rfl⟩; repeat' (first | exact True.intro | exact symRows_push | exact rfl | refine And.intro ?_ ?_ | (intro i hi; show _ = _; with_reducible rfl) | (intro i hi; show _ = _; rfl) | (intro i hi; show _ = _; simp only [SC.den]; split <;> rfl)))
      | refine And.intro ?_ ?_
      | apply Exists.intro
      | (intro h; exfalso; simp at h; done)
      | (intro h; replace h := of_decide_eq_true h; first | (exfalso; omega) | skip)
      | (intro h; replace h := of_decide_eq_false h; first | (exfalso; omega) | skip)
      | (intro i hi; with_reducible exact rfl)
      | intro _
      | omega
      | exact rfl)
  · cases had : adOk gG gB gR gC dB dR dC
    · skip
      repeat' (first
        | with_reducible exact rfl
        | exact True.intro
        | with_reducible assumption
        | exact hl
        | exact hcap
        | (intro h; exfalso; rw [hok] at h; simp at h; done)
        | (intro h; exfalso; rw [had] at h; simp at h; done)
        | exact (by refine ⟨?_, rfl⟩; repeat' (first | exact True.intro | exact symRows_push | exact rfl | refine And.intro ?_ ?_ | (intro i hi; show _ = _; with_reducible rfl) | (intro i hi; show _ = _; rfl) | (intro i hi; show _ = _; simp only [SC.den]; split <;> rfl)))
        | refine And.intro ?_ ?_
        | apply Exists.intro
        | (intro h; exfalso; simp at h; done)
        | (intro h; replace h := of_decide_eq_true h; first | (exfalso; omega) | skip)
        | (intro h; replace h := of_decide_eq_false h; first | (exfalso; omega) | skip)
        | (intro i hi; with_reducible exact rfl)
        | intro _
        | omega
        | exact rfl)
    · have hb : btw y 0 4294967295 = false := by simpa [putOk, hok, had] using hst
      repeat' (first
        | with_reducible exact rfl
        | exact True.intro
        | with_reducible assumption
        | exact hl
        | exact hcap
        | (intro h; exfalso; rw [hok] at h; simp at h; done)
        | (intro h; exfalso; rw [had] at h; simp at h; done)
        | (intro h; exfalso; rw [hb] at h; simp at h; done)
        | exact (by refine ⟨?_, rfl⟩; repeat' (first | exact True.intro | exact symRows_push | exact rfl | refine And.intro ?_ ?_ | (intro i hi; show _ = _; with_reducible rfl) | (intro i hi; show _ = _; rfl) | (intro i hi; show _ = _; simp only [SC.den]; split <;> rfl)))
        | refine And.intro ?_ ?_
        | apply Exists.intro
        | (intro h; exfalso; simp at h; done)
        | (intro h; replace h := of_decide_eq_true h; first | (exfalso; omega) | skip)
        | (intro h; replace h := of_decide_eq_false h; first | (exfalso; omega) | skip)
        | (intro i hi; with_reducible exact rfl)
        | intro _
        | omega
        | exact rfl)
theorem putI_all (x : AD) (O A H : Option Addr) (C D E : Nat) (so : Nat → Option Addr) (sc : Nat → Nat) (gG gB gR gC : Int) (dB dR dC : Int) (y : Int) (w : World) (hA : SeenA w x O A H so sc) (hcap : capA x) : Calls Try.prog 28 #[.agg #[.int .i64 gG, .int .i64 gB, .int .i64 gR, .int .i64 gC], arrV x O A H C D E, .agg #[.int .i64 dB, .int .i64 dR, .int .i64 dC], .int .i64 y] w fun e w' => ∃ (Oq Aq Hq : Option Addr) (Cq Dq Ee : Nat) (soq : Nat → Option Addr) (scq : Nat → Nat), e = .returned (arrV (putA gG gB gR gC dB dR dC x y) Oq Aq Hq Cq Dq Ee) ∧ HS ⟨w, fun _ => False⟩ (arrO 0 (putA gG gB gR gC dB dR dC x y) Oq Aq Hq Cq Dq Ee soq scq) w' := by
  refine putI_any x O A H C D E so sc gG gB gR gC dB dR dC y (putA gG gB gR gC dB dR dC x y) w hA hcap (fun hb => ?_) fun hb => ?_
  · cases h : putOk gG gB gR gC dB dR dC x y
    · rw [stA_no h hb]; simp [putA, h]
    · rw [stA_put h]; simp [putA, h]
  · have h : putOk gG gB gR gC dB dR dC x y = false := by simp [putOk, hb]
    simp [putA, h]
theorem putS_all (x : AD) (O A H : Option Addr) (C D E : Nat) (so : Nat → Option Addr) (sc : Nat → Nat) (gG gB gR gC : Int) (dB dR dC : Int) (y : Int) (w : World) (hA : SeenA w x O A H so sc) (hcap : capA x) : Calls Try.prog 8 #[.agg #[.int .i64 gG, .int .i64 gB, .int .i64 gR, .int .i64 gC], arrV x O A H C D E, .agg #[.int .i64 dB, .int .i64 dR, .int .i64 dC], .int .i64 y] w fun e w' => ∃ (Oq Aq Hq : Option Addr) (Cq Dq Ee : Nat) (soq : Nat → Option Addr) (scq : Nat → Nat), e = .returned (arrV (putA gG gB gR gC dB dR dC x y) Oq Aq Hq Cq Dq Ee) ∧ HS ⟨w, fun _ => False⟩ (arrO 0 (putA gG gB gR gC dB dR dC x y) Oq Aq Hq Cq Dq Ee soq scq) w' := by
  cases h : putOk gG gB gR gC dB dR dC x y
  · have e : putA gG gB gR gC dB dR dC x y = x := by simp [putA, h]
    rw [e]
    exact putSN_any x O A H C D E so sc gG gB gR gC dB dR dC y w hA hcap h
  · have e : putA gG gB gR gC dB dR dC x y = setA x (ixN gG gB gR gC dB dR dC) 11 (fun i => cw y i) false := by simp [putA, h]
    rw [e]
    exact putSY_any x O A H C D E so sc gG gB gR gC dB dR dC y w hA hcap h
def sPut : Sm := fun args ch kk =>
  match args with
  | [.a (.agg [c0, c1, c2, c3]), .a c, .a (.agg [e0, e1, e2]), .a (.c f0)] =>
    match ints [c0, c1, c2, c3, e0, e1, e2, f0] with
    | some [gG, gB, gR, gC, dB, dR, dC, y] => rdA ch c fun x => capA x ∧ ∀ (Oq Aq Hq : Option Addr) (Cq Dq Ee : Nat) (soq : Nat → Option Addr) (scq : Nat → Nat), kk (.a (arrS ch.length (putA gG gB gR gC dB dR dC x y) Oq Aq Hq Cq Dq Ee)) (ch ++ arrO ch.length ((putA gG gB gR gC dB dR dC x y)) Oq Aq Hq Cq Dq Ee soq scq) []
    | _ => False
  | _ => False
theorem sPut_I : SmOK Try.prog 28 sPut := by
  refine smN Try.call28 fun args ch kk w X h0 hs => ?_
  unfold sPut at h0
  split at h0
  · rename_i c0 c1 c2 c3 c e0 e1 e2 f0
    split at h0
    · rename_i gG gB gR gC dB dR dC y hi
      obtain ⟨q0, hi⟩ := ints_cons hi
      obtain ⟨q1, hi⟩ := ints_cons hi
      obtain ⟨q2, hi⟩ := ints_cons hi
      obtain ⟨q3, hi⟩ := ints_cons hi
      obtain ⟨q4, hi⟩ := ints_cons hi
      obtain ⟨q5, hi⟩ := ints_cons hi
      obtain ⟨q6, hi⟩ := ints_cons hi
      obtain ⟨q7, hi⟩ := ints_cons hi
      obtain ⟨x, O, A, H, C, D, E, so, sc, e, hA, hcond, h1⟩ := rdA_ok h0 hs
      have e20 : SA.den (.agg [c0, c1, c2, c3]) = .agg #[.int .i64 gG, .int .i64 gB, .int .i64 gR, .int .i64 gC] := by simp only [SA.den, den_c, List.map_cons, List.map_nil, q0, q1, q2, q3]
      have e21 : SA.den (.agg [e0, e1, e2]) = .agg #[.int .i64 dB, .int .i64 dR, .int .i64 dC] := by simp only [SA.den, den_c, List.map_cons, List.map_nil, q4, q5, q6]
      have e22 : SA.den (.c f0) = .int .i64 y := by simp only [SA.den, den_c, List.map_cons, List.map_nil, q7]
      simp only [List.map_cons, List.map_nil, den_a, e, e20, e21, e22]
      refine Calls.mono (putI_all x O A H C D E so sc gG gB gR gC dB dR dC y w hA hcond) fun e w' ⟨Oq, Aq, Hq, Cq, Dq, Ee, soq, scq, he, hs'⟩ => ⟨.a (arrS ch.length (putA gG gB gR gC dB dR dC x y) Oq Aq Hq Cq Dq Ee), _, by rw [he]; rfl, arrO_at hs', rfl, h1 Oq Aq Hq Cq Dq Ee soq scq⟩
    · exact h0.elim
  · exact h0.elim
theorem sPut_S : SmOK Try.prog 8 sPut := by
  refine smN Try.call8 fun args ch kk w X h0 hs => ?_
  unfold sPut at h0
  split at h0
  · rename_i c0 c1 c2 c3 c e0 e1 e2 f0
    split at h0
    · rename_i gG gB gR gC dB dR dC y hi
      obtain ⟨q0, hi⟩ := ints_cons hi
      obtain ⟨q1, hi⟩ := ints_cons hi
      obtain ⟨q2, hi⟩ := ints_cons hi
      obtain ⟨q3, hi⟩ := ints_cons hi
      obtain ⟨q4, hi⟩ := ints_cons hi
      obtain ⟨q5, hi⟩ := ints_cons hi
      obtain ⟨q6, hi⟩ := ints_cons hi
      obtain ⟨q7, hi⟩ := ints_cons hi
      obtain ⟨x, O, A, H, C, D, E, so, sc, e, hA, hcond, h1⟩ := rdA_ok h0 hs
      have e20 : SA.den (.agg [c0, c1, c2, c3]) = .agg #[.int .i64 gG, .int .i64 gB, .int .i64 gR, .int .i64 gC] := by simp only [SA.den, den_c, List.map_cons, List.map_nil, q0, q1, q2, q3]
      have e21 : SA.den (.agg [e0, e1, e2]) = .agg #[.int .i64 dB, .int .i64 dR, .int .i64 dC] := by simp only [SA.den, den_c, List.map_cons, List.map_nil, q4, q5, q6]
      have e22 : SA.den (.c f0) = .int .i64 y := by simp only [SA.den, den_c, List.map_cons, List.map_nil, q7]
      simp only [List.map_cons, List.map_nil, den_a, e, e20, e21, e22]
      refine Calls.mono (putS_all x O A H C D E so sc gG gB gR gC dB dR dC y w hA hcond) fun e w' ⟨Oq, Aq, Hq, Cq, Dq, Ee, soq, scq, he, hs'⟩ => ⟨.a (arrS ch.length (putA gG gB gR gC dB dR dC x y) Oq Aq Hq Cq Dq Ee), _, by rw [he]; rfl, arrO_at hs', rfl, h1 Oq Aq Hq Cq Dq Ee soq scq⟩
    · exact h0.elim
  · exact h0.elim
end Go.Proofs.Ytmgjmglmjfjliab

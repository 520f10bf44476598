/-
  Words put while a row moves.
-/
import Derived.Test.YtmgjmglmjfjliabSxM4
namespace Go.Proofs.Ytmgjmglmjfjliab
set_option linter.unusedVariables false
set_option linter.unusedSimpArgs false
open Go.RowKit
set_option maxRecDepth 100000
set_option maxHeartbeats 8000000

def mpOk (gG gB gR gC : Int) (mB mF mT mN : Int) (x : AD) (q y : Int) : Bool := arrOk gG gB gR gC x && mvOk gG gB gR gC mB mF mT mN && btw q 0 (gC - 1) && btw y 0 4294967295
def mpA (gG gB gR gC : Int) (mB mF mT mN : Int) (x : AD) (q y : Int) : AD := if mpOk gG gB gR gC mB mF mT mN x q y = true then (if ilt q mN = true then putA gG gB gR gC mB mT q (putA gG gB gR gC mB mF q x y) y else putA gG gB gR gC mB mF q x y) else x
theorem capA_set {x : AD} {k m : Nat} {f : Nat → Int} {b : Bool} (h : capA x) (hm : m ≤ 2097152) : capA (setA x k m f b) :=
  ⟨h.1, h.2.1, h.2.2.1, fun i hi => by
    show (if i = k then m else x.c.sn i) ≤ 2097152
    split
    · exact hm
    · exact h.2.2.2 i hi⟩
theorem capA_put {gG gB gR gC dB dR dC y : Int} {x : AD} (h : capA x) : capA (putA gG gB gR gC dB dR dC x y) := by
  unfold putA
  split
  · exact capA_set h (by omega)
  · exact h
theorem mptI_T (x : AD) (O A H : Option Addr) (C D E : Nat) (so : Nat → Option Addr) (sc : Nat → Nat) (gG gB gR gC : Int) (mB mF mT mN : Int) (q y : Int) (z : AD) (b : Bool) : (exFn Try.prog {tb := [(24, sArrOk), (13, sMvOk), (25, sBtw), (26, sIwI), (27, sCpA), (28, sPut)]} 400 Try.f9 ([.a (.agg [.int gG, .int gB, .int gR, .int gC]), .a (arrS 0 x O A H C D E), .a (.agg [.int mB, .int mF, .int mT, .int mN]), .a (.c (.int q)), .a (.c (.int y))]) (arrR 0 x O A H so sc) (fun v ch => ∃ (Oq Aq Hq : Option Addr) (Cq Dq Ee : Nat) (soq : Nat → Option Addr) (scq : Nat → Nat), v.den = .tuple #[arrV z Oq Aq Hq Cq Dq Ee, .bool b] ∧ SelS ch (idsArr v ch) (arrO 0 z Oq Aq Hq Cq Dq Ee soq scq))) = (
  (fun d : List (Nat→SC) => (fun g : List (Nat→SC) => (fun h : List (Nat→SC) => (fun j : List (Nat→SC) => (fun k : Bool => (fun l : List Row => (fun m : List SC => (fun n : List SC => (fun o : Bool => (fun p : Bool => (fun r : Ch => (fun s : Ch => (fun t : Ch => (fun u : List SC => (fun w : List (Nat→SC) => (fun B : Ch => ∀ F G I J : Nat, (fun K : Prop => F = F∧G = G∧∃(L : Nat) (M : CD) (N : Nat→Option Addr) (P Q : Nat→Nat) (R S : Nat→Int), (fun T : Bool => (l = (symRows false L M N Q)∧w = [fun U => Cs 3 (N U) (M.2 U) (P U), fun U => Cb (M.4 U)]∧O = O∧x.1.1 = x.1.1∧x.1.1 = M.1∧A = A∧x.2 = x.2∧j = [fun U => Ci (R U)]∧H = H∧x.4 = x.4∧h = [fun U => Ci (S U)])∧lenA (AD.mk M x.2 R x.4 S)∧(T = false→F = F∧I = I∧(k = false→F = F∧rng (gC - (1 : Int))∧(o = false→(p = true→K)∧(p = false→F = F∧G = G∧I = I∧I = I∧∃(U : Nat) (V : CD) (W : Nat→Option Addr) (X Y : Nat→Nat) (Z aa : Nat→Int), (fun ab : AD => (fun ac : List (Nat→SC) => (fun ad : List (Nat→SC) => (l = (symRows false U V W Y)∧w = [fun af => Cs 3 (W af) (V.2 af) (X af), fun af => Cb (V.4 af)]∧O = O∧x.1.1 = x.1.1∧x.1.1 = V.1∧A = A∧x.2 = x.2∧j = [fun af => Ci (Z af)]∧H = H∧x.4 = x.4∧h = [fun af => Ci (aa af)])∧capA (AD.mk V x.2 Z x.4 aa)∧∀(af ag ah : Option Addr) (aj ak al : Nat) (am : Nat→Option Addr) (an : Nat→Nat) (ao : Nat), (fun ap : Ch => (fun aq : Ch => (fun ar : Ch => (fun au : List SC => (fun av : List (Nat→SC) => (fun aw : Ch => ao = ao∧I = I∧((decide (q < mN)) = true→F = F∧ao = ao∧I = I∧I = I∧∃(ax : Nat) (ay : CD) (az : Nat→Option Addr) (aA aB : Nat→Nat) (aC aD : Nat→Int), (fun aE : AD => (fun aF : AD => ((symRows true 3 ab.1 am an) = (symRows true ax ay az aB)∧av = [fun aG => Cs 11 (az aG) (ay.2 aG) (aA aG), fun aG => Cb (ay.4 aG)]∧af = af∧ab.1.1 = ab.1.1∧ab.1.1 = ay.1∧ag = ag∧ab.2 = ab.2∧ad = [fun aG => Ci (aC aG)]∧ah = ah∧ab.4 = ab.4∧ac = [fun aG => Ci (aD aG)])∧capA aE∧∀(aG aH aI : Option Addr) (aJ aK aL : Nat) (aM : Nat→Option Addr) (aN : Nat→Nat), (fun aO : List SC => ao = ao∧ao = ao∧J = J∧J = J∧∃(aP aQ aR : Option Addr) (aS aT aU : Nat) (aV : Nat→Option Addr) (aW : Nat→Nat), (Wu [Wa [Ws aG aF.1.1 aJ, Ws aH aF.2 aK, Ws aI aF.4 aL], Wb true]) = (Wu [Wa [Ws aP z.1.1 aS, Ws aQ z.2 aT, Ws aR z.4 aU], Wb b])∧SelS [B, t, s, r, Hc F 25 n, Hc G 31 u, Hc I 36 m, Hc J 31 aO, aw, aq, ap, ar, Hc ao 31 aO, Hr true aG 61 2 aF.1.1 aJ [fun aX => Cs 16 (aM aX) (aF.1.2 aX) (aN aX), fun aX => Cb (aF.1.4 aX)], Hr true aH 3 1 aF.2 aK [fun aX => Ci (aF.3 aX)], Hr true aI 3 1 aF.4 aL [fun aX => Ci (aF.5 aX)], Ho true (symRows true 3 aF.1 aM aN)] [13, 14, 15, 16] [Hr true aP 61 2 z.1.1 aS [fun aX => Cs 3 (aV aX) (z.1.2 aX) (aW aX), fun aX => Cb (z.1.4 aX)], Hr true aQ 3 1 z.2 aT g, Hr true aR 3 1 z.4 aU d, Ho true (symRows true 3 z.1 aV aW)]) [Cs 13 aG aF.1.1 aJ, Cs 14 aH aF.2 aK, Cs 15 aI aF.4 aL]) (putA gG gB gR gC mB mT q aE y)) (AD.mk ay ab.2 aC ab.4 aD))∧((decide (q < mN)) = false→ao = ao∧J = J∧J = J∧∃(ax ay az : Option Addr) (aA aB aC : Nat) (aD : Nat→Option Addr) (aE : Nat→Nat), (Wu [Wa [Ws af ab.1.1 aj, Ws ag ab.2 ak, Ws ah ab.4 al], Wb true]) = (Wu [Wa [Ws ax z.1.1 aA, Ws ay z.2 aB, Ws az z.4 aC], Wb b])∧SelS [B, t, s, r, Hc F 25 n, Hc G 31 u, Hc I 36 m, Hc J 31 au, aw, aq, ap, ar, Hc ao 31 au] [8, 9, 10, 11] [Hr true ax 61 2 z.1.1 aA [fun aF => Cs 3 (aD aF) (z.1.2 aF) (aE aF), fun aF => Cb (z.1.4 aF)], Hr true ay 3 1 z.2 aB g, Hr true az 3 1 z.4 aC d, Ho true (symRows true 3 z.1 aD aE)])) (Hr true af 61 2 ab.1.1 aj av)) [fun av => Cs 11 (am av) (ab.1.2 av) (an av), fun av => Cb (ab.1.4 av)]) [Cs 8 af ab.1.1 aj, Cs 9 ag ab.2 ak, Cs 10 ah ab.4 al]) (Ho true (symRows true 3 ab.1 am an))) (Hr true ag 3 1 ab.2 ak ad)) (Hr true ah 3 1 ab.4 al ac)) [fun ad => Ci (ab.3 ad)]) [fun ac => Ci (ab.5 ac)]) (putA gG gB gR gC mB mF q (AD.mk V x.2 Z x.4 aa) y)))∧(o = true→K))∧(k = true→K))∧(T = true→K)) (! (arrOk gG gB gR gC (AD.mk M x.2 R x.4 S)))) (G = G∧∃(K : Nat) (L : CD) (M : Nat→Option Addr) (N P : Nat→Nat) (Q R : Nat→Int), (l = (symRows false K L M P)∧w = [fun S => Cs 3 (M S) (L.2 S) (N S), fun S => Cb (L.4 S)]∧O = O∧x.1.1 = x.1.1∧x.1.1 = L.1∧A = A∧x.2 = x.2∧j = [fun S => Ci (Q S)]∧H = H∧x.4 = x.4∧h = [fun S => Ci (R S)])∧capA (AD.mk L x.2 Q x.4 R)∧∀(S T U : Option Addr) (V W X : Nat) (Y : Nat→Option Addr) (Z : Nat→Nat), J = J∧J = J∧∃(aa ab ac : Option Addr) (ad af ag : Nat) (ah : Nat→Option Addr) (aj : Nat→Nat), (Wu [Wa [Ws S L.1 V, Ws T x.2 W, Ws U x.4 X], Wb false]) = (Wu [Wa [Ws aa z.1.1 ad, Ws ab z.2 af, Ws ac z.4 ag], Wb b])∧SelS [B, t, s, r, Hc F 25 n, Hc G 31 u, Hc I 36 m, Hc J 31 [Cs 8 S L.1 V, Cs 9 T x.2 W, Cs 10 U x.4 X], Hr true S 61 2 L.1 V [fun ak => Cs 11 (Y ak) (L.2 ak) (Z ak), fun ak => Cb (L.4 ak)], Hr true T 3 1 x.2 W [fun ak => Ci (Q ak)], Hr true U 3 1 x.4 X [fun ak => Ci (R ak)], Ho true (symRows true 3 L Y Z)] [8, 9, 10, 11] [Hr true aa 61 2 z.1.1 ad [fun ak => Cs 3 (ah ak) (z.1.2 ak) (aj ak), fun ak => Cb (z.1.4 ak)], Hr true ab 3 1 z.2 af g, Hr true ac 3 1 z.4 ag d, Ho true (symRows true 3 z.1 ah aj)])) (Hr false O 0 2 x.1.1 0 w)) [fun w => Cs 3 (so w) (x.1.2 w) (sc w), fun w => Cb (x.1.4 w)]) [Cs 0 O x.1.1 C, Cs 1 A x.2 D, Cs 2 H x.4 E]) (Hr false A 0 1 x.2 0 j)) (Hr false H 0 1 x.4 0 h)) (Ho false l)) (! (btw y (0 : Int) (4294967295 : Int)))) (! (btw q (0 : Int) (gC - (1 : Int))))) [Ci gG, Ci gB, Ci gR, Ci gC]) [Ci mB, Ci mF, Ci mT, Ci mN]) (symRows false 0 x.1 so (fun l => 0))) (! (mvOk gG gB gR gC mB mF mT mN))) [fun j => Ci (x.3 j)]) [fun h => Ci (x.5 h)]) [fun g => Ci (z.3 g)]) [fun d => Ci (z.5 d)]) := by kernel_rfl
theorem mptI_all (x : AD) (O A H : Option Addr) (C D E : Nat) (so : Nat → Option Addr) (sc : Nat → Nat) (gG gB gR gC : Int) (mB mF mT mN : Int) (q y : Int) (w : World) (hA : SeenA w x O A H so sc) (hcap : capA x) : Calls Try.prog 9 #[.agg #[.int .i64 gG, .int .i64 gB, .int .i64 gR, .int .i64 gC], arrV x O A H C D E, .agg #[.int .i64 mB, .int .i64 mF, .int .i64 mT, .int .i64 mN], .int .i64 q, .int .i64 y] w fun e w' => ∃ (Oq Aq Hq : Option Addr) (Cq Dq Ee : Nat) (soq : Nat → Option Addr) (scq : Nat → Nat), e = .returned (.tuple #[arrV (mpA gG gB gR gC mB mF mT mN x q y) Oq Aq Hq Cq Dq Ee, .bool (mpOk gG gB gR gC mB mF mT mN x q y)]) ∧ HS ⟨w, fun _ => False⟩ (arrO 0 (mpA gG gB gR gC mB mF mT mN x q y) Oq Aq Hq Cq Dq Ee soq scq) w' := by
  generalize hz : mpA gG gB gR gC mB mF mT mN x q y = z
  generalize hb : mpOk gG gB gR gC mB mF mT mN x q y = b
  refine fnB (tb := [(24, sArrOk), (13, sMvOk), (25, sBtw), (26, sIwI), (27, sCpA), (28, sPut)]) ⟨sArrOk_I, sMvOk_I, sBtwI_ok, sIwI_ok, sCpA_I, sPut_I, trivial⟩ Try.func9 (@Eq.mpr _ _ (mptI_T x O A H C D E so sc gG gB gR gC mB mF mT mN q y z b) ?_) (HS.seenAll (fun _ => False) _ (hA.all 0 seenC_nil)) (fun v ch' w' ⟨Oq, Aq, Hq, Cq, Dq, Ee, soq, scq, hv, hc⟩ hs => ⟨Oq, Aq, Hq, Cq, Dq, Ee, soq, scq, by rw [hv], hc.hs hs⟩)
  dsimp -zeta -proj -iota -eta -failIfUnchanged (etaStruct := .none) only
  clear hA
  have hl := lenA_of hcap
  cases hok : arrOk gG gB gR gC x
  · have e : mpOk gG gB gR gC mB mF mT mN x q y = false := by simp [mpOk, hok]
    have e2 : mpA gG gB gR gC mB mF mT mN x q y = x := by simp [mpA, e]
    rw [e] at hb
    rw [e2] at hz
    subst hb
    subst hz
    repeat' (first
      | with_reducible exact rfl
      | exact True.intro
      | with_reducible assumption
      | exact hl
      | exact hcap
      | (intro h; exfalso; rw [hok] at h; simp at h; done)
      | exact (by refine ⟨?_, rfl⟩; repeat' (first | exact True.intro | exact symRows_push | exact rfl | refine And.intro ?_ ?_ | (intro i hi; show _ = _; with_reducible rfl) | (intro i hi; show _ = _; rfl) | (intro i hi; show _ = _; simp only [SC.den]; split <;> rfl)))
      | refine And.intro ?_ ?_
      | apply Exists.intro
      | (intro h; exfalso; simp at h; done)
      | (intro h; replace h := of_decide_eq_true h; first | (exfalso; omega) | skip)
      | (intro h; replace h := of_decide_eq_false h; first | (exfalso; omega) | skip)
      | (intro i hi; with_reducible exact rfl)
      | intro _
      | omega
      | exact rfl)
  · have hg := geo_facts (arrOk_facts hok).1
    cases hmv : mvOk gG gB gR gC mB mF mT mN
    · have e : mpOk gG gB gR gC mB mF mT mN x q y = false := by simp [mpOk, hmv]
      have e2 : mpA gG gB gR gC mB mF mT mN x q y = x := by simp [mpA, e]
      rw [e] at hb
      rw [e2] at hz
      subst hb
      subst hz
      repeat' (first
        | with_reducible exact rfl
        | exact True.intro
        | with_reducible assumption
        | exact hl
        | exact hcap
        | (intro h; exfalso; rw [hok] at h; simp at h; done)
        | (intro h; exfalso; rw [hmv] at h; simp at h; done)
        | exact (by refine ⟨?_, rfl⟩; repeat' (first | exact True.intro | exact symRows_push | exact rfl | refine And.intro ?_ ?_ | (intro i hi; show _ = _; with_reducible rfl) | (intro i hi; show _ = _; rfl) | (intro i hi; show _ = _; simp only [SC.den]; split <;> rfl)))
        | refine And.intro ?_ ?_
        | apply Exists.intro
        | (intro h; exfalso; simp at h; done)
        | (intro h; replace h := of_decide_eq_true h; first | (exfalso; omega) | skip)
        | (intro h; replace h := of_decide_eq_false h; first | (exfalso; omega) | skip)
        | (intro i hi; with_reducible exact rfl)
        | intro _
        | omega
        | exact rfl)
    · cases hq : btw q 0 (gC - 1)
      · have e : mpOk gG gB gR gC mB mF mT mN x q y = false := by simp [mpOk, hq]
        have e2 : mpA gG gB gR gC mB mF mT mN x q y = x := by simp [mpA, e]
        rw [e] at hb
        rw [e2] at hz
        subst hb
        subst hz
        repeat' (first
          | with_reducible exact rfl
          | exact True.intro
          | with_reducible assumption
          | exact hl
          | exact hcap
          | (intro h; exfalso; rw [hok] at h; simp at h; done)
          | (intro h; exfalso; rw [hmv] at h; simp at h; done)
          | (intro h; exfalso; rw [hq] at h; simp at h; done)
          | (show rng _; simp only [rng]; omega)
          | exact (by refine ⟨?_, rfl⟩; repeat' (first | exact True.intro | exact symRows_push | exact rfl | refine And.intro ?_ ?_ | (intro i hi; show _ = _; with_reducible rfl) | (intro i hi; show _ = _; rfl) | (intro i hi; show _ = _; simp only [SC.den]; split <;> rfl)))
          | refine And.intro ?_ ?_
          | apply Exists.intro
          | (intro h; exfalso; simp at h; done)
          | (intro h; replace h := of_decide_eq_true h; first | (exfalso; omega) | skip)
          | (intro h; replace h := of_decide_eq_false h; first | (exfalso; omega) | skip)
          | (intro i hi; with_reducible exact rfl)
          | intro _
          | omega
          | exact rfl)
      · cases hy : btw y 0 4294967295
        · have e : mpOk gG gB gR gC mB mF mT mN x q y = false := by simp [mpOk, hy]
          have e2 : mpA gG gB gR gC mB mF mT mN x q y = x := by simp [mpA, e]
          rw [e] at hb
          rw [e2] at hz
          subst hb
          subst hz
          repeat' (first
            | with_reducible exact rfl
            | exact True.intro
            | with_reducible assumption
            | exact hl
            | exact hcap
            | (intro h; exfalso; rw [hok] at h; simp at h; done)
            | (intro h; exfalso; rw [hmv] at h; simp at h; done)
            | (intro h; exfalso; rw [hq] at h; simp at h; done)
            | (intro h; exfalso; rw [hy] at h; simp at h; done)
            | (show rng _; simp only [rng]; omega)
            | exact (by refine ⟨?_, rfl⟩; repeat' (first | exact True.intro | exact symRows_push | exact rfl | refine And.intro ?_ ?_ | (intro i hi; show _ = _; with_reducible rfl) | (intro i hi; show _ = _; rfl) | (intro i hi; show _ = _; simp only [SC.den]; split <;> rfl)))
            | refine And.intro ?_ ?_
            | apply Exists.intro
            | (intro h; exfalso; simp at h; done)
            | (intro h; replace h := of_decide_eq_true h; first | (exfalso; omega) | skip)
            | (intro h; replace h := of_decide_eq_false h; first | (exfalso; omega) | skip)
            | (intro i hi; with_reducible exact rfl)
            | intro _
            | omega
            | exact rfl)
        · have e : mpOk gG gB gR gC mB mF mT mN x q y = true := by simp [mpOk, hok, hmv, hq, hy]
          cases hn : ilt q mN
          · have e2 : mpA gG gB gR gC mB mF mT mN x q y = putA gG gB gR gC mB mF q x y := by simp [mpA, e, hn]
            rw [e] at hb
            rw [e2] at hz
            subst hb
            subst hz
            repeat' (first
              | with_reducible exact rfl
              | exact True.intro
              | with_reducible assumption
              | exact hl
              | exact hcap
              | (intro h; exfalso; rw [hok] at h; simp at h; done)
              | (intro h; exfalso; rw [hmv] at h; simp at h; done)
              | (intro h; exfalso; rw [hq] at h; simp at h; done)
              | (intro h; exfalso; rw [hy] at h; simp at h; done)
              | (intro h; exfalso; rw [hn] at h; simp at h; done)
              | (show rng _; simp only [rng]; omega)
              | (intro h; exfalso; rw [show decide (q < mN) = false from hn] at h; cases h; done)
              | exact capA_put hcap
              | exact (by refine ⟨?_, rfl⟩; repeat' (first | exact True.intro | exact symRows_push | exact rfl | refine And.intro ?_ ?_ | (intro i hi; show _ = _; with_reducible rfl) | (intro i hi; show _ = _; rfl) | (intro i hi; show _ = _; simp only [SC.den]; split <;> rfl)))
              | refine And.intro ?_ ?_
              | apply Exists.intro
              | (intro h; exfalso; simp at h; done)
              | (intro h; replace h := of_decide_eq_true h; first | (exfalso; omega) | skip)
              | (intro h; replace h := of_decide_eq_false h; first | (exfalso; omega) | skip)
              | (intro i hi; with_reducible exact rfl)
              | intro _
              | omega
              | exact rfl)
          · have e2 : mpA gG gB gR gC mB mF mT mN x q y = putA gG gB gR gC mB mT q (putA gG gB gR gC mB mF q x y) y := by simp [mpA, e, hn]
            rw [e] at hb
            rw [e2] at hz
            subst hb
            subst hz
            repeat' (first
              | with_reducible exact rfl
              | exact True.intro
              | with_reducible assumption
              | exact hl
              | exact hcap
              | (intro h; exfalso; rw [hok] at h; simp at h; done)
              | (intro h; exfalso; rw [hmv] at h; simp at h; done)
              | (intro h; exfalso; rw [hq] at h; simp at h; done)
              | (intro h; exfalso; rw [hy] at h; simp at h; done)
              | (intro h; exfalso; rw [hn] at h; simp at h; done)
              | (show rng _; simp only [rng]; omega)
              | (intro h; exfalso; rw [show decide (q < mN) = true from hn] at h; cases h; done)
              | exact capA_put hcap
              | exact (by refine ⟨?_, rfl⟩; repeat' (first | exact True.intro | exact symRows_push | exact rfl | refine And.intro ?_ ?_ | (intro i hi; show _ = _; with_reducible rfl) | (intro i hi; show _ = _; rfl) | (intro i hi; show _ = _; simp only [SC.den]; split <;> rfl)))
              | refine And.intro ?_ ?_
              | apply Exists.intro
              | (intro h; exfalso; simp at h; done)
              | (intro h; replace h := of_decide_eq_true h; first | (exfalso; omega) | skip)
              | (intro h; replace h := of_decide_eq_false h; first | (exfalso; omega) | skip)
              | (intro i hi; with_reducible exact rfl)
              | intro _
              | omega
              | exact rfl)
end Go.Proofs.Ytmgjmglmjfjliab

/-
  Words got.
-/
import Derived.Test.YtmgjmglmjfjliabSxM6
namespace Go.Proofs.Ytmgjmglmjfjliab
set_option linter.unusedVariables false
set_option linter.unusedSimpArgs false
open Go.RowKit
set_option maxRecDepth 100000
set_option maxHeartbeats 8000000

def gwOk (gG gB gR gC : Int) (dB dR dC : Int) (x : AD) : Bool := arrOk gG gB gR gC x && adOk gG gB gR gC dB dR dC
def gwA (gG gB gR gC : Int) (dB dR dC : Int) (x : AD) : AD := if gwOk gG gB gR gC dB dR dC x = true then getN x (ixN gG gB gR gC dB dR dC) else x
def gwX (gG gB gR gC : Int) (dB dR dC : Int) (x : AD) : Int := if gwOk gG gB gR gC dB dR dC x = true then getX x (ixN gG gB gR gC dB dR dC) else 0
def gwC (gG gB gR gC : Int) (dB dR dC : Int) (x : AD) : Int := if gwOk gG gB gR gC dB dR dC x = true then getC x (ixN gG gB gR gC dB dR dC) else 2
theorem gwIP_T (x : AD) (O A H : Option Addr) (C D E : Nat) (so : Nat → Option Addr) (sc : Nat → Nat) (gG gB gR gC : Int) (dB dR dC : Int) (p : Nat → Bool) (gx gc : Int) : (exFn Try.prog {tb := [(27, sCpA), (24, sArrOk), (42, sAdOk), (57, sAdIx), (58, sFet)]} 400 Try.f31 ([.a (.agg [.int gG, .int gB, .int gR, .int gC]), .a (arrS 0 x O A H C D E), .a (.agg [.int dB, .int dR, .int dC])]) (arrR 0 x O A H so sc) (fun v ch => ∃ (Oq Aq Hq : Option Addr) (Cq Dq Ee : Nat) (soq : Nat → Option Addr) (scq : Nat → Nat), v.den = .tuple #[arrV (poA x p) Oq Aq Hq Cq Dq Ee, .int .i64 gx, .int .i64 gc] ∧ SelS ch (idsArr v ch) (arrO 0 (poA x p) Oq Aq Hq Cq Dq Ee soq scq))) = (
  (fun b : AD => (fun c : List (Nat→SC) => (fun d : List (Nat→SC) => (fun g : Int => (fun h : List SC => (fun j : Bool => (fun k : List (Nat→SC) => (fun l : List (Nat→SC) => (fun m : List Row => (fun n : List SC => (fun o : Nat => (fun q : Ch => (fun r : Ch => (fun s : Ch => (fun t : List SC => (fun u : List (Nat→SC) => (fun w : Ch => ∀ y z B F : Nat, (fun G : Ch => (fun I : Ch => (fun J : Ch => z = z∧∃(K : Nat) (L : CD) (M : Nat→Option Addr) (N P : Nat→Nat) (Q R : Nat→Int), (fun S : List (Nat→SC) => (fun T : List (Nat→SC) => (m = (symRows false K L M P)∧u = [fun U => Cs 3 (M U) (L.2 U) (N U), fun U => Cb (L.4 U)]∧O = O∧x.1.1 = x.1.1∧x.1.1 = L.1∧A = A∧x.2 = x.2∧d = T∧H = H∧x.4 = x.4∧c = S)∧capA (AD.mk L x.2 Q x.4 R)∧∀(U V W : Option Addr) (X Y Z : Nat) (aa : Nat→Option Addr) (ab : Nat→Nat) (ac : Nat), (fun ad : Prop => (fun af : List Row => (fun ag : Ch => (fun ah : Ch => (fun aj : Ch => (fun ak : Value => (fun al : List SC => (fun am : Ch => (fun an : Ch => (fun ao : Ch => (fun ap : Prop => ac = ac∧y = y∧z = z∧∃(aq : Nat) (ar : CD) (au : Nat→Option Addr) (av aw : Nat→Nat) (ax ay : Nat→Int), (fun az : Bool => (m = (symRows false aq ar au aw)∧u = [fun aA => Cs 3 (au aA) (ar.2 aA) (av aA), fun aA => Cb (ar.4 aA)]∧O = O∧x.1.1 = x.1.1∧x.1.1 = ar.1∧A = A∧x.2 = x.2∧d = [fun aA => Ci (ax aA)]∧H = H∧x.4 = x.4∧c = [fun aA => Ci (ay aA)])∧lenA (AD.mk ar x.2 ax x.4 ay)∧(az = false→y = y∧B = B∧(j = true→ap)∧(j = false→y = y∧B = B∧ac = ac∧U = U∧L.1 = L.1∧(0 ≤ g∧g < ((L.1 : Nat) : Int))∧ad∧U = U∧o < L.1∧U = U∧o < L.1∧((L.4 o) = true→ap)∧((L.4 o) = false→ad∧U = U∧o < L.1∧U = U∧o < L.1∧∃(aA : Nat) (aB : CD) (aC : Nat→Option Addr) (aD : Nat→Nat) (aE : Nat), (fun aF : List (Nat→SC) => (af = (symRows true aA aB aC aD)∧(aa o) = (aC aE)∧(L.2 o) = (aB.2 aE)∧aE < aB.1)∧((L.2 o) = 11∧(symB 11 (aB.3 aE) (11 : Int)) = true)∧∀(aG : Option Addr) (aH : Nat), (fun aI : Ch => ad∧U = U∧o < L.1∧U = U∧o < L.1∧∃(aJ : Nat) (aK : CD) (aL : Nat→Option Addr) (aM : Nat→Nat) (aN : Nat), (fun aO : Int => (fun aP : Bool => (fun aQ : Bool => (fun aR : Value => (af = (symRows true aJ aK aL aM)∧(aa o) = (aL aN)∧(L.2 o) = (aK.2 aN)∧aN < aK.1)∧((L.2 o) = 11∧(symB 11 (aK.3 aN) (11 : Int)) = true)∧(aQ = true→ad∧U = U∧o < L.1∧U = U∧o < L.1∧ac = ac∧F = F∧F = F∧∃(aS aT aU : Option Addr) (aV aW aX : Nat) (aY : Nat→Option Addr) (aZ : Nat→Nat), aR = (Wu [Wa [Ws aS b.1.1 aV, Ws aT b.2 aW, Ws aU b.4 aX], Wi gx, Wi gc])∧SelS [w, s, r, q, J, I, G, an, Hr true U 61 2 L.1 X [fun a0 => Cv (if a0 = o then (Ws aG 11 aH) else (Ws (aa a0) (L.2 a0) (ab a0))), fun a0 => Cb (L.4 a0)], ah, ag, aj, am, aI] [8, 9, 10, 1000003] [Hr true aS 61 2 b.1.1 aV [fun a0 => Cs 3 (aY a0) (b.1.2 a0) (aZ a0), fun a0 => Cb (b.1.4 a0)], Hr true aT 3 1 b.2 aW l, Hr true aU 3 1 b.4 aX k, Ho true (symRows true 3 b.1 aY aZ)])∧(aQ = false→(aP = true→ad∧U = U∧o < L.1∧U = U∧o < L.1∧ac = ac∧F = F∧F = F∧∃(aS aT aU : Option Addr) (aV aW aX : Nat) (aY : Nat→Option Addr) (aZ : Nat→Nat), aR = (Wu [Wa [Ws aS b.1.1 aV, Ws aT b.2 aW, Ws aU b.4 aX], Wi gx, Wi gc])∧SelS [w, s, r, q, J, I, G, an, Hr true U 61 2 L.1 X [fun a0 => Cs 11 (aa a0) (L.2 a0) (ab a0), fun a0 => Cb (if a0 = o then true else (L.4 a0))], ah, ag, aj, am, aI] [8, 9, 10, 11] [Hr true aS 61 2 b.1.1 aV [fun a0 => Cs 3 (aY a0) (b.1.2 a0) (aZ a0), fun a0 => Cb (b.1.4 a0)], Hr true aT 3 1 b.2 aW l, Hr true aU 3 1 b.4 aX k, Ho true (symRows true 3 b.1 aY aZ)])∧(aP = false→ac = ac∧F = F∧F = F∧∃(aS aT aU : Option Addr) (aV aW aX : Nat) (aY : Nat→Option Addr) (aZ : Nat→Nat), aR = (Wu [Wa [Ws aS b.1.1 aV, Ws aT b.2 aW, Ws aU b.4 aX], Wi gx, Wi gc])∧SelS [w, s, r, q, J, I, G, an, ao, ah, ag, aj, am, aI] [8, 9, 10, 11] [Hr true aS 61 2 b.1.1 aV [fun a0 => Cs 3 (aY a0) (b.1.2 a0) (aZ a0), fun a0 => Cb (b.1.4 a0)], Hr true aT 3 1 b.2 aW l, Hr true aU 3 1 b.4 aX k, Ho true (symRows true 3 b.1 aY aZ)]))) (Wu [ak, Wi (decX (aK.3 aN)), Wi aO])) (aO == (1 : Int))) (aO == (2 : Int))) (corC (aK.3 aN))) (Hr true aG 3 1 11 aH aF)) [fun aF => Ci (corW (aB.3 aE) aF)])))∧(az = true→ap)) (! (arrOk gG gB gR gC (AD.mk ar x.2 ax x.4 ay)))) (ac = ac∧F = F∧F = F∧∃(ap aq ar : Option Addr) (au av aw : Nat) (ax : Nat→Option Addr) (ay : Nat→Nat), (Wu [ak, Wi 0, Wi 2]) = (Wu [Wa [Ws ap b.1.1 au, Ws aq b.2 av, Ws ar b.4 aw], Wi gx, Wi gc])∧SelS [w, s, r, q, J, I, G, an, ao, ah, ag, aj, am] [8, 9, 10, 11] [Hr true ap 61 2 b.1.1 au [fun az => Cs 3 (ax az) (b.1.2 az) (ay az), fun az => Cb (b.1.4 az)], Hr true aq 3 1 b.2 av l, Hr true ar 3 1 b.4 aw k, Ho true (symRows true 3 b.1 ax ay)])) (Hr true U 61 2 L.1 X [fun ao => Cs 11 (aa ao) (L.2 ao) (ab ao), fun ao => Cb (L.4 ao)])) (Hc F 31 al)) (Hc ac 31 al)) [Cs 8 U L.1 X, Cs 9 V x.2 Y, Cs 10 W x.4 Z]) (Wa [Ws U L.1 X, Ws V x.2 Y, Ws W x.4 Z])) (Ho true af)) (Hr true V 3 1 x.2 Y T)) (Hr true W 3 1 x.4 Z S)) (symRows true 3 L aa ab)) (U = U∧o < L.1)) [fun T => Ci (Q T)]) [fun S => Ci (R S)]) (Hc y 25 n)) (Hc z 31 t)) (Hc B 41 h)) (Hr false O 0 2 x.1.1 0 u)) [fun u => Cs 3 (so u) (x.1.2 u) (sc u), fun u => Cb (x.1.4 u)]) [Cs 0 O x.1.1 C, Cs 1 A x.2 D, Cs 2 H x.4 E]) (Hr false A 0 1 x.2 0 d)) (Hr false H 0 1 x.4 0 c)) (Ho false m)) (Int.toNat g)) [Ci gG, Ci gB, Ci gR, Ci gC]) (symRows false 0 x.1 so (fun m => 0))) [fun l => Ci (b.3 l)]) [fun k => Ci (b.5 k)]) (! (adOk gG gB gR gC dB dR dC))) [Ci dB, Ci dR, Ci dC]) (adIx gG gB gR gC dB dR dC)) [fun d => Ci (x.3 d)]) [fun c => Ci (x.5 c)]) (poA x p)) := by kernel_rfl
theorem gwIP_any (x : AD) (O A H : Option Addr) (C D E : Nat) (so : Nat → Option Addr) (sc : Nat → Nat) (gG gB gR gC : Int) (dB dR dC : Int) (p : Nat → Bool) (gx gc : Int) (w : World) (hA : SeenA w x O A H so sc) (hcap : capA x) (hN : gwOk gG gB gR gC dB dR dC x = false → p = x.c.po ∧ gx = 0 ∧ gc = 2) (hP : gwOk gG gB gR gC dB dR dC x = true → x.c.po (adIx gG gB gR gC dB dR dC).toNat = true → p = x.c.po ∧ gx = 0 ∧ gc = 2) (hQ : gwOk gG gB gR gC dB dR dC x = true → x.c.po (adIx gG gB gR gC dB dR dC).toNat = false → ¬ corC (x.c.sy (adIx gG gB gR gC dB dR dC).toNat) = 1 ∧ gx = decX (x.c.sy (adIx gG gB gR gC dB dR dC).toNat) ∧ gc = corC (x.c.sy (adIx gG gB gR gC dB dR dC).toNat) ∧ (corC (x.c.sy (adIx gG gB gR gC dB dR dC).toNat) = 0 → p = x.c.po) ∧ (corC (x.c.sy (adIx gG gB gR gC dB dR dC).toNat) = 2 → p = fun i => if i = (adIx gG gB gR gC dB dR dC).toNat then true else x.c.po i)) : Calls Try.prog 31 #[.agg #[.int .i64 gG, .int .i64 gB, .int .i64 gR, .int .i64 gC], arrV x O A H C D E, .agg #[.int .i64 dB, .int .i64 dR, .int .i64 dC]] w fun e w' => ∃ (Oq Aq Hq : Option Addr) (Cq Dq Ee : Nat) (soq : Nat → Option Addr) (scq : Nat → Nat), e = .returned (.tuple #[arrV (poA x p) Oq Aq Hq Cq Dq Ee, .int .i64 gx, .int .i64 gc]) ∧ HS ⟨w, fun _ => False⟩ (arrO 0 (poA x p) Oq Aq Hq Cq Dq Ee soq scq) w' := by
  refine fnB (tb := [(27, sCpA), (24, sArrOk), (42, sAdOk), (57, sAdIx), (58, sFet)]) ⟨sCpA_I, sArrOk_I, sAdOk_I, sAdIx_I, sFet_ok, trivial⟩ Try.func31 (@Eq.mpr _ _ (gwIP_T x O A H C D E so sc gG gB gR gC dB dR dC p gx gc) ?_) (HS.seenAll (fun _ => False) _ (hA.all 0 seenC_nil)) (fun v ch' w' ⟨Oq, Aq, Hq, Cq, Dq, Ee, soq, scq, hv, hc⟩ hs => ⟨Oq, Aq, Hq, Cq, Dq, Ee, soq, scq, by rw [hv], hc.hs hs⟩)
  dsimp -zeta -proj -iota -eta -failIfUnchanged (etaStruct := .none) only
  clear hA
  have hl := lenA_of hcap
  cases hok : arrOk gG gB gR gC x
  · obtain ⟨rfl, rfl, rfl⟩ := hN (by simp [gwOk, hok])
    repeat' (first
      | with_reducible exact rfl
      | exact True.intro
      | with_reducible assumption
      | exact hl
      | exact hcap
      | (intro h; exfalso; rw [hok] at h; simp at h; done)
      | exact (by refine ⟨?_, rfl⟩; repeat' (first | exact True.intro | exact symRows_push | exact rfl | refine And.intro ?_ ?_ | (intro i hi; show _ = _; with_reducible rfl) | (intro i hi; show _ = _; rfl) | (intro i hi; show _ = _; simp only [SC.den]; split <;> rfl)))
      | refine And.intro ?_ ?_
      | apply Exists.intro
      | (intro h; exfalso; simp at h; done)
      | (intro h; replace h := of_decide_eq_true h; first | (exfalso; omega) | skip)
      | (intro h; replace h := of_decide_eq_false h; first | (exfalso; omega) | skip)
      | (intro i hi; with_reducible exact rfl)
      | intro _
      | omega
      | exact rfl)
  · cases had : adOk gG gB gR gC dB dR dC
    · obtain ⟨rfl, rfl, rfl⟩ := hN (by simp [gwOk, had])
      repeat' (first
        | with_reducible exact rfl
        | exact True.intro
        | with_reducible assumption
        | exact hl
        | exact hcap
        | (intro h; exfalso; rw [hok] at h; simp at h; done)
        | (intro h; exfalso; rw [had] at h; simp at h; done)
        | exact (by refine ⟨?_, rfl⟩; repeat' (first | exact True.intro | exact symRows_push | exact rfl | refine And.intro ?_ ?_ | (intro i hi; show _ = _; with_reducible rfl) | (intro i hi; show _ = _; rfl) | (intro i hi; show _ = _; simp only [SC.den]; split <;> rfl)))
        | refine And.intro ?_ ?_
        | apply Exists.intro
        | (intro h; exfalso; simp at h; done)
        | (intro h; replace h := of_decide_eq_true h; first | (exfalso; omega) | skip)
        | (intro h; replace h := of_decide_eq_false h; first | (exfalso; omega) | skip)
        | (intro i hi; with_reducible exact rfl)
        | intro _
        | omega
        | exact rfl)
    · have hin := arr_in hok had
      have hi1 := hin.1
      have hi2 := hin.2.1
      have hi3 : ltN (tn (adIx gG gB gR gC dB dR dC)) x.c.n := hin.2.2
      have hsy : symB (x.c.sn (adIx gG gB gR gC dB dR dC).toNat) (x.c.sy (adIx gG gB gR gC dB dR dC).toNat) 11 = true := (arrOk_facts hok).2.2.2.2 _ hi3
      have hn11 : x.c.sn (adIx gG gB gR gC dB dR dC).toNat = 11 := by have := symB_n hsy; omega
      have hs11 : symB 11 (x.c.sy (adIx gG gB gR gC dB dR dC).toNat) 11 = true := by rw [hn11] at hsy; exact hsy
      have hel := symB_el hs11
      have hcp := hcap.2.2.2 _ hi3
      have hokk : gwOk gG gB gR gC dB dR dC x = true := by simp [gwOk, hok, had]
      cases hpo : x.c.po (adIx gG gB gR gC dB dR dC).toNat
      · obtain ⟨c1, rfl, rfl, c0, c2⟩ := hQ hokk hpo
        have b1 : (corC (x.c.sy (adIx gG gB gR gC dB dR dC).toNat) == 1) = false := by simpa using c1
        rcases corC_cases (x.c.sy (adIx gG gB gR gC dB dR dC).toNat) with e | e | e
        · obtain rfl := c0 e
          have b2 : (corC (x.c.sy (adIx gG gB gR gC dB dR dC).toNat) == 2) = false := by rw [e]; rfl
          repeat' (first
            | with_reducible exact rfl
            | exact True.intro
            | with_reducible assumption
            | exact hl
            | exact hcap
            | with_reducible exact hs11
            | with_reducible exact hn11
            | (intro h; exfalso; rw [hok] at h; simp at h; done)
            | (intro h; exfalso; rw [had] at h; simp at h; done)
            | (intro h; exfalso; rw [b1] at h; simp at h; done)
            | (intro h; exfalso; rw [b2] at h; simp at h; done)
            | (intro h; exfalso; rw [hpo] at h; cases h; done)
            | (refine ⟨_, _, _, _, _, ⟨rfl, rfl, rfl, ?_⟩, ?_⟩)
            | exact (by refine ⟨?_, rfl⟩; repeat' (first | exact True.intro | exact symRows_push | exact rfl | refine And.intro ?_ ?_ | (intro i hi; show _ = _; with_reducible rfl) | (intro i hi; show _ = _; rfl) | (intro i hi; show _ = _; simp only [SC.den]; split <;> rfl)))
            | refine And.intro ?_ ?_
            | apply Exists.intro
            | (intro h; exfalso; simp at h; done)
            | (intro h; replace h := of_decide_eq_true h; first | (exfalso; omega) | skip)
            | (intro h; replace h := of_decide_eq_false h; first | (exfalso; omega) | skip)
            | (intro i hi; with_reducible exact rfl)
            | intro _
            | omega
            | exact rfl)
        · exact absurd e c1
        · obtain rfl := c2 e
          have b2 : (corC (x.c.sy (adIx gG gB gR gC dB dR dC).toNat) == 2) = true := by rw [e]; rfl
          repeat' (first
            | with_reducible exact rfl
            | exact True.intro
            | with_reducible assumption
            | exact hl
            | exact hcap
            | with_reducible exact hs11
            | with_reducible exact hn11
            | (intro h; exfalso; rw [hok] at h; simp at h; done)
            | (intro h; exfalso; rw [had] at h; simp at h; done)
            | (intro h; exfalso; rw [b1] at h; simp at h; done)
            | (intro h; exfalso; rw [b2] at h; simp at h; done)
            | (intro h; exfalso; rw [hpo] at h; cases h; done)
            | (refine ⟨_, _, _, _, _, ⟨rfl, rfl, rfl, ?_⟩, ?_⟩)
            | exact (by refine ⟨?_, rfl⟩; repeat' (first | exact True.intro | exact symRows_push | exact rfl | refine And.intro ?_ ?_ | (intro i hi; show _ = _; with_reducible rfl) | (intro i hi; show _ = _; rfl) | (intro i hi; show _ = _; simp only [SC.den]; split <;> rfl)))
            | refine And.intro ?_ ?_
            | apply Exists.intro
            | (intro h; exfalso; simp at h; done)
            | (intro h; replace h := of_decide_eq_true h; first | (exfalso; omega) | skip)
            | (intro h; replace h := of_decide_eq_false h; first | (exfalso; omega) | skip)
            | (intro i hi; with_reducible exact rfl)
            | intro _
            | omega
            | exact rfl)
      · obtain ⟨rfl, rfl, rfl⟩ := hP hokk hpo
        repeat' (first
          | with_reducible exact rfl
          | exact True.intro
          | with_reducible assumption
          | exact hl
          | exact hcap
          | with_reducible exact hs11
          | with_reducible exact hn11
          | (intro h; exfalso; rw [hok] at h; simp at h; done)
          | (intro h; exfalso; rw [had] at h; simp at h; done)
          | (intro h; exfalso; rw [hpo] at h; cases h; done)
          | (refine ⟨_, _, _, _, _, ⟨rfl, rfl, rfl, ?_⟩, ?_⟩)
          | exact (by refine ⟨?_, rfl⟩; repeat' (first | exact True.intro | exact symRows_push | exact rfl | refine And.intro ?_ ?_ | (intro i hi; show _ = _; with_reducible rfl) | (intro i hi; show _ = _; rfl) | (intro i hi; show _ = _; simp only [SC.den]; split <;> rfl)))
          | refine And.intro ?_ ?_
          | apply Exists.intro
          | (intro h; exfalso; simp at h; done)
          | (intro h; replace h := of_decide_eq_true h; first | (exfalso; omega) | skip)
          | (intro h; replace h := of_decide_eq_false h; first | (exfalso; omega) | skip)
          | (intro i hi; with_reducible exact rfl)
          | intro _
          | omega
          | exact rfl)
theorem gwIF_T (x : AD) (O A H : Option Addr) (C D E : Nat) (so : Nat → Option Addr) (sc : Nat → Nat) (gG gB gR gC : Int) (dB dR dC : Int) : (exFn Try.prog {tb := [(27, sCpA), (24, sArrOk), (42, sAdOk), (57, sAdIx), (58, sFet)]} 400 Try.f31 ([.a (.agg [.int gG, .int gB, .int gR, .int gC]), .a (arrS 0 x O A H C D E), .a (.agg [.int dB, .int dR, .int dC])]) (arrR 0 x O A H so sc) (fun v ch => ∃ (Oq Aq Hq : Option Addr) (Cq Dq Ee : Nat) (soq : Nat → Option Addr) (scq : Nat → Nat) (ro : Option Addr) (rc : Nat), v.den = .tuple #[arrV x Oq Aq Hq Cq Dq Ee, .int .i64 (decX (x.c.sy (ixN gG gB gR gC dB dR dC))), .int .i64 1] ∧ SelS ch (idsSt v ch) (storedCh x (ixN gG gB gR gC dB dR dC) 11 (fun i => corW (x.c.sy (ixN gG gB gR gC dB dR dC)) i) (x.c.po (ixN gG gB gR gC dB dR dC)) Oq Aq Hq Cq Dq Ee soq scq ro rc))) = (
  (fun b : List (Nat→SC) => (fun d : List (Nat→SC) => (fun g : Nat => (fun h : Int => (fun j : List SC => (fun k : Bool => (fun l : List Row => (fun m : List SC => (fun n : Nat => (fun o : Ch => (fun p : Value => (fun q : Ch => (fun r : Ch => (fun s : List SC => (fun t : List (Nat→SC) => (fun u : List (Nat→SC) => (fun w : Ch => ∀ y z B F : Nat, (fun G : Ch => (fun I : Ch => (fun J : Ch => z = z∧∃(K : Nat) (L : CD) (M : Nat→Option Addr) (N P : Nat→Nat) (Q R : Nat→Int), (fun S : List (Nat→SC) => (fun T : List (Nat→SC) => (l = (symRows false K L M P)∧u = [fun U => Cs 3 (M U) (L.2 U) (N U), fun U => Cb (L.4 U)]∧O = O∧x.1.1 = x.1.1∧x.1.1 = L.1∧A = A∧x.2 = x.2∧d = T∧H = H∧x.4 = x.4∧b = S)∧capA (AD.mk L x.2 Q x.4 R)∧∀(U V W : Option Addr) (X Y Z : Nat) (aa : Nat→Option Addr) (ab : Nat→Nat) (ac : Nat), (fun ad : Prop => (fun af : List Row => (fun ag : Ch => (fun ah : Ch => (fun aj : Ch => (fun ak : Value => (fun al : List SC => (fun am : Ch => (fun an : Ch => (fun ao : Ch => (fun ap : Prop => ac = ac∧y = y∧z = z∧∃(aq : Nat) (ar : CD) (au : Nat→Option Addr) (av aw : Nat→Nat) (ax ay : Nat→Int), (fun az : Bool => (l = (symRows false aq ar au aw)∧u = [fun aA => Cs 3 (au aA) (ar.2 aA) (av aA), fun aA => Cb (ar.4 aA)]∧O = O∧x.1.1 = x.1.1∧x.1.1 = ar.1∧A = A∧x.2 = x.2∧d = [fun aA => Ci (ax aA)]∧H = H∧x.4 = x.4∧b = [fun aA => Ci (ay aA)])∧lenA (AD.mk ar x.2 ax x.4 ay)∧(az = false→y = y∧B = B∧(k = true→ap)∧(k = false→y = y∧B = B∧ac = ac∧U = U∧L.1 = L.1∧(0 ≤ h∧h < ((L.1 : Nat) : Int))∧ad∧U = U∧n < L.1∧U = U∧n < L.1∧((L.4 n) = true→ap)∧((L.4 n) = false→ad∧U = U∧n < L.1∧U = U∧n < L.1∧∃(aA : Nat) (aB : CD) (aC : Nat→Option Addr) (aD : Nat→Nat) (aE : Nat), (fun aF : List (Nat→SC) => (af = (symRows true aA aB aC aD)∧(aa n) = (aC aE)∧(L.2 n) = (aB.2 aE)∧aE < aB.1)∧((L.2 n) = 11∧(symB 11 (aB.3 aE) (11 : Int)) = true)∧∀(aG : Option Addr) (aH : Nat), (fun aI : Ch => ad∧U = U∧n < L.1∧U = U∧n < L.1∧∃(aJ : Nat) (aK : CD) (aL : Nat→Option Addr) (aM : Nat→Nat) (aN : Nat), (fun aO : Int => (fun aP : Bool => (fun aQ : Bool => (fun aR : Value => (af = (symRows true aJ aK aL aM)∧(aa n) = (aL aN)∧(L.2 n) = (aK.2 aN)∧aN < aK.1)∧((L.2 n) = 11∧(symB 11 (aK.3 aN) (11 : Int)) = true)∧(aQ = true→ad∧U = U∧n < L.1∧U = U∧n < L.1∧ac = ac∧F = F∧F = F∧∃(aS aT aU : Option Addr) (aV aW aX : Nat) (aY : Nat→Option Addr) (aZ : Nat→Nat) (a0 : Option Addr) (a1 : Nat), aR = (Wu [Wa [Ws aS x.1.1 aV, Ws aT x.2 aW, Ws aU x.4 aX], p, Wi 1])∧SelS [w, r, q, o, J, I, G, an, Hr true U 61 2 L.1 X [fun a2 => Cv (if a2 = n then (Ws aG 11 aH) else (Ws (aa a2) (L.2 a2) (ab a2))), fun a2 => Cb (L.4 a2)], ah, ag, aj, am, aI] [8, 9, 10, 11, 13] [Hr true aS 61 2 x.1.1 aV [fun a2 => Cv (if a2 = g then (Ws a0 11 a1) else (Ws (aY a2) (x.1.2 a2) (aZ a2))), fun a2 => Cb (if a2 = g then (x.1.4 g) else (x.1.4 a2))], Hr true aT 3 1 x.2 aW d, Hr true aU 3 1 x.4 aX b, Ho true (symRows true 3 x.1 aY aZ), Hr true a0 3 1 11 a1 t])∧(aQ = false→(aP = true→ad∧U = U∧n < L.1∧U = U∧n < L.1∧ac = ac∧F = F∧F = F∧∃(aS aT aU : Option Addr) (aV aW aX : Nat) (aY : Nat→Option Addr) (aZ : Nat→Nat) (a0 : Option Addr) (a1 : Nat), aR = (Wu [Wa [Ws aS x.1.1 aV, Ws aT x.2 aW, Ws aU x.4 aX], p, Wi 1])∧SelS [w, r, q, o, J, I, G, an, Hr true U 61 2 L.1 X [fun a2 => Cs 11 (aa a2) (L.2 a2) (ab a2), fun a2 => Cb (if a2 = n then true else (L.4 a2))], ah, ag, aj, am, aI] [8, 9, 10, 11, 13] [Hr true aS 61 2 x.1.1 aV [fun a2 => Cv (if a2 = g then (Ws a0 11 a1) else (Ws (aY a2) (x.1.2 a2) (aZ a2))), fun a2 => Cb (if a2 = g then (x.1.4 g) else (x.1.4 a2))], Hr true aT 3 1 x.2 aW d, Hr true aU 3 1 x.4 aX b, Ho true (symRows true 3 x.1 aY aZ), Hr true a0 3 1 11 a1 t])∧(aP = false→ac = ac∧F = F∧F = F∧∃(aS aT aU : Option Addr) (aV aW aX : Nat) (aY : Nat→Option Addr) (aZ : Nat→Nat) (a0 : Option Addr) (a1 : Nat), aR = (Wu [Wa [Ws aS x.1.1 aV, Ws aT x.2 aW, Ws aU x.4 aX], p, Wi 1])∧SelS [w, r, q, o, J, I, G, an, ao, ah, ag, aj, am, aI] [8, 9, 10, 11, 13] [Hr true aS 61 2 x.1.1 aV [fun a2 => Cv (if a2 = g then (Ws a0 11 a1) else (Ws (aY a2) (x.1.2 a2) (aZ a2))), fun a2 => Cb (if a2 = g then (x.1.4 g) else (x.1.4 a2))], Hr true aT 3 1 x.2 aW d, Hr true aU 3 1 x.4 aX b, Ho true (symRows true 3 x.1 aY aZ), Hr true a0 3 1 11 a1 t]))) (Wu [ak, Wi (decX (aK.3 aN)), Wi aO])) (aO == (1 : Int))) (aO == (2 : Int))) (corC (aK.3 aN))) (Hr true aG 3 1 11 aH aF)) [fun aF => Ci (corW (aB.3 aE) aF)])))∧(az = true→ap)) (! (arrOk gG gB gR gC (AD.mk ar x.2 ax x.4 ay)))) (ac = ac∧F = F∧F = F∧∃(ap aq ar : Option Addr) (au av aw : Nat) (ax : Nat→Option Addr) (ay : Nat→Nat) (az : Option Addr) (aA : Nat), (Wu [ak, Wi 0, Wi 2]) = (Wu [Wa [Ws ap x.1.1 au, Ws aq x.2 av, Ws ar x.4 aw], p, Wi 1])∧SelS [w, r, q, o, J, I, G, an, ao, ah, ag, aj, am] [8, 9, 10, 11, 12] [Hr true ap 61 2 x.1.1 au [fun aB => Cv (if aB = g then (Ws az 11 aA) else (Ws (ax aB) (x.1.2 aB) (ay aB))), fun aB => Cb (if aB = g then (x.1.4 g) else (x.1.4 aB))], Hr true aq 3 1 x.2 av d, Hr true ar 3 1 x.4 aw b, Ho true (symRows true 3 x.1 ax ay), Hr true az 3 1 11 aA t])) (Hr true U 61 2 L.1 X [fun ao => Cs 11 (aa ao) (L.2 ao) (ab ao), fun ao => Cb (L.4 ao)])) (Hc F 31 al)) (Hc ac 31 al)) [Cs 8 U L.1 X, Cs 9 V x.2 Y, Cs 10 W x.4 Z]) (Wa [Ws U L.1 X, Ws V x.2 Y, Ws W x.4 Z])) (Ho true af)) (Hr true V 3 1 x.2 Y T)) (Hr true W 3 1 x.4 Z S)) (symRows true 3 L aa ab)) (U = U∧n < L.1)) [fun T => Ci (Q T)]) [fun S => Ci (R S)]) (Hc y 25 m)) (Hc z 31 s)) (Hc B 41 j)) (Hr false O 0 2 x.1.1 0 u)) [fun u => Cs 3 (so u) (x.1.2 u) (sc u), fun u => Cb (x.1.4 u)]) [fun t => Ci (corW (x.1.3 g) t)]) [Cs 0 O x.1.1 C, Cs 1 A x.2 D, Cs 2 H x.4 E]) (Hr false A 0 1 x.2 0 d)) (Hr false H 0 1 x.4 0 b)) (Wi (decX (x.1.3 g)))) (Ho false l)) (Int.toNat h)) [Ci gG, Ci gB, Ci gR, Ci gC]) (symRows false 0 x.1 so (fun l => 0))) (! (adOk gG gB gR gC dB dR dC))) [Ci dB, Ci dR, Ci dC]) (adIx gG gB gR gC dB dR dC)) (ixN gG gB gR gC dB dR dC)) [fun d => Ci (x.3 d)]) [fun b => Ci (x.5 b)]) := by kernel_rfl
theorem gwIF_any (x : AD) (O A H : Option Addr) (C D E : Nat) (so : Nat → Option Addr) (sc : Nat → Nat) (gG gB gR gC : Int) (dB dR dC : Int) (w : World) (hA : SeenA w x O A H so sc) (hcap : capA x) (hokk : gwOk gG gB gR gC dB dR dC x = true) (hpo : x.c.po (adIx gG gB gR gC dB dR dC).toNat = false) (hc1 : corC (x.c.sy (adIx gG gB gR gC dB dR dC).toNat) = 1) : Calls Try.prog 31 #[.agg #[.int .i64 gG, .int .i64 gB, .int .i64 gR, .int .i64 gC], arrV x O A H C D E, .agg #[.int .i64 dB, .int .i64 dR, .int .i64 dC]] w fun e w' => ∃ (Oq Aq Hq : Option Addr) (Cq Dq Ee : Nat) (soq : Nat → Option Addr) (scq : Nat → Nat), e = .returned (.tuple #[arrV (setA x (ixN gG gB gR gC dB dR dC) 11 (fun i => corW (x.c.sy (ixN gG gB gR gC dB dR dC)) i) (x.c.po (ixN gG gB gR gC dB dR dC))) Oq Aq Hq Cq Dq Ee, .int .i64 (decX (x.c.sy (ixN gG gB gR gC dB dR dC))), .int .i64 1]) ∧ HS ⟨w, fun _ => False⟩ (arrO 0 (setA x (ixN gG gB gR gC dB dR dC) 11 (fun i => corW (x.c.sy (ixN gG gB gR gC dB dR dC)) i) (x.c.po (ixN gG gB gR gC dB dR dC))) Oq Aq Hq Cq Dq Ee soq scq) w' := by
  refine fnB (tb := [(27, sCpA), (24, sArrOk), (42, sAdOk), (57, sAdIx), (58, sFet)]) ⟨sCpA_I, sArrOk_I, sAdOk_I, sAdIx_I, sFet_ok, trivial⟩ Try.func31 (@Eq.mpr _ _ (gwIF_T x O A H C D E so sc gG gB gR gC dB dR dC) ?_) (HS.seenAll (fun _ => False) _ (hA.all 0 seenC_nil)) (fun v ch' w' ⟨Oq, Aq, Hq, Cq, Dq, Ee, soq, scq, ro, rc, hv, hc⟩ hs => ⟨Oq, Aq, Hq, Cq, Dq, Ee, _, _, by rw [hv]; rfl, (hc.hs hs).stored⟩)
  dsimp -zeta -proj -iota -eta -failIfUnchanged (etaStruct := .none) only
  clear hA
  have hl := lenA_of hcap
  have hok : arrOk gG gB gR gC x = true := by simp only [gwOk, Bool.and_eq_true] at hokk; exact hokk.1
  have had : adOk gG gB gR gC dB dR dC = true := by simp only [gwOk, Bool.and_eq_true] at hokk; exact hokk.2
  have hin := arr_in hok had
  have hi1 := hin.1
  have hi2 := hin.2.1
  have hi3 : ltN (tn (adIx gG gB gR gC dB dR dC)) x.c.n := hin.2.2
  have hsy : symB (x.c.sn (adIx gG gB gR gC dB dR dC).toNat) (x.c.sy (adIx gG gB gR gC dB dR dC).toNat) 11 = true := (arrOk_facts hok).2.2.2.2 _ hi3
  have hn11 : x.c.sn (adIx gG gB gR gC dB dR dC).toNat = 11 := by have := symB_n hsy; omega
  have hs11 : symB 11 (x.c.sy (adIx gG gB gR gC dB dR dC).toNat) 11 = true := by rw [hn11] at hsy; exact hsy
  have hel := symB_el hs11
  have hcp := hcap.2.2.2 _ hi3
  have b1 : (corC (x.c.sy (adIx gG gB gR gC dB dR dC).toNat) == 1) = true := by rw [hc1]; rfl
  have b2 : (corC (x.c.sy (adIx gG gB gR gC dB dR dC).toNat) == 2) = false := by rw [hc1]; rfl
  have hdw := dec_word hel hc1
  have hcw : ∀ i, i < 11 → cw (decX (x.c.sy (adIx gG gB gR gC dB dR dC).toNat)) i = corW (x.c.sy (adIx gG gB gR gC dB dR dC).toNat) i := fun i hi => dec_cw hel hc1 hi
  repeat' (first
    | with_reducible exact rfl
    | exact True.intro
    | with_reducible assumption
    | exact hl
    | exact hcap
    | with_reducible exact hs11
    | with_reducible exact hn11
    | (intro h; exfalso; rw [hok] at h; simp at h; done)
    | (intro h; exfalso; rw [had] at h; simp at h; done)
    | (intro h; exfalso; rw [b1] at h; simp at h; done)
    | (intro h; exfalso; rw [b2] at h; simp at h; done)
    | (intro h; exfalso; rw [hpo] at h; cases h; done)
    | (refine ⟨_, _, _, _, _, ⟨rfl, rfl, rfl, ?_⟩, ?_⟩)
    | with_reducible exact hdw
    | (show (_ : Value) = _; rw [hc1]; try with_reducible rfl)
    | exact (by refine ⟨?_, rfl⟩; repeat' (first | exact True.intro | exact symRows_push | exact rfl | refine And.intro ?_ ?_ | (intro i hi; show _ = _; with_reducible rfl) | (intro i hi; show _ = _; rfl) | (intro i hi; exact congrArg (fun z => Value.int .i64 z) (hcw i hi)) | (intro i hi; simp only [SC.den, selB]; split <;> simp_all) | (intro i hi; show _ = _; simp only [SC.den]; split <;> rfl)))
    | refine And.intro ?_ ?_
    | apply Exists.intro
    | (intro h; exfalso; simp at h; done)
    | (intro h; replace h := of_decide_eq_true h; first | (exfalso; omega) | skip)
    | (intro h; replace h := of_decide_eq_false h; first | (exfalso; omega) | skip)
    | (intro i hi; with_reducible exact rfl)
    | intro _
    | omega
    | exact rfl)
theorem gwSP_T (x : AD) (O A H : Option Addr) (C D E : Nat) (so : Nat → Option Addr) (sc : Nat → Nat) (gG gB gR gC : Int) (dB dR dC : Int) (p : Nat → Bool) (gx gc : Int) : (exFn Try.prog {tb := [(18, sCpA), (19, sArrOk), (20, sAdOk), (23, sAdIx), (32, sGet)]} 400 Try.f12 ([.a (.agg [.int gG, .int gB, .int gR, .int gC]), .a (arrS 0 x O A H C D E), .a (.agg [.int dB, .int dR, .int dC])]) (arrR 0 x O A H so sc) (fun v ch => ∃ (Oq Aq Hq : Option Addr) (Cq Dq Ee : Nat) (soq : Nat → Option Addr) (scq : Nat → Nat), v.den = .tuple #[arrV (poA x p) Oq Aq Hq Cq Dq Ee, .int .i64 gx, .int .i64 gc] ∧ SelS ch (idsArr v ch) (arrO 0 (poA x p) Oq Aq Hq Cq Dq Ee soq scq))) = (
  (fun b : Value => (fun c : Value => (fun d : AD => (fun g : List (Nat→SC) => (fun h : List (Nat→SC) => (fun j : Int => (fun k : List SC => (fun l : Bool => (fun m : List (Nat→SC) => (fun n : List (Nat→SC) => (fun o : List Row => (fun q : List SC => (fun r : Nat => (fun s : Ch => (fun t : Ch => (fun u : Ch => (fun w : List SC => (fun y : List (Nat→SC) => (fun z : Ch => ∀ B F G I : Nat, (fun J : Ch => (fun K : Ch => (fun L : Ch => F = F∧∃(M : Nat) (N : CD) (P : Nat→Option Addr) (Q R : Nat→Nat) (S T : Nat→Int), (fun U : SC => (fun V : List (Nat→SC) => (fun W : List (Nat→SC) => (fun X : Prop => (o = (symRows false M N P R)∧y = [fun Y => Cs 3 (P Y) (N.2 Y) (Q Y), fun Y => Cb (N.4 Y)]∧O = O∧x.1.1 = x.1.1∧x.1.1 = N.1∧A = A∧x.2 = x.2∧h = W∧H = H∧x.4 = x.4∧g = V)∧capA (AD.mk N x.2 S x.4 T)∧∀(Y Z aa : Option Addr) (ab ac ad : Nat) (af : Nat→Option Addr) (ag : Nat→Nat) (ah : Nat), (fun aj : Ch => (fun ak : Ch => (fun al : Ch => (fun am : List SC => (fun an : Value => (fun ao : List SC => (fun ap : Ch => (fun aq : Ch => (fun ar : Value => (fun au : Ch => (fun av : Prop => ah = ah∧B = B∧F = F∧∃(aw : Nat) (ax : CD) (ay : Nat→Option Addr) (az aA : Nat→Nat) (aB aC : Nat→Int), (fun aD : Bool => (o = (symRows false aw ax ay aA)∧y = [fun aE => Cs 3 (ay aE) (ax.2 aE) (az aE), fun aE => Cb (ax.4 aE)]∧O = O∧x.1.1 = x.1.1∧x.1.1 = ax.1∧A = A∧x.2 = x.2∧h = [fun aE => Ci (aB aE)]∧H = H∧x.4 = x.4∧g = [fun aE => Ci (aC aE)])∧lenA (AD.mk ax x.2 aB x.4 aC)∧(aD = false→B = B∧G = G∧(l = true→av)∧(l = false→B = B∧G = G∧ah = ah∧Y = Y∧N.1 = N.1∧X∧Y = Y∧r < N.1∧∀ aE : Nat, (fun aF : Ch => aE = aE∧aE = aE∧((N.4 r) = true→ah = ah∧I = I∧I = I∧∃(aG aH aI : Option Addr) (aJ aK aL : Nat) (aM : Nat→Option Addr) (aN : Nat→Nat), ar = (Wu [Wa [Ws aG d.1.1 aJ, Ws aH d.2 aK, Ws aI d.4 aL], c, b])∧SelS [z, u, t, s, L, K, J, aq, au, ak, aj, al, ap, aF] [8, 9, 10, 11] [Hr true aG 61 2 d.1.1 aJ [fun aO => Cs 3 (aM aO) (d.1.2 aO) (aN aO), fun aO => Cb (d.1.4 aO)], Hr true aH 3 1 d.2 aK n, Hr true aI 3 1 d.4 aL m, Ho true (symRows true 3 d.1 aM aN)])∧((N.4 r) = false→aE = aE∧∃(aG : Nat) (aH : CD) (aI : Nat→Option Addr) (aJ : Nat→Nat) (aK : Nat), (fun aL : Int => (fun aM : Int => (fun aN : Bool => (fun aO : Bool => (fun aP : Value => ((symRows true 3 N af ag) = (symRows true aG aH aI aJ)∧(af r) = (aI aK)∧(N.2 r) = (aH.2 aK)∧aK < aH.1)∧((N.2 r) = 11∧(symB 11 (aH.3 aK) (11 : Int)) = true)∧(aO = true→ah = ah∧(btw aM (0 : Int) (4294967295 : Int)) = true∧∀(aQ : Option Addr) (aR : Nat), (fun aS : Ch => True∧Y = Y∧N.1 = N.1∧X∧Y = Y∧r < N.1∧Y = Y∧r < N.1∧True∧(aN = true→ah = ah∧Y = Y∧N.1 = N.1∧X∧Y = Y∧r < N.1∧Y = Y∧r < N.1∧ah = ah∧I = I∧I = I∧∃(aT aU aV : Option Addr) (aW aX aY : Nat) (aZ : Nat→Option Addr) (a0 : Nat→Nat), aP = (Wu [Wa [Ws aT d.1.1 aW, Ws aU d.2 aX, Ws aV d.4 aY], c, b])∧SelS [z, u, t, s, L, K, J, aq, Hr true Y 61 2 N.1 ab [fun a1 => Cv (if a1 = r then (Ws aQ 11 aR) else (Ws (af a1) (N.2 a1) (ag a1))), fun a1 => Cb (if a1 = r then true else (N.4 a1))], ak, aj, al, ap, aF, aS] [8, 9, 10, 1000003] [Hr true aT 61 2 d.1.1 aW [fun a1 => Cs 3 (aZ a1) (d.1.2 a1) (a0 a1), fun a1 => Cb (d.1.4 a1)], Hr true aU 3 1 d.2 aX n, Hr true aV 3 1 d.4 aY m, Ho true (symRows true 3 d.1 aZ a0)])∧(aN = false→ah = ah∧I = I∧I = I∧∃(aT aU aV : Option Addr) (aW aX aY : Nat) (aZ : Nat→Option Addr) (a0 : Nat→Nat), aP = (Wu [Wa [Ws aT d.1.1 aW, Ws aU d.2 aX, Ws aV d.4 aY], c, b])∧SelS [z, u, t, s, L, K, J, aq, Hr true Y 61 2 N.1 ab [fun a1 => Cv (if a1 = r then (Ws aQ 11 aR) else (Ws (af a1) (N.2 a1) (ag a1))), fun a1 => Cb (N.4 a1)], ak, aj, al, ap, aF, aS] [8, 9, 10, 1000003] [Hr true aT 61 2 d.1.1 aW [fun a1 => Cs 3 (aZ a1) (d.1.2 a1) (a0 a1), fun a1 => Cb (d.1.4 a1)], Hr true aU 3 1 d.2 aX n, Hr true aV 3 1 d.4 aY m, Ho true (symRows true 3 d.1 aZ a0)])) (Hr true aQ 3 1 11 aR [fun aS => Ci (cw aM aS)]))∧(aO = false→(aN = true→ah = ah∧Y = Y∧N.1 = N.1∧X∧Y = Y∧r < N.1∧Y = Y∧r < N.1∧ah = ah∧I = I∧I = I∧∃(aQ aR aS : Option Addr) (aT aU aV : Nat) (aW : Nat→Option Addr) (aX : Nat→Nat), aP = (Wu [Wa [Ws aQ d.1.1 aT, Ws aR d.2 aU, Ws aS d.4 aV], c, b])∧SelS [z, u, t, s, L, K, J, aq, Hr true Y 61 2 N.1 ab [fun aY => Cs 11 (af aY) (N.2 aY) (ag aY), fun aY => Cb (if aY = r then true else (N.4 aY))], ak, aj, al, ap, aF] [8, 9, 10, 11] [Hr true aQ 61 2 d.1.1 aT [fun aY => Cs 3 (aW aY) (d.1.2 aY) (aX aY), fun aY => Cb (d.1.4 aY)], Hr true aR 3 1 d.2 aU n, Hr true aS 3 1 d.4 aV m, Ho true (symRows true 3 d.1 aW aX)])∧(aN = false→ah = ah∧I = I∧I = I∧∃(aQ aR aS : Option Addr) (aT aU aV : Nat) (aW : Nat→Option Addr) (aX : Nat→Nat), aP = (Wu [Wa [Ws aQ d.1.1 aT, Ws aR d.2 aU, Ws aS d.4 aV], c, b])∧SelS [z, u, t, s, L, K, J, aq, au, ak, aj, al, ap, aF] [8, 9, 10, 11] [Hr true aQ 61 2 d.1.1 aT [fun aY => Cs 3 (aW aY) (d.1.2 aY) (aX aY), fun aY => Cb (d.1.4 aY)], Hr true aR 3 1 d.2 aU n, Hr true aS 3 1 d.4 aV m, Ho true (symRows true 3 d.1 aW aX)]))) (Wu [an, Wi aM, Wi aL])) (aL == (1 : Int))) (aL == (2 : Int))) (decX (aH.3 aK))) (corC (aH.3 aK)))) (Hc aE 61 am)))∧(aD = true→av)) (! (arrOk gG gB gR gC (AD.mk ax x.2 aB x.4 aC)))) (ah = ah∧I = I∧I = I∧∃(av aw ax : Option Addr) (ay az aA : Nat) (aB : Nat→Option Addr) (aC : Nat→Nat), ar = (Wu [Wa [Ws av d.1.1 ay, Ws aw d.2 az, Ws ax d.4 aA], c, b])∧SelS [z, u, t, s, L, K, J, aq, au, ak, aj, al, ap] [8, 9, 10, 11] [Hr true av 61 2 d.1.1 ay [fun aD => Cs 3 (aB aD) (d.1.2 aD) (aC aD), fun aD => Cb (d.1.4 aD)], Hr true aw 3 1 d.2 az n, Hr true ax 3 1 d.4 aA m, Ho true (symRows true 3 d.1 aB aC)])) (Hr true Y 61 2 N.1 ab [fun au => Cs 11 (af au) (N.2 au) (ag au), fun au => Cb (N.4 au)])) (Wu [an, Wi 0, Wi 2])) (Hc I 31 ao)) (Hc ah 31 ao)) [Cs 8 Y N.1 ab, Cs 9 Z x.2 ac, Cs 10 aa x.4 ad]) (Wa [Ws Y N.1 ab, Ws Z x.2 ac, Ws aa x.4 ad])) [Cs 11 (af r) (N.2 r) (ag r), U]) (Ho true (symRows true 3 N af ag))) (Hr true Z 3 1 x.2 ac W)) (Hr true aa 3 1 x.4 ad V)) (0 ≤ j∧j < ((N.1 : Nat) : Int))) [fun W => Ci (S W)]) [fun V => Ci (T V)]) (Cb (N.4 r))) (Hc B 25 q)) (Hc F 31 w)) (Hc G 41 k)) (Hr false O 0 2 x.1.1 0 y)) [fun y => Cs 3 (so y) (x.1.2 y) (sc y), fun y => Cb (x.1.4 y)]) [Cs 0 O x.1.1 C, Cs 1 A x.2 D, Cs 2 H x.4 E]) (Hr false A 0 1 x.2 0 h)) (Hr false H 0 1 x.4 0 g)) (Ho false o)) (Int.toNat j)) [Ci gG, Ci gB, Ci gR, Ci gC]) (symRows false 0 x.1 so (fun o => 0))) [fun n => Ci (d.3 n)]) [fun m => Ci (d.5 m)]) (! (adOk gG gB gR gC dB dR dC))) [Ci dB, Ci dR, Ci dC]) (adIx gG gB gR gC dB dR dC)) [fun h => Ci (x.3 h)]) [fun g => Ci (x.5 g)]) (poA x p)) (Wi gx)) (Wi gc)) := by kernel_rfl
theorem gwSP_any (x : AD) (O A H : Option Addr) (C D E : Nat) (so : Nat → Option Addr) (sc : Nat → Nat) (gG gB gR gC : Int) (dB dR dC : Int) (p : Nat → Bool) (gx gc : Int) (w : World) (hA : SeenA w x O A H so sc) (hcap : capA x) (hN : gwOk gG gB gR gC dB dR dC x = false → p = x.c.po ∧ gx = 0 ∧ gc = 2) (hP : gwOk gG gB gR gC dB dR dC x = true → x.c.po (adIx gG gB gR gC dB dR dC).toNat = true → p = x.c.po ∧ gx = 0 ∧ gc = 2) (hQ : gwOk gG gB gR gC dB dR dC x = true → x.c.po (adIx gG gB gR gC dB dR dC).toNat = false → ¬ corC (x.c.sy (adIx gG gB gR gC dB dR dC).toNat) = 1 ∧ gx = decX (x.c.sy (adIx gG gB gR gC dB dR dC).toNat) ∧ gc = corC (x.c.sy (adIx gG gB gR gC dB dR dC).toNat) ∧ (corC (x.c.sy (adIx gG gB gR gC dB dR dC).toNat) = 0 → p = x.c.po) ∧ (corC (x.c.sy (adIx gG gB gR gC dB dR dC).toNat) = 2 → p = fun i => if i = (adIx gG gB gR gC dB dR dC).toNat then true else x.c.po i)) : Calls Try.prog 12 #[.agg #[.int .i64 gG, .int .i64 gB, .int .i64 gR, .int .i64 gC], arrV x O A H C D E, .agg #[.int .i64 dB, .int .i64 dR, .int .i64 dC]] w fun e w' => ∃ (Oq Aq Hq : Option Addr) (Cq Dq Ee : Nat) (soq : Nat → Option Addr) (scq : Nat → Nat), e = .returned (.tuple #[arrV (poA x p) Oq Aq Hq Cq Dq Ee, .int .i64 gx, .int .i64 gc]) ∧ HS ⟨w, fun _ => False⟩ (arrO 0 (poA x p) Oq Aq Hq Cq Dq Ee soq scq) w' := by
  refine fnB (tb := [(18, sCpA), (19, sArrOk), (20, sAdOk), (23, sAdIx), (32, sGet)]) ⟨sCpA_S, sArrOk_S, sAdOk_S, sAdIx_S, sGet_ok, trivial⟩ Try.func12 (@Eq.mpr _ _ (gwSP_T x O A H C D E so sc gG gB gR gC dB dR dC p gx gc) ?_) (HS.seenAll (fun _ => False) _ (hA.all 0 seenC_nil)) (fun v ch' w' ⟨Oq, Aq, Hq, Cq, Dq, Ee, soq, scq, hv, hc⟩ hs => ⟨Oq, Aq, Hq, Cq, Dq, Ee, soq, scq, by rw [hv], hc.hs hs⟩)
  dsimp -zeta -proj -iota -eta -failIfUnchanged (etaStruct := .none) only
  clear hA
  have hl := lenA_of hcap
  cases hok : arrOk gG gB gR gC x
  · obtain ⟨rfl, rfl, rfl⟩ := hN (by simp [gwOk, hok])
    repeat' (first
      | with_reducible exact rfl
      | exact True.intro
      | with_reducible assumption
      | exact hl
      | exact hcap
      | (intro h; exfalso; rw [hok] at h; simp at h; done)
      | exact (by refine ⟨?_, rfl⟩; repeat' (first | exact True.intro | exact symRows_push | exact rfl | refine And.intro ?_ ?_ | (intro i hi; show _ = _; with_reducible rfl) | (intro i hi; show _ = _; rfl) | (intro i hi; show _ = _; simp only [SC.den]; split <;> rfl)))
      | refine And.intro ?_ ?_
      | apply Exists.intro
      | (intro h; exfalso; simp at h; done)
      | (intro h; replace h := of_decide_eq_true h; first | (exfalso; omega) | skip)
      | (intro h; replace h := of_decide_eq_false h; first | (exfalso; omega) | skip)
      | (intro i hi; with_reducible exact rfl)
      | intro _
      | omega
      | exact rfl)
  · cases had : adOk gG gB gR gC dB dR dC
    · obtain ⟨rfl, rfl, rfl⟩ := hN (by simp [gwOk, had])
      repeat' (first
        | with_reducible exact rfl
        | exact True.intro
        | with_reducible assumption
        | exact hl
        | exact hcap
        | (intro h; exfalso; rw [hok] at h; simp at h; done)
        | (intro h; exfalso; rw [had] at h; simp at h; done)
        | exact (by refine ⟨?_, rfl⟩; repeat' (first | exact True.intro | exact symRows_push | exact rfl | refine And.intro ?_ ?_ | (intro i hi; show _ = _; with_reducible rfl) | (intro i hi; show _ = _; rfl) | (intro i hi; show _ = _; simp only [SC.den]; split <;> rfl)))
        | refine And.intro ?_ ?_
        | apply Exists.intro
        | (intro h; exfalso; simp at h; done)
        | (intro h; replace h := of_decide_eq_true h; first | (exfalso; omega) | skip)
        | (intro h; replace h := of_decide_eq_false h; first | (exfalso; omega) | skip)
        | (intro i hi; with_reducible exact rfl)
        | intro _
        | omega
        | exact rfl)
    · have hin := arr_in hok had
      have hi1 := hin.1
      have hi2 := hin.2.1
      have hi3 : ltN (tn (adIx gG gB gR gC dB dR dC)) x.c.n := hin.2.2
      have hsy : symB (x.c.sn (adIx gG gB gR gC dB dR dC).toNat) (x.c.sy (adIx gG gB gR gC dB dR dC).toNat) 11 = true := (arrOk_facts hok).2.2.2.2 _ hi3
      have hn11 : x.c.sn (adIx gG gB gR gC dB dR dC).toNat = 11 := by have := symB_n hsy; omega
      have hs11 : symB 11 (x.c.sy (adIx gG gB gR gC dB dR dC).toNat) 11 = true := by rw [hn11] at hsy; exact hsy
      have hel := symB_el hs11
      have hcp := hcap.2.2.2 _ hi3
      have hokk : gwOk gG gB gR gC dB dR dC x = true := by simp [gwOk, hok, had]
      cases hpo : x.c.po (adIx gG gB gR gC dB dR dC).toNat
      · obtain ⟨c1, rfl, rfl, c0, c2⟩ := hQ hokk hpo
        have b1 : (corC (x.c.sy (adIx gG gB gR gC dB dR dC).toNat) == 1) = false := by simpa using c1
        rcases corC_cases (x.c.sy (adIx gG gB gR gC dB dR dC).toNat) with e | e | e
        · obtain rfl := c0 e
          have b2 : (corC (x.c.sy (adIx gG gB gR gC dB dR dC).toNat) == 2) = false := by rw [e]; rfl
          repeat' (first
            | with_reducible exact rfl
            | exact True.intro
            | with_reducible assumption
            | exact hl
            | exact hcap
            | with_reducible exact hs11
            | with_reducible exact hn11
            | (intro h; exfalso; rw [hok] at h; simp at h; done)
            | (intro h; exfalso; rw [had] at h; simp at h; done)
            | (intro h; exfalso; rw [b1] at h; simp at h; done)
            | (intro h; exfalso; rw [b2] at h; simp at h; done)
            | (intro h; exfalso; rw [hpo] at h; cases h; done)
            | (refine ⟨_, _, _, _, _, ⟨rfl, rfl, rfl, ?_⟩, ?_⟩)
            | exact (by refine ⟨?_, rfl⟩; repeat' (first | exact True.intro | exact symRows_push | exact rfl | refine And.intro ?_ ?_ | (intro i hi; show _ = _; with_reducible rfl) | (intro i hi; show _ = _; rfl) | (intro i hi; show _ = _; simp only [SC.den]; split <;> rfl)))
            | refine And.intro ?_ ?_
            | apply Exists.intro
            | (intro h; exfalso; simp at h; done)
            | (intro h; replace h := of_decide_eq_true h; first | (exfalso; omega) | skip)
            | (intro h; replace h := of_decide_eq_false h; first | (exfalso; omega) | skip)
            | (intro i hi; with_reducible exact rfl)
            | intro _
            | omega
            | exact rfl)
        · exact absurd e c1
        · obtain rfl := c2 e
          have b2 : (corC (x.c.sy (adIx gG gB gR gC dB dR dC).toNat) == 2) = true := by rw [e]; rfl
          repeat' (first
            | with_reducible exact rfl
            | exact True.intro
            | with_reducible assumption
            | exact hl
            | exact hcap
            | with_reducible exact hs11
            | with_reducible exact hn11
            | (intro h; exfalso; rw [hok] at h; simp at h; done)
            | (intro h; exfalso; rw [had] at h; simp at h; done)
            | (intro h; exfalso; rw [b1] at h; simp at h; done)
            | (intro h; exfalso; rw [b2] at h; simp at h; done)
            | (intro h; exfalso; rw [hpo] at h; cases h; done)
            | (refine ⟨_, _, _, _, _, ⟨rfl, rfl, rfl, ?_⟩, ?_⟩)
            | exact (by refine ⟨?_, rfl⟩; repeat' (first | exact True.intro | exact symRows_push | exact rfl | refine And.intro ?_ ?_ | (intro i hi; show _ = _; with_reducible rfl) | (intro i hi; show _ = _; rfl) | (intro i hi; show _ = _; simp only [SC.den]; split <;> rfl)))
            | refine And.intro ?_ ?_
            | apply Exists.intro
            | (intro h; exfalso; simp at h; done)
            | (intro h; replace h := of_decide_eq_true h; first | (exfalso; omega) | skip)
            | (intro h; replace h := of_decide_eq_false h; first | (exfalso; omega) | skip)
            | (intro i hi; with_reducible exact rfl)
            | intro _
            | omega
            | exact rfl)
      · obtain ⟨rfl, rfl, rfl⟩ := hP hokk hpo
        repeat' (first
          | with_reducible exact rfl
          | exact True.intro
          | with_reducible assumption
          | exact hl
          | exact hcap
          | with_reducible exact hs11
          | with_reducible exact hn11
          | (intro h; exfalso; rw [hok] at h; simp at h; done)
          | (intro h; exfalso; rw [had] at h; simp at h; done)
          | (intro h; exfalso; rw [hpo] at h; cases h; done)
          | (refine ⟨_, _, _, _, _, ⟨rfl, rfl, rfl, ?_⟩, ?_⟩)
          | exact (by refine ⟨?_, rfl⟩; repeat' (first | exact True.intro | exact symRows_push | exact rfl | refine And.intro ?_ ?_ | (intro i hi; show _ = _; with_reducible rfl) | (intro i hi; show _ = _; rfl) | (intro i hi; show _ = _; simp only [SC.den]; split <;> rfl)))
          | refine And.intro ?_ ?_
          | apply Exists.intro
          | (intro h; exfalso; simp at h; done)
          | (intro h; replace h := of_decide_eq_true h; first | (exfalso; omega) | skip)
          | (intro h; replace h := of_decide_eq_false h; first | (exfalso; omega) | skip)
          | (intro i hi; with_reducible exact rfl)
          | intro _
          | omega
          | exact rfl)
theorem gwSF_T (x : AD) (O A H : Option Addr) (C D E : Nat) (so : Nat → Option Addr) (sc : Nat → Nat) (gG gB gR gC : Int) (dB dR dC : Int) : (exFn Try.prog {tb := [(18, sCpA), (19, sArrOk), (20, sAdOk), (23, sAdIx), (32, sGet)]} 400 Try.f12 ([.a (.agg [.int gG, .int gB, .int gR, .int gC]), .a (arrS 0 x O A H C D E), .a (.agg [.int dB, .int dR, .int dC])]) (arrR 0 x O A H so sc) (fun v ch => ∃ (Oq Aq Hq : Option Addr) (Cq Dq Ee : Nat) (soq : Nat → Option Addr) (scq : Nat → Nat) (ro : Option Addr) (rc : Nat), v.den = .tuple #[arrV x Oq Aq Hq Cq Dq Ee, .int .i64 (decX (x.c.sy (ixN gG gB gR gC dB dR dC))), .int .i64 1] ∧ SelS ch (idsSt v ch) (storedCh x (ixN gG gB gR gC dB dR dC) 11 (fun i => corW (x.c.sy (ixN gG gB gR gC dB dR dC)) i) (x.c.po (ixN gG gB gR gC dB dR dC)) Oq Aq Hq Cq Dq Ee soq scq ro rc))) = (
  (fun b : List (Nat→SC) => (fun d : List (Nat→SC) => (fun g : Nat => (fun h : Int => (fun j : List SC => (fun k : Bool => (fun l : List Row => (fun m : List SC => (fun n : Nat => (fun o : Ch => (fun p : Value => (fun q : Ch => (fun r : Ch => (fun s : List SC => (fun t : List (Nat→SC) => (fun u : List (Nat→SC) => (fun w : Ch => ∀ y z B F : Nat, (fun G : Ch => (fun I : Ch => (fun J : Ch => z = z∧∃(K : Nat) (L : CD) (M : Nat→Option Addr) (N P : Nat→Nat) (Q R : Nat→Int), (fun S : SC => (fun T : List (Nat→SC) => (fun U : List (Nat→SC) => (fun V : Prop => (l = (symRows false K L M P)∧u = [fun W => Cs 3 (M W) (L.2 W) (N W), fun W => Cb (L.4 W)]∧O = O∧x.1.1 = x.1.1∧x.1.1 = L.1∧A = A∧x.2 = x.2∧d = U∧H = H∧x.4 = x.4∧b = T)∧capA (AD.mk L x.2 Q x.4 R)∧∀(W X Y : Option Addr) (Z aa ab : Nat) (ac : Nat→Option Addr) (ad : Nat→Nat) (af : Nat), (fun ag : Ch => (fun ah : Ch => (fun aj : Ch => (fun ak : List SC => (fun al : Value => (fun am : List SC => (fun an : Ch => (fun ao : Ch => (fun ap : Value => (fun aq : Ch => (fun ar : Prop => af = af∧y = y∧z = z∧∃(au : Nat) (av : CD) (aw : Nat→Option Addr) (ax ay : Nat→Nat) (az aA : Nat→Int), (fun aB : Bool => (l = (symRows false au av aw ay)∧u = [fun aC => Cs 3 (aw aC) (av.2 aC) (ax aC), fun aC => Cb (av.4 aC)]∧O = O∧x.1.1 = x.1.1∧x.1.1 = av.1∧A = A∧x.2 = x.2∧d = [fun aC => Ci (az aC)]∧H = H∧x.4 = x.4∧b = [fun aC => Ci (aA aC)])∧lenA (AD.mk av x.2 az x.4 aA)∧(aB = false→y = y∧B = B∧(k = true→ar)∧(k = false→y = y∧B = B∧af = af∧W = W∧L.1 = L.1∧V∧W = W∧n < L.1∧∀ aC : Nat, (fun aD : Ch => aC = aC∧aC = aC∧((L.4 n) = true→af = af∧F = F∧F = F∧∃(aE aF aG : Option Addr) (aH aI aJ : Nat) (aK : Nat→Option Addr) (aL : Nat→Nat) (aM : Option Addr) (aN : Nat), ap = (Wu [Wa [Ws aE x.1.1 aH, Ws aF x.2 aI, Ws aG x.4 aJ], p, Wi 1])∧SelS [w, r, q, o, J, I, G, ao, aq, ah, ag, aj, an, aD] [8, 9, 10, 11, 13] [Hr true aE 61 2 x.1.1 aH [fun aO => Cv (if aO = g then (Ws aM 11 aN) else (Ws (aK aO) (x.1.2 aO) (aL aO))), fun aO => Cb (if aO = g then (x.1.4 g) else (x.1.4 aO))], Hr true aF 3 1 x.2 aI d, Hr true aG 3 1 x.4 aJ b, Ho true (symRows true 3 x.1 aK aL), Hr true aM 3 1 11 aN t])∧((L.4 n) = false→aC = aC∧∃(aE : Nat) (aF : CD) (aG : Nat→Option Addr) (aH : Nat→Nat) (aI : Nat), (fun aJ : Int => (fun aK : Int => (fun aL : Bool => (fun aM : Bool => (fun aN : Value => ((symRows true 3 L ac ad) = (symRows true aE aF aG aH)∧(ac n) = (aG aI)∧(L.2 n) = (aF.2 aI)∧aI < aF.1)∧((L.2 n) = 11∧(symB 11 (aF.3 aI) (11 : Int)) = true)∧(aM = true→af = af∧(btw aK (0 : Int) (4294967295 : Int)) = true∧∀(aO : Option Addr) (aP : Nat), (fun aQ : Ch => True∧W = W∧L.1 = L.1∧V∧W = W∧n < L.1∧W = W∧n < L.1∧True∧(aL = true→af = af∧W = W∧L.1 = L.1∧V∧W = W∧n < L.1∧W = W∧n < L.1∧af = af∧F = F∧F = F∧∃(aR aS aT : Option Addr) (aU aV aW : Nat) (aX : Nat→Option Addr) (aY : Nat→Nat) (aZ : Option Addr) (a0 : Nat), aN = (Wu [Wa [Ws aR x.1.1 aU, Ws aS x.2 aV, Ws aT x.4 aW], p, Wi 1])∧SelS [w, r, q, o, J, I, G, ao, Hr true W 61 2 L.1 Z [fun a1 => Cv (if a1 = n then (Ws aO 11 aP) else (Ws (ac a1) (L.2 a1) (ad a1))), fun a1 => Cb (if a1 = n then true else (L.4 a1))], ah, ag, aj, an, aD, aQ] [8, 9, 10, 11, 14] [Hr true aR 61 2 x.1.1 aU [fun a1 => Cv (if a1 = g then (Ws aZ 11 a0) else (Ws (aX a1) (x.1.2 a1) (aY a1))), fun a1 => Cb (if a1 = g then (x.1.4 g) else (x.1.4 a1))], Hr true aS 3 1 x.2 aV d, Hr true aT 3 1 x.4 aW b, Ho true (symRows true 3 x.1 aX aY), Hr true aZ 3 1 11 a0 t])∧(aL = false→af = af∧F = F∧F = F∧∃(aR aS aT : Option Addr) (aU aV aW : Nat) (aX : Nat→Option Addr) (aY : Nat→Nat) (aZ : Option Addr) (a0 : Nat), aN = (Wu [Wa [Ws aR x.1.1 aU, Ws aS x.2 aV, Ws aT x.4 aW], p, Wi 1])∧SelS [w, r, q, o, J, I, G, ao, Hr true W 61 2 L.1 Z [fun a1 => Cv (if a1 = n then (Ws aO 11 aP) else (Ws (ac a1) (L.2 a1) (ad a1))), fun a1 => Cb (L.4 a1)], ah, ag, aj, an, aD, aQ] [8, 9, 10, 11, 14] [Hr true aR 61 2 x.1.1 aU [fun a1 => Cv (if a1 = g then (Ws aZ 11 a0) else (Ws (aX a1) (x.1.2 a1) (aY a1))), fun a1 => Cb (if a1 = g then (x.1.4 g) else (x.1.4 a1))], Hr true aS 3 1 x.2 aV d, Hr true aT 3 1 x.4 aW b, Ho true (symRows true 3 x.1 aX aY), Hr true aZ 3 1 11 a0 t])) (Hr true aO 3 1 11 aP [fun aQ => Ci (cw aK aQ)]))∧(aM = false→(aL = true→af = af∧W = W∧L.1 = L.1∧V∧W = W∧n < L.1∧W = W∧n < L.1∧af = af∧F = F∧F = F∧∃(aO aP aQ : Option Addr) (aR aS aT : Nat) (aU : Nat→Option Addr) (aV : Nat→Nat) (aW : Option Addr) (aX : Nat), aN = (Wu [Wa [Ws aO x.1.1 aR, Ws aP x.2 aS, Ws aQ x.4 aT], p, Wi 1])∧SelS [w, r, q, o, J, I, G, ao, Hr true W 61 2 L.1 Z [fun aY => Cs 11 (ac aY) (L.2 aY) (ad aY), fun aY => Cb (if aY = n then true else (L.4 aY))], ah, ag, aj, an, aD] [8, 9, 10, 11, 13] [Hr true aO 61 2 x.1.1 aR [fun aY => Cv (if aY = g then (Ws aW 11 aX) else (Ws (aU aY) (x.1.2 aY) (aV aY))), fun aY => Cb (if aY = g then (x.1.4 g) else (x.1.4 aY))], Hr true aP 3 1 x.2 aS d, Hr true aQ 3 1 x.4 aT b, Ho true (symRows true 3 x.1 aU aV), Hr true aW 3 1 11 aX t])∧(aL = false→af = af∧F = F∧F = F∧∃(aO aP aQ : Option Addr) (aR aS aT : Nat) (aU : Nat→Option Addr) (aV : Nat→Nat) (aW : Option Addr) (aX : Nat), aN = (Wu [Wa [Ws aO x.1.1 aR, Ws aP x.2 aS, Ws aQ x.4 aT], p, Wi 1])∧SelS [w, r, q, o, J, I, G, ao, aq, ah, ag, aj, an, aD] [8, 9, 10, 11, 13] [Hr true aO 61 2 x.1.1 aR [fun aY => Cv (if aY = g then (Ws aW 11 aX) else (Ws (aU aY) (x.1.2 aY) (aV aY))), fun aY => Cb (if aY = g then (x.1.4 g) else (x.1.4 aY))], Hr true aP 3 1 x.2 aS d, Hr true aQ 3 1 x.4 aT b, Ho true (symRows true 3 x.1 aU aV), Hr true aW 3 1 11 aX t]))) (Wu [al, Wi aK, Wi aJ])) (aJ == (1 : Int))) (aJ == (2 : Int))) (decX (aF.3 aI))) (corC (aF.3 aI)))) (Hc aC 61 ak)))∧(aB = true→ar)) (! (arrOk gG gB gR gC (AD.mk av x.2 az x.4 aA)))) (af = af∧F = F∧F = F∧∃(ar au av : Option Addr) (aw ax ay : Nat) (az : Nat→Option Addr) (aA : Nat→Nat) (aB : Option Addr) (aC : Nat), ap = (Wu [Wa [Ws ar x.1.1 aw, Ws au x.2 ax, Ws av x.4 ay], p, Wi 1])∧SelS [w, r, q, o, J, I, G, ao, aq, ah, ag, aj, an] [8, 9, 10, 11, 12] [Hr true ar 61 2 x.1.1 aw [fun aD => Cv (if aD = g then (Ws aB 11 aC) else (Ws (az aD) (x.1.2 aD) (aA aD))), fun aD => Cb (if aD = g then (x.1.4 g) else (x.1.4 aD))], Hr true au 3 1 x.2 ax d, Hr true av 3 1 x.4 ay b, Ho true (symRows true 3 x.1 az aA), Hr true aB 3 1 11 aC t])) (Hr true W 61 2 L.1 Z [fun aq => Cs 11 (ac aq) (L.2 aq) (ad aq), fun aq => Cb (L.4 aq)])) (Wu [al, Wi 0, Wi 2])) (Hc F 31 am)) (Hc af 31 am)) [Cs 8 W L.1 Z, Cs 9 X x.2 aa, Cs 10 Y x.4 ab]) (Wa [Ws W L.1 Z, Ws X x.2 aa, Ws Y x.4 ab])) [Cs 11 (ac n) (L.2 n) (ad n), S]) (Ho true (symRows true 3 L ac ad))) (Hr true X 3 1 x.2 aa U)) (Hr true Y 3 1 x.4 ab T)) (0 ≤ h∧h < ((L.1 : Nat) : Int))) [fun U => Ci (Q U)]) [fun T => Ci (R T)]) (Cb (L.4 n))) (Hc y 25 m)) (Hc z 31 s)) (Hc B 41 j)) (Hr false O 0 2 x.1.1 0 u)) [fun u => Cs 3 (so u) (x.1.2 u) (sc u), fun u => Cb (x.1.4 u)]) [fun t => Ci (corW (x.1.3 g) t)]) [Cs 0 O x.1.1 C, Cs 1 A x.2 D, Cs 2 H x.4 E]) (Hr false A 0 1 x.2 0 d)) (Hr false H 0 1 x.4 0 b)) (Wi (decX (x.1.3 g)))) (Ho false l)) (Int.toNat h)) [Ci gG, Ci gB, Ci gR, Ci gC]) (symRows false 0 x.1 so (fun l => 0))) (! (adOk gG gB gR gC dB dR dC))) [Ci dB, Ci dR, Ci dC]) (adIx gG gB gR gC dB dR dC)) (ixN gG gB gR gC dB dR dC)) [fun d => Ci (x.3 d)]) [fun b => Ci (x.5 b)]) := by kernel_rfl
theorem gwSF_any (x : AD) (O A H : Option Addr) (C D E : Nat) (so : Nat → Option Addr) (sc : Nat → Nat) (gG gB gR gC : Int) (dB dR dC : Int) (w : World) (hA : SeenA w x O A H so sc) (hcap : capA x) (hokk : gwOk gG gB gR gC dB dR dC x = true) (hpo : x.c.po (adIx gG gB gR gC dB dR dC).toNat = false) (hc1 : corC (x.c.sy (adIx gG gB gR gC dB dR dC).toNat) = 1) : Calls Try.prog 12 #[.agg #[.int .i64 gG, .int .i64 gB, .int .i64 gR, .int .i64 gC], arrV x O A H C D E, .agg #[.int .i64 dB, .int .i64 dR, .int .i64 dC]] w fun e w' => ∃ (Oq Aq Hq : Option Addr) (Cq Dq Ee : Nat) (soq : Nat → Option Addr) (scq : Nat → Nat), e = .returned (.tuple #[arrV (setA x (ixN gG gB gR gC dB dR dC) 11 (fun i => corW (x.c.sy (ixN gG gB gR gC dB dR dC)) i) (x.c.po (ixN gG gB gR gC dB dR dC))) Oq Aq Hq Cq Dq Ee, .int .i64 (decX (x.c.sy (ixN gG gB gR gC dB dR dC))), .int .i64 1]) ∧ HS ⟨w, fun _ => False⟩ (arrO 0 (setA x (ixN gG gB gR gC dB dR dC) 11 (fun i => corW (x.c.sy (ixN gG gB gR gC dB dR dC)) i) (x.c.po (ixN gG gB gR gC dB dR dC))) Oq Aq Hq Cq Dq Ee soq scq) w' := by
  refine fnB (tb := [(18, sCpA), (19, sArrOk), (20, sAdOk), (23, sAdIx), (32, sGet)]) ⟨sCpA_S, sArrOk_S, sAdOk_S, sAdIx_S, sGet_ok, trivial⟩ Try.func12 (@Eq.mpr _ _ (gwSF_T x O A H C D E so sc gG gB gR gC dB dR dC) ?_) (HS.seenAll (fun _ => False) _ (hA.all 0 seenC_nil)) (fun v ch' w' ⟨Oq, Aq, Hq, Cq, Dq, Ee, soq, scq, ro, rc, hv, hc⟩ hs => ⟨Oq, Aq, Hq, Cq, Dq, Ee, _, _, by rw [hv]; rfl, (hc.hs hs).stored⟩)
  dsimp -zeta -proj -iota -eta -failIfUnchanged (etaStruct := .none) only
  clear hA
  have hl := lenA_of hcap
  have hok : arrOk gG gB gR gC x = true := by simp only [gwOk, Bool.and_eq_true] at hokk; exact hokk.1
  have had : adOk gG gB gR gC dB dR dC = true := by simp only [gwOk, Bool.and_eq_true] at hokk; exact hokk.2
  have hin := arr_in hok had
  have hi1 := hin.1
  have hi2 := hin.2.1
  have hi3 : ltN (tn (adIx gG gB gR gC dB dR dC)) x.c.n := hin.2.2
  have hsy : symB (x.c.sn (adIx gG gB gR gC dB dR dC).toNat) (x.c.sy (adIx gG gB gR gC dB dR dC).toNat) 11 = true := (arrOk_facts hok).2.2.2.2 _ hi3
  have hn11 : x.c.sn (adIx gG gB gR gC dB dR dC).toNat = 11 := by have := symB_n hsy; omega
  have hs11 : symB 11 (x.c.sy (adIx gG gB gR gC dB dR dC).toNat) 11 = true := by rw [hn11] at hsy; exact hsy
  have hel := symB_el hs11
  have hcp := hcap.2.2.2 _ hi3
  have b1 : (corC (x.c.sy (adIx gG gB gR gC dB dR dC).toNat) == 1) = true := by rw [hc1]; rfl
  have b2 : (corC (x.c.sy (adIx gG gB gR gC dB dR dC).toNat) == 2) = false := by rw [hc1]; rfl
  have hdw := dec_word hel hc1
  have hcw : ∀ i, i < 11 → cw (decX (x.c.sy (adIx gG gB gR gC dB dR dC).toNat)) i = corW (x.c.sy (adIx gG gB gR gC dB dR dC).toNat) i := fun i hi => dec_cw hel hc1 hi
  repeat' (first
    | with_reducible exact rfl
    | exact True.intro
    | with_reducible assumption
    | exact hl
    | exact hcap
    | with_reducible exact hs11
    | with_reducible exact hn11
    | (intro h; exfalso; rw [hok] at h; simp at h; done)
    | (intro h; exfalso; rw [had] at h; simp at h; done)
    | (intro h; exfalso; rw [b1] at h; simp at h; done)
    | (intro h; exfalso; rw [b2] at h; simp at h; done)
    | (intro h; exfalso; rw [hpo] at h; cases h; done)
    | (refine ⟨_, _, _, _, _, ⟨rfl, rfl, rfl, ?_⟩, ?_⟩)
    | with_reducible exact hdw
    | (show (_ : Value) = _; rw [hc1]; try with_reducible rfl)
    | exact (by refine ⟨?_, rfl⟩; repeat' (first | exact True.intro | exact symRows_push | exact rfl | refine And.intro ?_ ?_ | (intro i hi; show _ = _; with_reducible rfl) | (intro i hi; show _ = _; rfl) | (intro i hi; exact congrArg (fun z => Value.int .i64 z) (hcw i hi)) | (intro i hi; simp only [SC.den, selB]; split <;> simp_all) | (intro i hi; show _ = _; simp only [SC.den]; split <;> rfl)))
    | refine And.intro ?_ ?_
    | apply Exists.intro
    | (intro h; exfalso; simp at h; done)
    | (intro h; replace h := of_decide_eq_true h; first | (exfalso; omega) | skip)
    | (intro h; replace h := of_decide_eq_false h; first | (exfalso; omega) | skip)
    | (intro i hi; with_reducible exact rfl)
    | intro _
    | omega
    | exact rfl)
theorem gwI_all (x : AD) (O A H : Option Addr) (C D E : Nat) (so : Nat → Option Addr) (sc : Nat → Nat) (gG gB gR gC : Int) (dB dR dC : Int) (w : World) (hA : SeenA w x O A H so sc) (hcap : capA x) : Calls Try.prog 31 #[.agg #[.int .i64 gG, .int .i64 gB, .int .i64 gR, .int .i64 gC], arrV x O A H C D E, .agg #[.int .i64 dB, .int .i64 dR, .int .i64 dC]] w fun e w' => ∃ (Oq Aq Hq : Option Addr) (Cq Dq Ee : Nat) (soq : Nat → Option Addr) (scq : Nat → Nat), e = .returned (.tuple #[arrV (gwA gG gB gR gC dB dR dC x) Oq Aq Hq Cq Dq Ee, .int .i64 (gwX gG gB gR gC dB dR dC x), .int .i64 (gwC gG gB gR gC dB dR dC x)]) ∧ HS ⟨w, fun _ => False⟩ (arrO 0 (gwA gG gB gR gC dB dR dC x) Oq Aq Hq Cq Dq Ee soq scq) w' := by
  cases hokk : gwOk gG gB gR gC dB dR dC x
  · have e1 : (gwA gG gB gR gC dB dR dC x) = poA x x.c.po := by simp [gwA, hokk, poA]
    have e2 : gwX gG gB gR gC dB dR dC x = 0 := by simp [gwX, hokk]
    have e3 : gwC gG gB gR gC dB dR dC x = 2 := by simp [gwC, hokk]
    rw [e1, e2, e3]
    exact gwIP_any x O A H C D E so sc gG gB gR gC dB dR dC x.c.po 0 2 w hA hcap (fun _ => ⟨rfl, rfl, rfl⟩) (fun h => by rw [hokk] at h; cases h) (fun h => by rw [hokk] at h; cases h)
  · cases hpo : x.c.po (adIx gG gB gR gC dB dR dC).toNat
    · have hpo' : x.c.po (ixN gG gB gR gC dB dR dC) = false := hpo
      by_cases hc1 : corC (x.c.sy (adIx gG gB gR gC dB dR dC).toNat) = 1
      · have hc1' : corC (x.c.sy (ixN gG gB gR gC dB dR dC)) = 1 := hc1
        have e1 : (gwA gG gB gR gC dB dR dC x) = setA x (ixN gG gB gR gC dB dR dC) 11 (fun i => corW (x.c.sy (ixN gG gB gR gC dB dR dC)) i) (x.c.po (ixN gG gB gR gC dB dR dC)) := by simp [gwA, hokk, getN, hpo', hc1']
        have e2 : gwX gG gB gR gC dB dR dC x = decX (x.c.sy (ixN gG gB gR gC dB dR dC)) := by simp [gwX, hokk, getX, hpo']
        have e3 : gwC gG gB gR gC dB dR dC x = 1 := by simp [gwC, hokk, getC, hpo', hc1']
        rw [e1, e2, e3]
        exact gwIF_any x O A H C D E so sc gG gB gR gC dB dR dC w hA hcap hokk hpo hc1
      · have hc1' : ¬ corC (x.c.sy (ixN gG gB gR gC dB dR dC)) = 1 := hc1
        have e2 : gwX gG gB gR gC dB dR dC x = decX (x.c.sy (ixN gG gB gR gC dB dR dC)) := by simp [gwX, hokk, getX, hpo']
        have e3 : gwC gG gB gR gC dB dR dC x = corC (x.c.sy (ixN gG gB gR gC dB dR dC)) := by simp [gwC, hokk, getC, hpo']
        rw [e2, e3]
        by_cases hc2 : corC (x.c.sy (ixN gG gB gR gC dB dR dC)) = 2
        · have e1 : (gwA gG gB gR gC dB dR dC x) = poA x (fun i => if i = (ixN gG gB gR gC dB dR dC) then true else x.c.po i) := by simp [gwA, hokk, getN, hpo', hc2]
          rw [e1]
          exact gwIP_any x O A H C D E so sc gG gB gR gC dB dR dC _ _ _ w hA hcap (fun h => by rw [hokk] at h; cases h) (fun _ h => by rw [hpo] at h; cases h) (fun _ _ => ⟨hc1, rfl, rfl, fun h => absurd (hc2.symm.trans h) (by decide), fun _ => rfl⟩)
        · have e1 : (gwA gG gB gR gC dB dR dC x) = poA x x.c.po := by simp [gwA, hokk, getN, hpo', hc1', hc2, poA]
          rw [e1]
          exact gwIP_any x O A H C D E so sc gG gB gR gC dB dR dC _ _ _ w hA hcap (fun h => by rw [hokk] at h; cases h) (fun _ h => by rw [hpo] at h; cases h) (fun _ _ => ⟨hc1, rfl, rfl, fun _ => rfl, fun h => absurd h hc2⟩)
    · have hpo' : x.c.po (ixN gG gB gR gC dB dR dC) = true := hpo
      have e1 : (gwA gG gB gR gC dB dR dC x) = poA x x.c.po := by simp [gwA, hokk, getN, hpo', poA]
      have e2 : gwX gG gB gR gC dB dR dC x = 0 := by simp [gwX, hokk, getX, hpo']
      have e3 : gwC gG gB gR gC dB dR dC x = 2 := by simp [gwC, hokk, getC, hpo']
      rw [e1, e2, e3]
      exact gwIP_any x O A H C D E so sc gG gB gR gC dB dR dC x.c.po 0 2 w hA hcap (fun h => by rw [hokk] at h; cases h) (fun _ _ => ⟨rfl, rfl, rfl⟩) (fun _ h => by rw [hpo] at h; cases h)
theorem gwS_all (x : AD) (O A H : Option Addr) (C D E : Nat) (so : Nat → Option Addr) (sc : Nat → Nat) (gG gB gR gC : Int) (dB dR dC : Int) (w : World) (hA : SeenA w x O A H so sc) (hcap : capA x) : Calls Try.prog 12 #[.agg #[.int .i64 gG, .int .i64 gB, .int .i64 gR, .int .i64 gC], arrV x O A H C D E, .agg #[.int .i64 dB, .int .i64 dR, .int .i64 dC]] w fun e w' => ∃ (Oq Aq Hq : Option Addr) (Cq Dq Ee : Nat) (soq : Nat → Option Addr) (scq : Nat → Nat), e = .returned (.tuple #[arrV (gwA gG gB gR gC dB dR dC x) Oq Aq Hq Cq Dq Ee, .int .i64 (gwX gG gB gR gC dB dR dC x), .int .i64 (gwC gG gB gR gC dB dR dC x)]) ∧ HS ⟨w, fun _ => False⟩ (arrO 0 (gwA gG gB gR gC dB dR dC x) Oq Aq Hq Cq Dq Ee soq scq) w' := by
  cases hokk : gwOk gG gB gR gC dB dR dC x
  · have e1 : (gwA gG gB gR gC dB dR dC x) = poA x x.c.po := by simp [gwA, hokk, poA]
    have e2 : gwX gG gB gR gC dB dR dC x = 0 := by simp [gwX, hokk]
    have e3 : gwC gG gB gR gC dB dR dC x = 2 := by simp [gwC, hokk]
    rw [e1, e2, e3]
    exact gwSP_any x O A H C D E so sc gG gB gR gC dB dR dC x.c.po 0 2 w hA hcap (fun _ => ⟨rfl, rfl, rfl⟩) (fun h => by rw [hokk] at h; cases h) (fun h => by rw [hokk] at h; cases h)
  · cases hpo : x.c.po (adIx gG gB gR gC dB dR dC).toNat
    · have hpo' : x.c.po (ixN gG gB gR gC dB dR dC) = false := hpo
      by_cases hc1 : corC (x.c.sy (adIx gG gB gR gC dB dR dC).toNat) = 1
      · have hc1' : corC (x.c.sy (ixN gG gB gR gC dB dR dC)) = 1 := hc1
        have e1 : (gwA gG gB gR gC dB dR dC x) = setA x (ixN gG gB gR gC dB dR dC) 11 (fun i => corW (x.c.sy (ixN gG gB gR gC dB dR dC)) i) (x.c.po (ixN gG gB gR gC dB dR dC)) := by simp [gwA, hokk, getN, hpo', hc1']
        have e2 : gwX gG gB gR gC dB dR dC x = decX (x.c.sy (ixN gG gB gR gC dB dR dC)) := by simp [gwX, hokk, getX, hpo']
        have e3 : gwC gG gB gR gC dB dR dC x = 1 := by simp [gwC, hokk, getC, hpo', hc1']
        rw [e1, e2, e3]
        exact gwSF_any x O A H C D E so sc gG gB gR gC dB dR dC w hA hcap hokk hpo hc1
      · have hc1' : ¬ corC (x.c.sy (ixN gG gB gR gC dB dR dC)) = 1 := hc1
        have e2 : gwX gG gB gR gC dB dR dC x = decX (x.c.sy (ixN gG gB gR gC dB dR dC)) := by simp [gwX, hokk, getX, hpo']
        have e3 : gwC gG gB gR gC dB dR dC x = corC (x.c.sy (ixN gG gB gR gC dB dR dC)) := by simp [gwC, hokk, getC, hpo']
        rw [e2, e3]
        by_cases hc2 : corC (x.c.sy (ixN gG gB gR gC dB dR dC)) = 2
        · have e1 : (gwA gG gB gR gC dB dR dC x) = poA x (fun i => if i = (ixN gG gB gR gC dB dR dC) then true else x.c.po i) := by simp [gwA, hokk, getN, hpo', hc2]
          rw [e1]
          exact gwSP_any x O A H C D E so sc gG gB gR gC dB dR dC _ _ _ w hA hcap (fun h => by rw [hokk] at h; cases h) (fun _ h => by rw [hpo] at h; cases h) (fun _ _ => ⟨hc1, rfl, rfl, fun h => absurd (hc2.symm.trans h) (by decide), fun _ => rfl⟩)
        · have e1 : (gwA gG gB gR gC dB dR dC x) = poA x x.c.po := by simp [gwA, hokk, getN, hpo', hc1', hc2, poA]
          rw [e1]
          exact gwSP_any x O A H C D E so sc gG gB gR gC dB dR dC _ _ _ w hA hcap (fun h => by rw [hokk] at h; cases h) (fun _ h => by rw [hpo] at h; cases h) (fun _ _ => ⟨hc1, rfl, rfl, fun _ => rfl, fun h => absurd h hc2⟩)
    · have hpo' : x.c.po (ixN gG gB gR gC dB dR dC) = true := hpo
      have e1 : (gwA gG gB gR gC dB dR dC x) = poA x x.c.po := by simp [gwA, hokk, getN, hpo', poA]
      have e2 : gwX gG gB gR gC dB dR dC x = 0 := by simp [gwX, hokk, getX, hpo']
      have e3 : gwC gG gB gR gC dB dR dC x = 2 := by simp [gwC, hokk, getC, hpo']
      rw [e1, e2, e3]
      exact gwSP_any x O A H C D E so sc gG gB gR gC dB dR dC x.c.po 0 2 w hA hcap (fun h => by rw [hokk] at h; cases h) (fun _ _ => ⟨rfl, rfl, rfl⟩) (fun _ h => by rw [hpo] at h; cases h)
end Go.Proofs.Ytmgjmglmjfjliab

/-
  Lines scrubbed.
-/
import Derived.Test.YtmgjmglmjfjliaaSxM6
namespace Go.Proofs.Ytmgjmglmjfjliaa
set_option linter.unusedVariables false
set_option linter.unusedSimpArgs false
open Go.RowKit
set_option maxRecDepth 100000
set_option maxHeartbeats 8000000

def slOk (gG gB gR gC : Int) (n : Int) (x : AD) : Bool := arrOk gG gB gR gC x && atOk gG gB gR gC n
def slA (gG gB gR gC : Int) (n : Int) (x : AD) : AD := if slOk gG gB gR gC n x = true then getN x (tn n) else x
def slX (gG gB gR gC : Int) (n : Int) (x : AD) : Int := if slOk gG gB gR gC n x = true then getX x (tn n) else 0
def slC (gG gB gR gC : Int) (n : Int) (x : AD) : Int := if slOk gG gB gR gC n x = true then getC x (tn n) else 2
theorem at_in {gG gB gR gC n : Int} {x : AD} (h : arrOk gG gB gR gC x = true) (h2 : atOk gG gB gR gC n = true) : (0 ≤ n ∧ n < (x.c.n : Int)) ∧ n.toNat < x.c.n ∧ btw n 0 (lineN gG gB gR gC - 1) = true := by
  simp only [atOk, Bool.and_eq_true] at h2
  have h3 := (arrOk_facts h).2.1
  have h4 := btw_f h2.2
  refine ⟨⟨h4.1, by omega⟩, by omega, h2.2⟩
theorem at_no {gG gB gR gC n : Int} {x : AD} (h : arrOk gG gB gR gC x = true) (h2 : atOk gG gB gR gC n = false) : btw n 0 (lineN gG gB gR gC - 1) = false := by
  have hg := (arrOk_facts h).1
  simpa [atOk, hg] using h2
theorem line_rng {gG gB gR gC : Int} : 0 ≤ lineN gG gB gR gC ∧ lineN gG gB gR gC ≤ 1024 := by
  cases h : geoB gG gB gR gC
  · rw [(line_not h).1]; omega
  · have := (geo_row h).2
    simp only [lineN, h, if_true]
    omega
theorem slIP_T (x : AD) (O A H : Option Addr) (C D E : Nat) (so : Nat → Option Addr) (sc : Nat → Nat) (gG gB gR gC : Int) (n : Int) (p : Nat → Bool) (gx gc : Int) : (exFn Try.prog {tb := [(31, sCpA), (28, sArrOk), (27, sAdAt), (53, sFet)]} 400 Try.f29 ([.a (.agg [.int gG, .int gB, .int gR, .int gC]), .a (arrS 0 x O A H C D E), .a (.c (.int n))]) (arrR 0 x O A H so sc) (fun v ch => ∃ (Oq Aq Hq : Option Addr) (Cq Dq Ee : Nat) (soq : Nat → Option Addr) (scq : Nat → Nat), v.den = .tuple #[arrV (poA x p) Oq Aq Hq Cq Dq Ee, .int .i64 gc] ∧ SelS ch (idsArr v ch) (arrO 0 (poA x p) Oq Aq Hq Cq Dq Ee soq scq))) = (
  (fun b : AD => (fun d : Nat => (fun g : List (Nat→SC) => (fun h : List (Nat→SC) => (fun j : List (Nat→SC) => (fun k : List (Nat→SC) => (fun l : List Row => (fun m : List SC => (fun o : Ch => (fun q : Ch => (fun r : Ch => (fun s : List SC => (fun t : List (Nat→SC) => (fun u : List SC => (fun w : Ch => ∀ y z B : Nat, (fun F : Ch => (fun G : Ch => z = z∧∃(I : Nat) (J : CD) (K : Nat→Option Addr) (L M : Nat→Nat) (N P : Nat→Int), (fun Q : List (Nat→SC) => (fun R : List (Nat→SC) => (l = (symRows false I J K M)∧t = [fun S => Cs 3 (K S) (J.2 S) (L S), fun S => Cb (J.4 S)]∧O = O∧x.1.1 = x.1.1∧x.1.1 = J.1∧A = A∧x.2 = x.2∧h = R∧H = H∧x.4 = x.4∧g = Q)∧capA (AD.mk J x.2 N x.4 P)∧∀(S T U : Option Addr) (V W X : Nat) (Y : Nat→Option Addr) (Z : Nat→Nat) (aa : Nat), (fun ab : Prop => (fun ac : List Row => (fun ad : Ch => (fun af : Ch => (fun ag : Ch => (fun ah : Value => (fun aj : List SC => (fun ak : Ch => (fun al : Ch => (fun am : Value => (fun an : Ch => aa = aa∧y = y∧∀ ao : Nat, (fun ap : Ch => (fun aq : Prop => ao = ao∧((! (atOk gG gB gR gC n)) = false→y = y∧z = z∧∃(ar : Nat) (au : CD) (av : Nat→Option Addr) (aw ax : Nat→Nat) (ay az : Nat→Int), (fun aA : Bool => (l = (symRows false ar au av ax)∧t = [fun aB => Cs 3 (av aB) (au.2 aB) (aw aB), fun aB => Cb (au.4 aB)]∧O = O∧x.1.1 = x.1.1∧x.1.1 = au.1∧A = A∧x.2 = x.2∧h = [fun aB => Ci (ay aB)]∧H = H∧x.4 = x.4∧g = [fun aB => Ci (az aB)])∧lenA (AD.mk au x.2 ay x.4 az)∧(aA = true→aq)∧(aA = false→aa = aa∧S = S∧J.1 = J.1∧(0 ≤ n∧n < ((J.1 : Nat) : Int))∧ab∧S = S∧d < J.1∧S = S∧d < J.1∧((J.4 d) = true→aq)∧((J.4 d) = false→ab∧S = S∧d < J.1∧S = S∧d < J.1∧∃(aB : Nat) (aC : CD) (aD : Nat→Option Addr) (aE : Nat→Nat) (aF : Nat), (fun aG : List (Nat→SC) => (ac = (symRows true aB aC aD aE)∧(Y d) = (aD aF)∧(J.2 d) = (aC.2 aF)∧aF < aC.1)∧((J.2 d) = 11∧(symB 11 (aC.3 aF) (11 : Int)) = true)∧∀(aH : Option Addr) (aI : Nat), (fun aJ : Ch => ab∧S = S∧d < J.1∧S = S∧d < J.1∧∃(aK : Nat) (aL : CD) (aM : Nat→Option Addr) (aN : Nat→Nat) (aO : Nat), (fun aP : Int => (fun aQ : Bool => (fun aR : Bool => (fun aS : Value => (ac = (symRows true aK aL aM aN)∧(Y d) = (aM aO)∧(J.2 d) = (aL.2 aO)∧aO < aL.1)∧((J.2 d) = 11∧(symB 11 (aL.3 aO) (11 : Int)) = true)∧(aR = true→ab∧S = S∧d < J.1∧S = S∧d < J.1∧aa = aa∧B = B∧B = B∧∃(aT aU aV : Option Addr) (aW aX aY : Nat) (aZ : Nat→Option Addr) (a0 : Nat→Nat), aS = (Wu [Wa [Ws aT b.1.1 aW, Ws aU b.2 aX, Ws aV b.4 aY], Wi gc])∧SelS [w, r, q, o, G, F, al, Hr true S 43 2 J.1 V [fun a1 => Cv (if a1 = d then (Ws aH 11 aI) else (Ws (Y a1) (J.2 a1) (Z a1))), fun a1 => Cb (J.4 a1)], af, ad, ag, ak, ap, aJ] [7, 8, 9, 1000003] [Hr true aT 43 2 b.1.1 aW [fun a1 => Cs 3 (aZ a1) (b.1.2 a1) (a0 a1), fun a1 => Cb (b.1.4 a1)], Hr true aU 3 1 b.2 aX k, Hr true aV 3 1 b.4 aY j, Ho true (symRows true 3 b.1 aZ a0)])∧(aR = false→(aQ = true→ab∧S = S∧d < J.1∧S = S∧d < J.1∧aa = aa∧B = B∧B = B∧∃(aT aU aV : Option Addr) (aW aX aY : Nat) (aZ : Nat→Option Addr) (a0 : Nat→Nat), aS = (Wu [Wa [Ws aT b.1.1 aW, Ws aU b.2 aX, Ws aV b.4 aY], Wi gc])∧SelS [w, r, q, o, G, F, al, Hr true S 43 2 J.1 V [fun a1 => Cs 10 (Y a1) (J.2 a1) (Z a1), fun a1 => Cb (if a1 = d then true else (J.4 a1))], af, ad, ag, ak, ap, aJ] [7, 8, 9, 10] [Hr true aT 43 2 b.1.1 aW [fun a1 => Cs 3 (aZ a1) (b.1.2 a1) (a0 a1), fun a1 => Cb (b.1.4 a1)], Hr true aU 3 1 b.2 aX k, Hr true aV 3 1 b.4 aY j, Ho true (symRows true 3 b.1 aZ a0)])∧(aQ = false→aa = aa∧B = B∧B = B∧∃(aT aU aV : Option Addr) (aW aX aY : Nat) (aZ : Nat→Option Addr) (a0 : Nat→Nat), aS = (Wu [Wa [Ws aT b.1.1 aW, Ws aU b.2 aX, Ws aV b.4 aY], Wi gc])∧SelS [w, r, q, o, G, F, al, an, af, ad, ag, ak, ap, aJ] [7, 8, 9, 10] [Hr true aT 43 2 b.1.1 aW [fun a1 => Cs 3 (aZ a1) (b.1.2 a1) (a0 a1), fun a1 => Cb (b.1.4 a1)], Hr true aU 3 1 b.2 aX k, Hr true aV 3 1 b.4 aY j, Ho true (symRows true 3 b.1 aZ a0)]))) (Wu [ah, Wi aP])) (aP == (1 : Int))) (aP == (2 : Int))) (corC (aL.3 aO))) (Hr true aH 3 1 11 aI aG)) [fun aG => Ci (corW (aC.3 aF) aG)]))) (! (arrOk gG gB gR gC (AD.mk au x.2 ay x.4 az))))∧((! (atOk gG gB gR gC n)) = true→aq)) (aa = aa∧B = B∧B = B∧∃(aq ar au : Option Addr) (av aw ax : Nat) (ay : Nat→Option Addr) (az : Nat→Nat), am = (Wu [Wa [Ws aq b.1.1 av, Ws ar b.2 aw, Ws au b.4 ax], Wi gc])∧SelS [w, r, q, o, G, F, al, an, af, ad, ag, ak, ap] [7, 8, 9, 10] [Hr true aq 43 2 b.1.1 av [fun aA => Cs 3 (ay aA) (b.1.2 aA) (az aA), fun aA => Cb (b.1.4 aA)], Hr true ar 3 1 b.2 aw k, Hr true au 3 1 b.4 ax j, Ho true (symRows true 3 b.1 ay az)])) (Hc ao 37 u)) (Hr true S 43 2 J.1 V [fun an => Cs 10 (Y an) (J.2 an) (Z an), fun an => Cb (J.4 an)])) (Wu [ah, Wi 2])) (Hc B 31 aj)) (Hc aa 31 aj)) [Cs 7 S J.1 V, Cs 8 T x.2 W, Cs 9 U x.4 X]) (Wa [Ws S J.1 V, Ws T x.2 W, Ws U x.4 X])) (Ho true ac)) (Hr true T 3 1 x.2 W R)) (Hr true U 3 1 x.4 X Q)) (symRows true 3 J Y Z)) (S = S∧d < J.1)) [fun R => Ci (N R)]) [fun Q => Ci (P Q)]) (Hc y 25 m)) (Hc z 31 s)) (Hr false O 0 2 x.1.1 0 t)) [Ci (atB gG gB gR gC n), Ci (atR gG gB gR gC n), Ci (atC gG gB gR gC n)]) [fun t => Cs 3 (so t) (x.1.2 t) (sc t), fun t => Cb (x.1.4 t)]) [Cs 0 O x.1.1 C, Cs 1 A x.2 D, Cs 2 H x.4 E]) (Hr false A 0 1 x.2 0 h)) (Hr false H 0 1 x.4 0 g)) (Ho false l)) [Ci gG, Ci gB, Ci gR, Ci gC]) (symRows false 0 x.1 so (fun l => 0))) [fun k => Ci (b.3 k)]) [fun j => Ci (b.5 j)]) [fun h => Ci (x.3 h)]) [fun g => Ci (x.5 g)]) (Int.toNat n)) (poA x p)) := by kernel_rfl
theorem slIP_any (x : AD) (O A H : Option Addr) (C D E : Nat) (so : Nat → Option Addr) (sc : Nat → Nat) (gG gB gR gC : Int) (n : Int) (p : Nat → Bool) (gx gc : Int) (w : World) (hA : SeenA w x O A H so sc) (hcap : capA x) (hN : slOk gG gB gR gC n x = false → p = x.c.po ∧ gx = 0 ∧ gc = 2) (hP : slOk gG gB gR gC n x = true → x.c.po n.toNat = true → p = x.c.po ∧ gx = 0 ∧ gc = 2) (hQ : slOk gG gB gR gC n x = true → x.c.po n.toNat = false → ¬ corC (x.c.sy n.toNat) = 1 ∧ gx = decX (x.c.sy n.toNat) ∧ gc = corC (x.c.sy n.toNat) ∧ (corC (x.c.sy n.toNat) = 0 → p = x.c.po) ∧ (corC (x.c.sy n.toNat) = 2 → p = fun i => if i = n.toNat then true else x.c.po i)) : Calls Try.prog 29 #[.agg #[.int .i64 gG, .int .i64 gB, .int .i64 gR, .int .i64 gC], arrV x O A H C D E, .int .i64 n] w fun e w' => ∃ (Oq Aq Hq : Option Addr) (Cq Dq Ee : Nat) (soq : Nat → Option Addr) (scq : Nat → Nat), e = .returned (.tuple #[arrV (poA x p) Oq Aq Hq Cq Dq Ee, .int .i64 gc]) ∧ HS ⟨w, fun _ => False⟩ (arrO 0 (poA x p) Oq Aq Hq Cq Dq Ee soq scq) w' := by
  refine fnB (tb := [(31, sCpA), (28, sArrOk), (27, sAdAt), (53, sFet)]) ⟨sCpA_I, sArrOk_I, sAdAt_I, sFet_ok, trivial⟩ Try.func29 (@Eq.mpr _ _ (slIP_T x O A H C D E so sc gG gB gR gC n p gx gc) ?_) (HS.seenAll (fun _ => False) _ (hA.all 0 seenC_nil)) (fun v ch' w' ⟨Oq, Aq, Hq, Cq, Dq, Ee, soq, scq, hv, hc⟩ hs => ⟨Oq, Aq, Hq, Cq, Dq, Ee, soq, scq, by rw [hv], hc.hs hs⟩)
  dsimp -zeta -proj -iota -eta -failIfUnchanged (etaStruct := .none) only
  clear hA
  have hl := lenA_of hcap
  have hln := @line_rng gG gB gR gC
  cases hok : arrOk gG gB gR gC x
  · obtain ⟨rfl, rfl, rfl⟩ := hN (by simp [slOk, hok])
    repeat' (first
      | with_reducible exact rfl
      | exact True.intro
      | with_reducible assumption
      | exact hl
      | exact hcap
      | (intro h; exfalso; rw [hok] at h; simp at h; done)
      | (show rng _; simp only [rng]; omega)
      | exact (by refine ⟨?_, rfl⟩; repeat' (first | exact True.intro | exact symRows_push | exact rfl | refine And.intro ?_ ?_ | (intro i hi; show _ = _; with_reducible rfl) | (intro i hi; show _ = _; rfl) | (intro i hi; show _ = _; simp only [SC.den]; split <;> rfl)))
      | refine And.intro ?_ ?_
      | apply Exists.intro
      | (intro h; exfalso; simp at h; done)
      | (intro h; replace h := of_decide_eq_true h; first | (exfalso; omega) | skip)
      | (intro h; replace h := of_decide_eq_false h; first | (exfalso; omega) | skip)
      | (intro i hi; with_reducible exact rfl)
      | intro _
      | omega
      | exact rfl)
  · cases had : atOk gG gB gR gC n
    · obtain ⟨rfl, rfl, rfl⟩ := hN (by simp [slOk, had])
      have hbt := at_no hok had
      repeat' (first
        | with_reducible exact rfl
        | exact True.intro
        | with_reducible assumption
        | exact hl
        | exact hcap
        | (intro h; exfalso; rw [hok] at h; simp at h; done)
        | (intro h; exfalso; rw [had] at h; simp at h; done)
        | (intro h; exfalso; rw [hbt] at h; simp at h; done)
        | (show rng _; simp only [rng]; omega)
        | exact (by refine ⟨?_, rfl⟩; repeat' (first | exact True.intro | exact symRows_push | exact rfl | refine And.intro ?_ ?_ | (intro i hi; show _ = _; with_reducible rfl) | (intro i hi; show _ = _; rfl) | (intro i hi; show _ = _; simp only [SC.den]; split <;> rfl)))
        | refine And.intro ?_ ?_
        | apply Exists.intro
        | (intro h; exfalso; simp at h; done)
        | (intro h; replace h := of_decide_eq_true h; first | (exfalso; omega) | skip)
        | (intro h; replace h := of_decide_eq_false h; first | (exfalso; omega) | skip)
        | (intro i hi; with_reducible exact rfl)
        | intro _
        | omega
        | exact rfl)
    · have hin := at_in hok had
      have hi1 := hin.1.1
      have hi2 := hin.1.2
      have hi3 : ltN (tn n) x.c.n := hin.2.1
      have hbt := hin.2.2
      have hsy : symB (x.c.sn n.toNat) (x.c.sy n.toNat) 11 = true := (arrOk_facts hok).2.2.2.2 _ hi3
      have hn11 : x.c.sn n.toNat = 11 := by have := symB_n hsy; omega
      have hs11 : symB 11 (x.c.sy n.toNat) 11 = true := by rw [hn11] at hsy; exact hsy
      have hel := symB_el hs11
      have hcp := hcap.2.2.2 _ hi3
      have hokk : slOk gG gB gR gC n x = true := by simp [slOk, hok, had]
      cases hpo : x.c.po n.toNat
      · obtain ⟨c1, rfl, rfl, c0, c2⟩ := hQ hokk hpo
        have b1 : (corC (x.c.sy n.toNat) == 1) = false := by simpa using c1
        rcases corC_cases (x.c.sy n.toNat) with e | e | e
        · obtain rfl := c0 e
          have b2 : (corC (x.c.sy n.toNat) == 2) = false := by rw [e]; rfl
          repeat' (first
            | with_reducible exact rfl
            | exact True.intro
            | with_reducible assumption
            | exact hl
            | exact hcap
            | with_reducible exact hs11
            | with_reducible exact hn11
            | (intro h; exfalso; rw [hok] at h; simp at h; done)
            | (intro h; exfalso; rw [had] at h; simp at h; done)
            | (intro h; exfalso; rw [b1] at h; simp at h; done)
            | (intro h; exfalso; rw [b2] at h; simp at h; done)
            | (intro h; exfalso; rw [hbt] at h; simp at h; done)
            | (intro h; exfalso; rw [hpo] at h; cases h; done)
            | (show rng _; simp only [rng]; omega)
            | (refine ⟨_, _, _, _, _, ⟨rfl, rfl, rfl, ?_⟩, ?_⟩)
            | exact (by refine ⟨?_, rfl⟩; repeat' (first | exact True.intro | exact symRows_push | exact rfl | refine And.intro ?_ ?_ | (intro i hi; show _ = _; with_reducible rfl) | (intro i hi; show _ = _; rfl) | (intro i hi; show _ = _; simp only [SC.den]; split <;> rfl)))
            | refine And.intro ?_ ?_
            | apply Exists.intro
            | (intro h; exfalso; simp at h; done)
            | (intro h; replace h := of_decide_eq_true h; first | (exfalso; omega) | skip)
            | (intro h; replace h := of_decide_eq_false h; first | (exfalso; omega) | skip)
            | (intro i hi; with_reducible exact rfl)
            | intro _
            | omega
            | exact rfl)
        · exact absurd e c1
        · obtain rfl := c2 e
          have b2 : (corC (x.c.sy n.toNat) == 2) = true := by rw [e]; rfl
          repeat' (first
            | with_reducible exact rfl
            | exact True.intro
            | with_reducible assumption
            | exact hl
            | exact hcap
            | with_reducible exact hs11
            | with_reducible exact hn11
            | (intro h; exfalso; rw [hok] at h; simp at h; done)
            | (intro h; exfalso; rw [had] at h; simp at h; done)
            | (intro h; exfalso; rw [b1] at h; simp at h; done)
            | (intro h; exfalso; rw [b2] at h; simp at h; done)
            | (intro h; exfalso; rw [hbt] at h; simp at h; done)
            | (intro h; exfalso; rw [hpo] at h; cases h; done)
            | (show rng _; simp only [rng]; omega)
            | (refine ⟨_, _, _, _, _, ⟨rfl, rfl, rfl, ?_⟩, ?_⟩)
            | exact (by refine ⟨?_, rfl⟩; repeat' (first | exact True.intro | exact symRows_push | exact rfl | refine And.intro ?_ ?_ | (intro i hi; show _ = _; with_reducible rfl) | (intro i hi; show _ = _; rfl) | (intro i hi; show _ = _; simp only [SC.den]; split <;> rfl)))
            | refine And.intro ?_ ?_
            | apply Exists.intro
            | (intro h; exfalso; simp at h; done)
            | (intro h; replace h := of_decide_eq_true h; first | (exfalso; omega) | skip)
            | (intro h; replace h := of_decide_eq_false h; first | (exfalso; omega) | skip)
            | (intro i hi; with_reducible exact rfl)
            | intro _
            | omega
            | exact rfl)
      · obtain ⟨rfl, rfl, rfl⟩ := hP hokk hpo
        repeat' (first
          | with_reducible exact rfl
          | exact True.intro
          | with_reducible assumption
          | exact hl
          | exact hcap
          | with_reducible exact hs11
          | with_reducible exact hn11
          | (intro h; exfalso; rw [hok] at h; simp at h; done)
          | (intro h; exfalso; rw [had] at h; simp at h; done)
          | (intro h; exfalso; rw [hbt] at h; simp at h; done)
          | (intro h; exfalso; rw [hpo] at h; cases h; done)
          | (show rng _; simp only [rng]; omega)
          | (refine ⟨_, _, _, _, _, ⟨rfl, rfl, rfl, ?_⟩, ?_⟩)
          | exact (by refine ⟨?_, rfl⟩; repeat' (first | exact True.intro | exact symRows_push | exact rfl | refine And.intro ?_ ?_ | (intro i hi; show _ = _; with_reducible rfl) | (intro i hi; show _ = _; rfl) | (intro i hi; show _ = _; simp only [SC.den]; split <;> rfl)))
          | refine And.intro ?_ ?_
          | apply Exists.intro
          | (intro h; exfalso; simp at h; done)
          | (intro h; replace h := of_decide_eq_true h; first | (exfalso; omega) | skip)
          | (intro h; replace h := of_decide_eq_false h; first | (exfalso; omega) | skip)
          | (intro i hi; with_reducible exact rfl)
          | intro _
          | omega
          | exact rfl)
theorem slIF_T (x : AD) (O A H : Option Addr) (C D E : Nat) (so : Nat → Option Addr) (sc : Nat → Nat) (gG gB gR gC : Int) (n : Int) : (exFn Try.prog {tb := [(31, sCpA), (28, sArrOk), (27, sAdAt), (53, sFet)]} 400 Try.f29 ([.a (.agg [.int gG, .int gB, .int gR, .int gC]), .a (arrS 0 x O A H C D E), .a (.c (.int n))]) (arrR 0 x O A H so sc) (fun v ch => ∃ (Oq Aq Hq : Option Addr) (Cq Dq Ee : Nat) (soq : Nat → Option Addr) (scq : Nat → Nat) (ro : Option Addr) (rc : Nat), v.den = .tuple #[arrV x Oq Aq Hq Cq Dq Ee, .int .i64 1] ∧ SelS ch (idsSt v ch) (storedCh x (tn n) 11 (fun i => corW (x.c.sy (tn n)) i) (x.c.po (tn n)) Oq Aq Hq Cq Dq Ee soq scq ro rc))) = (
  (fun b : Nat => (fun d : List (Nat→SC) => (fun g : List (Nat→SC) => (fun h : List Row => (fun j : List SC => (fun k : Ch => (fun l : List (Nat→SC) => (fun m : Ch => (fun o : Ch => (fun p : List SC => (fun q : List (Nat→SC) => (fun r : List SC => (fun s : Ch => ∀ t u w : Nat, (fun y : Ch => (fun z : Ch => u = u∧∃(B : Nat) (F : CD) (G : Nat→Option Addr) (I J : Nat→Nat) (K L : Nat→Int), (fun M : List (Nat→SC) => (fun N : List (Nat→SC) => (h = (symRows false B F G J)∧q = [fun P => Cs 3 (G P) (F.2 P) (I P), fun P => Cb (F.4 P)]∧O = O∧x.1.1 = x.1.1∧x.1.1 = F.1∧A = A∧x.2 = x.2∧g = N∧H = H∧x.4 = x.4∧d = M)∧capA (AD.mk F x.2 K x.4 L)∧∀(P Q R : Option Addr) (S T U : Nat) (V : Nat→Option Addr) (W : Nat→Nat) (X : Nat), (fun Y : Prop => (fun Z : List Row => (fun aa : Ch => (fun ab : Ch => (fun ac : Ch => (fun ad : Value => (fun af : List SC => (fun ag : Ch => (fun ah : Ch => (fun aj : Value => (fun ak : Ch => X = X∧t = t∧∀ al : Nat, (fun am : Ch => (fun an : Prop => al = al∧((! (atOk gG gB gR gC n)) = false→t = t∧u = u∧∃(ao : Nat) (ap : CD) (aq : Nat→Option Addr) (ar au : Nat→Nat) (av aw : Nat→Int), (fun ax : Bool => (h = (symRows false ao ap aq au)∧q = [fun ay => Cs 3 (aq ay) (ap.2 ay) (ar ay), fun ay => Cb (ap.4 ay)]∧O = O∧x.1.1 = x.1.1∧x.1.1 = ap.1∧A = A∧x.2 = x.2∧g = [fun ay => Ci (av ay)]∧H = H∧x.4 = x.4∧d = [fun ay => Ci (aw ay)])∧lenA (AD.mk ap x.2 av x.4 aw)∧(ax = true→an)∧(ax = false→X = X∧P = P∧F.1 = F.1∧(0 ≤ n∧n < ((F.1 : Nat) : Int))∧Y∧P = P∧b < F.1∧P = P∧b < F.1∧((F.4 b) = true→an)∧((F.4 b) = false→Y∧P = P∧b < F.1∧P = P∧b < F.1∧∃(ay : Nat) (az : CD) (aA : Nat→Option Addr) (aB : Nat→Nat) (aC : Nat), (fun aD : List (Nat→SC) => (Z = (symRows true ay az aA aB)∧(V b) = (aA aC)∧(F.2 b) = (az.2 aC)∧aC < az.1)∧((F.2 b) = 11∧(symB 11 (az.3 aC) (11 : Int)) = true)∧∀(aE : Option Addr) (aF : Nat), (fun aG : Ch => Y∧P = P∧b < F.1∧P = P∧b < F.1∧∃(aH : Nat) (aI : CD) (aJ : Nat→Option Addr) (aK : Nat→Nat) (aL : Nat), (fun aM : Int => (fun aN : Bool => (fun aO : Bool => (fun aP : Value => (Z = (symRows true aH aI aJ aK)∧(V b) = (aJ aL)∧(F.2 b) = (aI.2 aL)∧aL < aI.1)∧((F.2 b) = 11∧(symB 11 (aI.3 aL) (11 : Int)) = true)∧(aO = true→Y∧P = P∧b < F.1∧P = P∧b < F.1∧X = X∧w = w∧w = w∧∃(aQ aR aS : Option Addr) (aT aU aV : Nat) (aW : Nat→Option Addr) (aX : Nat→Nat) (aY : Option Addr) (aZ : Nat), aP = (Wu [Wa [Ws aQ x.1.1 aT, Ws aR x.2 aU, Ws aS x.4 aV], Wi 1])∧SelS [s, o, m, k, z, y, ah, Hr true P 43 2 F.1 S [fun a0 => Cv (if a0 = b then (Ws aE 11 aF) else (Ws (V a0) (F.2 a0) (W a0))), fun a0 => Cb (F.4 a0)], ab, aa, ac, ag, am, aG] [7, 8, 9, 10, 13] [Hr true aQ 43 2 x.1.1 aT [fun a0 => Cv (if a0 = b then (Ws aY 11 aZ) else (Ws (aW a0) (x.1.2 a0) (aX a0))), fun a0 => Cb (if a0 = b then (x.1.4 b) else (x.1.4 a0))], Hr true aR 3 1 x.2 aU g, Hr true aS 3 1 x.4 aV d, Ho true (symRows true 3 x.1 aW aX), Hr true aY 3 1 11 aZ l])∧(aO = false→(aN = true→Y∧P = P∧b < F.1∧P = P∧b < F.1∧X = X∧w = w∧w = w∧∃(aQ aR aS : Option Addr) (aT aU aV : Nat) (aW : Nat→Option Addr) (aX : Nat→Nat) (aY : Option Addr) (aZ : Nat), aP = (Wu [Wa [Ws aQ x.1.1 aT, Ws aR x.2 aU, Ws aS x.4 aV], Wi 1])∧SelS [s, o, m, k, z, y, ah, Hr true P 43 2 F.1 S [fun a0 => Cs 10 (V a0) (F.2 a0) (W a0), fun a0 => Cb (if a0 = b then true else (F.4 a0))], ab, aa, ac, ag, am, aG] [7, 8, 9, 10, 13] [Hr true aQ 43 2 x.1.1 aT [fun a0 => Cv (if a0 = b then (Ws aY 11 aZ) else (Ws (aW a0) (x.1.2 a0) (aX a0))), fun a0 => Cb (if a0 = b then (x.1.4 b) else (x.1.4 a0))], Hr true aR 3 1 x.2 aU g, Hr true aS 3 1 x.4 aV d, Ho true (symRows true 3 x.1 aW aX), Hr true aY 3 1 11 aZ l])∧(aN = false→X = X∧w = w∧w = w∧∃(aQ aR aS : Option Addr) (aT aU aV : Nat) (aW : Nat→Option Addr) (aX : Nat→Nat) (aY : Option Addr) (aZ : Nat), aP = (Wu [Wa [Ws aQ x.1.1 aT, Ws aR x.2 aU, Ws aS x.4 aV], Wi 1])∧SelS [s, o, m, k, z, y, ah, ak, ab, aa, ac, ag, am, aG] [7, 8, 9, 10, 13] [Hr true aQ 43 2 x.1.1 aT [fun a0 => Cv (if a0 = b then (Ws aY 11 aZ) else (Ws (aW a0) (x.1.2 a0) (aX a0))), fun a0 => Cb (if a0 = b then (x.1.4 b) else (x.1.4 a0))], Hr true aR 3 1 x.2 aU g, Hr true aS 3 1 x.4 aV d, Ho true (symRows true 3 x.1 aW aX), Hr true aY 3 1 11 aZ l]))) (Wu [ad, Wi aM])) (aM == (1 : Int))) (aM == (2 : Int))) (corC (aI.3 aL))) (Hr true aE 3 1 11 aF aD)) [fun aD => Ci (corW (az.3 aC) aD)]))) (! (arrOk gG gB gR gC (AD.mk ap x.2 av x.4 aw))))∧((! (atOk gG gB gR gC n)) = true→an)) (X = X∧w = w∧w = w∧∃(an ao ap : Option Addr) (aq ar au : Nat) (av : Nat→Option Addr) (aw : Nat→Nat) (ax : Option Addr) (ay : Nat), aj = (Wu [Wa [Ws an x.1.1 aq, Ws ao x.2 ar, Ws ap x.4 au], Wi 1])∧SelS [s, o, m, k, z, y, ah, ak, ab, aa, ac, ag, am] [7, 8, 9, 10, 12] [Hr true an 43 2 x.1.1 aq [fun az => Cv (if az = b then (Ws ax 11 ay) else (Ws (av az) (x.1.2 az) (aw az))), fun az => Cb (if az = b then (x.1.4 b) else (x.1.4 az))], Hr true ao 3 1 x.2 ar g, Hr true ap 3 1 x.4 au d, Ho true (symRows true 3 x.1 av aw), Hr true ax 3 1 11 ay l])) (Hc al 37 r)) (Hr true P 43 2 F.1 S [fun ak => Cs 10 (V ak) (F.2 ak) (W ak), fun ak => Cb (F.4 ak)])) (Wu [ad, Wi 2])) (Hc w 31 af)) (Hc X 31 af)) [Cs 7 P F.1 S, Cs 8 Q x.2 T, Cs 9 R x.4 U]) (Wa [Ws P F.1 S, Ws Q x.2 T, Ws R x.4 U])) (Ho true Z)) (Hr true Q 3 1 x.2 T N)) (Hr true R 3 1 x.4 U M)) (symRows true 3 F V W)) (P = P∧b < F.1)) [fun N => Ci (K N)]) [fun M => Ci (L M)]) (Hc t 25 j)) (Hc u 31 p)) (Hr false O 0 2 x.1.1 0 q)) [Ci (atB gG gB gR gC n), Ci (atR gG gB gR gC n), Ci (atC gG gB gR gC n)]) [fun q => Cs 3 (so q) (x.1.2 q) (sc q), fun q => Cb (x.1.4 q)]) [Cs 0 O x.1.1 C, Cs 1 A x.2 D, Cs 2 H x.4 E]) (Hr false A 0 1 x.2 0 g)) (Hr false H 0 1 x.4 0 d)) [fun l => Ci (corW (x.1.3 b) l)]) (Ho false h)) [Ci gG, Ci gB, Ci gR, Ci gC]) (symRows false 0 x.1 so (fun h => 0))) [fun g => Ci (x.3 g)]) [fun d => Ci (x.5 d)]) (Int.toNat n)) := by kernel_rfl
theorem slIF_any (x : AD) (O A H : Option Addr) (C D E : Nat) (so : Nat → Option Addr) (sc : Nat → Nat) (gG gB gR gC : Int) (n : Int) (w : World) (hA : SeenA w x O A H so sc) (hcap : capA x) (hokk : slOk gG gB gR gC n x = true) (hpo : x.c.po n.toNat = false) (hc1 : corC (x.c.sy n.toNat) = 1) : Calls Try.prog 29 #[.agg #[.int .i64 gG, .int .i64 gB, .int .i64 gR, .int .i64 gC], arrV x O A H C D E, .int .i64 n] w fun e w' => ∃ (Oq Aq Hq : Option Addr) (Cq Dq Ee : Nat) (soq : Nat → Option Addr) (scq : Nat → Nat), e = .returned (.tuple #[arrV (setA x (tn n) 11 (fun i => corW (x.c.sy (tn n)) i) (x.c.po (tn n))) Oq Aq Hq Cq Dq Ee, .int .i64 1]) ∧ HS ⟨w, fun _ => False⟩ (arrO 0 (setA x (tn n) 11 (fun i => corW (x.c.sy (tn n)) i) (x.c.po (tn n))) Oq Aq Hq Cq Dq Ee soq scq) w' := by
  refine fnB (tb := [(31, sCpA), (28, sArrOk), (27, sAdAt), (53, sFet)]) ⟨sCpA_I, sArrOk_I, sAdAt_I, sFet_ok, trivial⟩ Try.func29 (@Eq.mpr _ _ (slIF_T x O A H C D E so sc gG gB gR gC n) ?_) (HS.seenAll (fun _ => False) _ (hA.all 0 seenC_nil)) (fun v ch' w' ⟨Oq, Aq, Hq, Cq, Dq, Ee, soq, scq, ro, rc, hv, hc⟩ hs => ⟨Oq, Aq, Hq, Cq, Dq, Ee, _, _, by rw [hv]; rfl, (hc.hs hs).stored⟩)
  dsimp -zeta -proj -iota -eta -failIfUnchanged (etaStruct := .none) only
  clear hA
  have hl := lenA_of hcap
  have hln := @line_rng gG gB gR gC
  have hok : arrOk gG gB gR gC x = true := by simp only [slOk, Bool.and_eq_true] at hokk; exact hokk.1
  have had : atOk gG gB gR gC n = true := by simp only [slOk, Bool.and_eq_true] at hokk; exact hokk.2
  have hin := at_in hok had
  have hi1 := hin.1.1
  have hi2 := hin.1.2
  have hi3 : ltN (tn n) x.c.n := hin.2.1
  have hbt := hin.2.2
  have hsy : symB (x.c.sn n.toNat) (x.c.sy n.toNat) 11 = true := (arrOk_facts hok).2.2.2.2 _ hi3
  have hn11 : x.c.sn n.toNat = 11 := by have := symB_n hsy; omega
  have hs11 : symB 11 (x.c.sy n.toNat) 11 = true := by rw [hn11] at hsy; exact hsy
  have hel := symB_el hs11
  have hcp := hcap.2.2.2 _ hi3
  have b1 : (corC (x.c.sy n.toNat) == 1) = true := by rw [hc1]; rfl
  have b2 : (corC (x.c.sy n.toNat) == 2) = false := by rw [hc1]; rfl
  have hdw := dec_word hel hc1
  have hcw : ∀ i, i < 11 → cw (decX (x.c.sy n.toNat)) i = corW (x.c.sy n.toNat) i := fun i hi => dec_cw hel hc1 hi
  repeat' (first
    | with_reducible exact rfl
    | exact True.intro
    | with_reducible assumption
    | exact hl
    | exact hcap
    | with_reducible exact hs11
    | with_reducible exact hn11
    | (intro h; exfalso; rw [hok] at h; simp at h; done)
    | (intro h; exfalso; rw [had] at h; simp at h; done)
    | (intro h; exfalso; rw [b1] at h; simp at h; done)
    | (intro h; exfalso; rw [b2] at h; simp at h; done)
    | (intro h; exfalso; rw [hbt] at h; simp at h; done)
    | (intro h; exfalso; rw [hpo] at h; cases h; done)
    | (show rng _; simp only [rng]; omega)
    | (refine ⟨_, _, _, _, _, ⟨rfl, rfl, rfl, ?_⟩, ?_⟩)
    | with_reducible exact hdw
    | (show (_ : Value) = _; rw [hc1]; try with_reducible rfl)
    | exact (by refine ⟨?_, rfl⟩; repeat' (first | exact True.intro | exact symRows_push | exact rfl | refine And.intro ?_ ?_ | (intro i hi; show _ = _; with_reducible rfl) | (intro i hi; show _ = _; rfl) | (intro i hi; exact congrArg (fun z => Value.int .i64 z) (hcw i hi)) | (intro i hi; simp only [SC.den, selB]; split <;> simp_all) | (intro i hi; show _ = _; simp only [SC.den]; split <;> rfl)))
    | refine And.intro ?_ ?_
    | apply Exists.intro
    | (intro h; exfalso; simp at h; done)
    | (intro h; replace h := of_decide_eq_true h; first | (exfalso; omega) | skip)
    | (intro h; replace h := of_decide_eq_false h; first | (exfalso; omega) | skip)
    | (intro i hi; with_reducible exact rfl)
    | intro _
    | omega
    | exact rfl)
theorem slI_all (x : AD) (O A H : Option Addr) (C D E : Nat) (so : Nat → Option Addr) (sc : Nat → Nat) (gG gB gR gC : Int) (n : Int) (w : World) (hA : SeenA w x O A H so sc) (hcap : capA x) : Calls Try.prog 29 #[.agg #[.int .i64 gG, .int .i64 gB, .int .i64 gR, .int .i64 gC], arrV x O A H C D E, .int .i64 n] w fun e w' => ∃ (Oq Aq Hq : Option Addr) (Cq Dq Ee : Nat) (soq : Nat → Option Addr) (scq : Nat → Nat), e = .returned (.tuple #[arrV (slA gG gB gR gC n x) Oq Aq Hq Cq Dq Ee, .int .i64 (slC gG gB gR gC n x)]) ∧ HS ⟨w, fun _ => False⟩ (arrO 0 (slA gG gB gR gC n x) Oq Aq Hq Cq Dq Ee soq scq) w' := by
  cases hokk : slOk gG gB gR gC n x
  · have e1 : (slA gG gB gR gC n x) = poA x x.c.po := by simp [slA, hokk, poA]
    have e2 : slX gG gB gR gC n x = 0 := by simp [slX, hokk]
    have e3 : slC gG gB gR gC n x = 2 := by simp [slC, hokk]
    rw [e1, e3]
    exact slIP_any x O A H C D E so sc gG gB gR gC n x.c.po 0 2 w hA hcap (fun _ => ⟨rfl, rfl, rfl⟩) (fun h => by rw [hokk] at h; cases h) (fun h => by rw [hokk] at h; cases h)
  · cases hpo : x.c.po n.toNat
    · have hpo' : x.c.po (tn n) = false := hpo
      by_cases hc1 : corC (x.c.sy n.toNat) = 1
      · have hc1' : corC (x.c.sy (tn n)) = 1 := hc1
        have e1 : (slA gG gB gR gC n x) = setA x (tn n) 11 (fun i => corW (x.c.sy (tn n)) i) (x.c.po (tn n)) := by simp [slA, hokk, getN, hpo', hc1']
        have e2 : slX gG gB gR gC n x = decX (x.c.sy (tn n)) := by simp [slX, hokk, getX, hpo']
        have e3 : slC gG gB gR gC n x = 1 := by simp [slC, hokk, getC, hpo', hc1']
        rw [e1, e3]
        exact slIF_any x O A H C D E so sc gG gB gR gC n w hA hcap hokk hpo hc1
      · have hc1' : ¬ corC (x.c.sy (tn n)) = 1 := hc1
        have e2 : slX gG gB gR gC n x = decX (x.c.sy (tn n)) := by simp [slX, hokk, getX, hpo']
        have e3 : slC gG gB gR gC n x = corC (x.c.sy (tn n)) := by simp [slC, hokk, getC, hpo']
        rw [e3]
        by_cases hc2 : corC (x.c.sy (tn n)) = 2
        · have e1 : (slA gG gB gR gC n x) = poA x (fun i => if i = (tn n) then true else x.c.po i) := by simp [slA, hokk, getN, hpo', hc2]
          rw [e1]
          exact slIP_any x O A H C D E so sc gG gB gR gC n _ _ _ w hA hcap (fun h => by rw [hokk] at h; cases h) (fun _ h => by rw [hpo] at h; cases h) (fun _ _ => ⟨hc1, rfl, rfl, fun h => absurd (hc2.symm.trans h) (by decide), fun _ => rfl⟩)
        · have e1 : (slA gG gB gR gC n x) = poA x x.c.po := by simp [slA, hokk, getN, hpo', hc1', hc2, poA]
          rw [e1]
          exact slIP_any x O A H C D E so sc gG gB gR gC n _ _ _ w hA hcap (fun h => by rw [hokk] at h; cases h) (fun _ h => by rw [hpo] at h; cases h) (fun _ _ => ⟨hc1, rfl, rfl, fun _ => rfl, fun h => absurd h hc2⟩)
    · have hpo' : x.c.po (tn n) = true := hpo
      have e1 : (slA gG gB gR gC n x) = poA x x.c.po := by simp [slA, hokk, getN, hpo', poA]
      have e2 : slX gG gB gR gC n x = 0 := by simp [slX, hokk, getX, hpo']
      have e3 : slC gG gB gR gC n x = 2 := by simp [slC, hokk, getC, hpo']
      rw [e1, e3]
      exact slIP_any x O A H C D E so sc gG gB gR gC n x.c.po 0 2 w hA hcap (fun h => by rw [hokk] at h; cases h) (fun _ _ => ⟨rfl, rfl, rfl⟩) (fun _ h => by rw [hpo] at h; cases h)
end Go.Proofs.Ytmgjmglmjfjliaa

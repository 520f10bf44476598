/-
  A scrub begun.
-/
import Derived.Test.YtmgjmglmjfjliaaSxM6s
namespace Go.Proofs.Ytmgjmglmjfjliaa
set_option linter.unusedVariables false
set_option linter.unusedSimpArgs false
open Go.RowKit
set_option maxRecDepth 100000
set_option maxHeartbeats 8000000

def sScl : Sm := fun args ch kk =>
  match args with
  | [.a (.agg [c0, c1, c2, c3]), .a c, .a (.c f0)] =>
    match ints [c0, c1, c2, c3, f0] with
    | some [gG, gB, gR, gC, n] => rdA ch c fun x => capA x ∧ ∀ (Oq Aq Hq : Option Addr) (Cq Dq Ee : Nat) (soq : Nat → Option Addr) (scq : Nat → Nat), kk (.tup [arrS ch.length (slA gG gB gR gC n x) Oq Aq Hq Cq Dq Ee, .c (.int (slC gG gB gR gC n x))]) (ch ++ arrO ch.length ((slA gG gB gR gC n x)) Oq Aq Hq Cq Dq Ee soq scq) []
    | _ => False
  | _ => False
theorem sScl_I : SmOK Try.prog 29 sScl := by
  refine smN Try.call29 fun args ch kk w X h0 hs => ?_
  unfold sScl at h0
  split at h0
  · rename_i c0 c1 c2 c3 c f0
    split at h0
    · rename_i gG gB gR gC n hi
      obtain ⟨q0, hi⟩ := ints_cons hi
      obtain ⟨q1, hi⟩ := ints_cons hi
      obtain ⟨q2, hi⟩ := ints_cons hi
      obtain ⟨q3, hi⟩ := ints_cons hi
      obtain ⟨q4, hi⟩ := ints_cons hi
      obtain ⟨x, O, A, H, C, D, E, so, sc, e, hA, hcond, h1⟩ := rdA_ok h0 hs
      have e20 : SA.den (.agg [c0, c1, c2, c3]) = .agg #[.int .i64 gG, .int .i64 gB, .int .i64 gR, .int .i64 gC] := by simp only [SA.den, den_c, List.map_cons, List.map_nil, q0, q1, q2, q3]
      have e21 : SA.den (.c f0) = .int .i64 n := by simp only [SA.den, den_c, List.map_cons, List.map_nil, q4]
      simp only [List.map_cons, List.map_nil, den_a, e, e20, e21]
      refine Calls.mono (slI_all x O A H C D E so sc gG gB gR gC n w hA hcond) fun e w' ⟨Oq, Aq, Hq, Cq, Dq, Ee, soq, scq, he, hs'⟩ => ⟨.tup [arrS ch.length (slA gG gB gR gC n x) Oq Aq Hq Cq Dq Ee, .c (.int (slC gG gB gR gC n x))], _, by rw [he]; rfl, arrO_at hs', rfl, h1 Oq Aq Hq Cq Dq Ee soq scq⟩
    · exact h0.elim
  · exact h0.elim
theorem capA_set' {x : AD} {k m : Nat} {f : Nat → Int} {b : Bool} (h : capA x) (hm : m ≤ 2097152) : capA (setA x k m f b) :=
  ⟨h.1, h.2.1, h.2.2.1, fun i hi => by
    show (if i = k then m else x.c.sn i) ≤ 2097152
    split
    · exact hm
    · exact h.2.2.2 i hi⟩
theorem capA_po {x : AD} {p : Nat → Bool} (h : capA x) : capA (poA x p) := h
theorem capA_get {x : AD} {k : Nat} (h : capA x) : capA (getN x k) := by
  unfold getN
  split
  · exact h
  · split
    · exact capA_set' h (by omega)
    · split
      · exact capA_po h
      · exact h
theorem capA_sl {gG gB gR gC n : Int} {x : AD} (h : capA x) : capA (slA gG gB gR gC n x) := by
  unfold slA
  split
  · exact capA_get h
  · exact h
theorem slA_n {gG gB gR gC n : Int} {x : AD} : (slA gG gB gR gC n x).c.n = x.c.n := by
  unfold slA getN
  split
  · split
    · rfl
    · split
      · rfl
      · split <;> rfl
  · rfl
theorem sbgI_T (x : AD) (O A H : Option Addr) (C D E : Nat) (so : Nat → Option Addr) (sc : Nat → Nat) (gG gB gR gC : Int) (n : Int) (ti : Int) (bn : Nat) (bf : Nat → Int) (bp : Bool) (an : Nat) (af : Nat → Int) (ap : Bool) (tc : Int) (tk : Bool) : (exFn Try.prog {tb := [(27, sAdAt), (28, sArrOk), (29, sScl), (30, sCpC)]} 400 Try.f11 ([.a (.agg [.int gG, .int gB, .int gR, .int gC]), .a (arrS 0 x O A H C D E), .a (.c (.int n))]) (arrR 0 x O A H so sc) (fun v ch => ∃ (r1 r2 : Option Addr) (c1 c2 : Nat), OutR v ch (.tuple #[.agg #[.int .i64 ti, .slice r1 bn c1, .bool bp, .slice r2 an c2, .bool ap, .int .i64 tc], .bool tk]) [.row ⟨true, r1, 3, 1, bn, c1, [fun i => .int (bf i)]⟩, .row ⟨true, r2, 3, 1, an, c2, [fun i => .int (af i)]⟩])) = (
  (fun b : Nat => (fun d : List Row => (fun g : List (Nat→SC) => (fun h : Prop => ∀ j k l : Nat, j = j∧∀ m : Nat, m = m∧((! (atOk gG gB gR gC n)) = false→j = j∧k = k∧∃(o : Nat) (p : CD) (q : Nat→Option Addr) (r s : Nat→Nat) (t u : Nat→Int), (fun w : Bool => (d = (symRows false o p q s)∧g = [fun y => Cs 3 (q y) (p.2 y) (r y), fun y => Cb (p.4 y)]∧O = O∧x.1.1 = x.1.1∧x.1.1 = p.1∧A = A∧x.2 = x.2∧[fun y => Ci (x.3 y)] = [fun y => Ci (t y)]∧H = H∧x.4 = x.4∧[fun y => Ci (x.5 y)] = [fun y => Ci (u y)])∧lenA (AD.mk p x.2 t x.4 u)∧(w = true→l = l∧l = l∧h)∧(w = false→j = j∧k = k∧∃(y : Nat) (z : CD) (B : Nat→Option Addr) (F G : Nat→Nat) (I J : Nat→Int), (fun K : AD => (fun L : AD => (d = (symRows false y z B G)∧g = [fun M => Cs 3 (B M) (z.2 M) (F M), fun M => Cb (z.4 M)]∧O = O∧x.1.1 = x.1.1∧x.1.1 = z.1∧A = A∧x.2 = x.2∧[fun M => Ci (x.3 M)] = [fun M => Ci (I M)]∧H = H∧x.4 = x.4∧[fun M => Ci (x.5 M)] = [fun M => Ci (J M)])∧capA K∧∀(M N P : Option Addr) (Q R S : Nat) (T : Nat→Option Addr) (U : Nat→Nat) (V : Nat), V = V∧k = k∧O = O∧x.1.1 = x.1.1∧(0 ≤ n∧n < ((x.1.1 : Nat) : Int))∧O = O∧b < x.1.1∧V = V∧M = M∧L.1.1 = L.1.1∧(0 ≤ n∧n < ((L.1.1 : Nat) : Int))∧M = M∧b < L.1.1∧∃(W : Nat) (X : CD) (Y : Nat→Option Addr) (Z : Nat→Nat) (aa : Nat), (d = (symRows false W X Y Z)∧(so b) = (Y aa)∧(x.1.2 b) = (X.2 aa)∧aa < X.1)∧capC (x.1.2 b)∧∀(ab : Option Addr) (ac : Nat), True∧∃(ad : Nat) (ag : CD) (ah : Nat→Option Addr) (aj : Nat→Nat) (ak : Nat), ((symRows true 3 L.1 T U) = (symRows true ad ag ah aj)∧(T b) = (ah ak)∧(L.1.2 b) = (ag.2 ak)∧ak < ag.1)∧capC (L.1.2 b)∧∀(al : Option Addr) (am : Nat), True∧l = l∧True∧l = l∧∃(ao aq : Option Addr) (ar au : Nat), (Wu [Wa [Wi n, Ws ab (x.1.2 b) ac, Wb (x.1.4 b), Ws al (L.1.2 b) am, Wb (L.1.4 b), Wi (slC gG gB gR gC n K)], Wb true]) = (Wu [Wa [Wi ti, Ws ao bn ar, Wb bp, Ws aq an au, Wb ap, Wi tc], Wb tk])∧((true = true∧ab = ao∧3 = 3∧1 = 1∧(x.1.2 b) = bn∧ac = ar∧(∀ av : Nat, av < (x.1.2 b)→(Wi (X.3 aa av)) = (Wi (bf av)))∧True)∧(true = true∧al = aq∧3 = 3∧1 = 1∧(L.1.2 b) = an∧am = au∧(∀ av : Nat, av < (L.1.2 b)→(Wi (ag.3 ak av)) = (Wi (af av)))∧True)∧True)∧true = true) (slA gG gB gR gC n K)) (AD.mk z x.2 I x.4 J))) (! (arrOk gG gB gR gC (AD.mk p x.2 t x.4 u))))∧((! (atOk gG gB gR gC n)) = true→l = l∧l = l∧h)) (∃(h j : Option Addr) (k l : Nat), (Wu [Wa [Wi 0, Wn, Wb false, Wn, Wb false, Wi 0], Wb false]) = (Wu [Wa [Wi ti, Ws h bn k, Wb bp, Ws j an l, Wb ap, Wi tc], Wb tk])∧((true = true∧(none : Option Addr) = h∧0 = bn∧0 = k∧true = true)∧(true = true∧(none : Option Addr) = j∧0 = an∧0 = l∧true = true)∧True)∧true = true)) [fun g => Cs 3 (so g) (x.1.2 g) (sc g), fun g => Cb (x.1.4 g)]) (symRows false 0 x.1 so (fun d => 0))) (Int.toNat n)) := by kernel_rfl
theorem sbgI_any (x : AD) (O A H : Option Addr) (C D E : Nat) (so : Nat → Option Addr) (sc : Nat → Nat) (gG gB gR gC : Int) (n : Int) (ti : Int) (bn : Nat) (bf : Nat → Int) (bp : Bool) (an : Nat) (af : Nat → Int) (ap : Bool) (tc : Int) (tk : Bool) (w : World) (hA : SeenA w x O A H so sc) (hcap : capA x) (hN : slOk gG gB gR gC n x = false → ti = 0 ∧ bn = 0 ∧ bp = false ∧ an = 0 ∧ ap = false ∧ tc = 0 ∧ tk = false) (hY : slOk gG gB gR gC n x = true → n = ti ∧ bn = x.c.sn n.toNat ∧ bf = x.c.sy n.toNat ∧ bp = x.c.po n.toNat ∧ an = (slA gG gB gR gC n x).c.sn n.toNat ∧ af = (slA gG gB gR gC n x).c.sy n.toNat ∧ ap = (slA gG gB gR gC n x).c.po n.toNat ∧ tc = slC gG gB gR gC n x ∧ tk = true) : Calls Try.prog 11 #[.agg #[.int .i64 gG, .int .i64 gB, .int .i64 gR, .int .i64 gC], arrV x O A H C D E, .int .i64 n] w fun e w' => ∃ (r1 r2 : Option Addr) (c1 c2 : Nat), e = .returned (.tuple #[.agg #[.int .i64 ti, .slice r1 bn c1, .bool bp, .slice r2 an c2, .bool ap, .int .i64 tc], .bool tk]) ∧ HS ⟨w, fun _ => False⟩ [.row ⟨true, r1, 3, 1, bn, c1, [fun i => .int (bf i)]⟩, .row ⟨true, r2, 3, 1, an, c2, [fun i => .int (af i)]⟩] w' := by
  refine fnB (tb := [(27, sAdAt), (28, sArrOk), (29, sScl), (30, sCpC)]) ⟨sAdAt_I, sArrOk_I, sScl_I, sCpC_I, trivial⟩ Try.func11 (@Eq.mpr _ _ (sbgI_T x O A H C D E so sc gG gB gR gC n ti bn bf bp an af ap tc tk) ?_) (HS.seenAll (fun _ => False) _ (hA.all 0 seenC_nil)) (fun v ch' w' ⟨r1, r2, c1, c2, hk⟩ hs => ⟨r1, r2, c1, c2, by rw [hk.1], hk.hs hs⟩)
  dsimp -zeta -proj -iota -eta -failIfUnchanged (etaStruct := .none) only
  clear hA
  have hl := lenA_of hcap
  have hln := @line_rng gG gB gR gC
  cases hok : arrOk gG gB gR gC x
  · obtain ⟨rfl, rfl, rfl, rfl, rfl, rfl, rfl⟩ := hN (by simp [slOk, hok])
    repeat' (first
      | with_reducible exact rfl
      | exact True.intro
      | with_reducible assumption
      | exact hl
      | exact hcap
      | with_reducible exact hs11
      | with_reducible exact hn11
      | (intro h; exfalso; rw [hok] at h; simp at h; done)
      | (intro h; exfalso; rw [hpo] at h; cases h; done)
      | (show rng _; simp only [rng]; omega)
      | (show capC _; assumption)
      | (refine ⟨_, _, _, _, _, ⟨rfl, rfl, rfl, ?_⟩, ?_⟩)
      | (intro i hi; exact absurd hi (Nat.not_lt_zero i))
      | refine And.intro ?_ ?_
      | apply Exists.intro
      | (intro h; exfalso; simp at h; done)
      | (intro h; replace h := of_decide_eq_true h; first | (exfalso; omega) | skip)
      | (intro h; replace h := of_decide_eq_false h; first | (exfalso; omega) | skip)
      | (intro i hi; with_reducible exact rfl)
      | intro _
      | omega
      | exact rfl)
  · cases had : atOk gG gB gR gC n
    · obtain ⟨rfl, rfl, rfl, rfl, rfl, rfl, rfl⟩ := hN (by simp [slOk, had])
      have hbt := at_no hok had
      repeat' (first
        | with_reducible exact rfl
        | exact True.intro
        | with_reducible assumption
        | exact hl
        | exact hcap
        | with_reducible exact hs11
        | with_reducible exact hn11
        | (intro h; exfalso; rw [hok] at h; simp at h; done)
        | (intro h; exfalso; rw [had] at h; simp at h; done)
        | (intro h; exfalso; rw [hbt] at h; simp at h; done)
        | (intro h; exfalso; rw [hpo] at h; cases h; done)
        | (show rng _; simp only [rng]; omega)
        | (show capC _; assumption)
        | (refine ⟨_, _, _, _, _, ⟨rfl, rfl, rfl, ?_⟩, ?_⟩)
        | (intro i hi; exact absurd hi (Nat.not_lt_zero i))
        | refine And.intro ?_ ?_
        | apply Exists.intro
        | (intro h; exfalso; simp at h; done)
        | (intro h; replace h := of_decide_eq_true h; first | (exfalso; omega) | skip)
        | (intro h; replace h := of_decide_eq_false h; first | (exfalso; omega) | skip)
        | (intro i hi; with_reducible exact rfl)
        | intro _
        | omega
        | exact rfl)
    · have hokk : slOk gG gB gR gC n x = true := by simp [slOk, hok, had]
      have hin := at_in hok had
      have hi1 := hin.1.1
      have hi2 := hin.1.2
      have hi3 : ltN (tn n) x.c.n := hin.2.1
      have hbt := hin.2.2
      have hsy : symB (x.c.sn n.toNat) (x.c.sy n.toNat) 11 = true := (arrOk_facts hok).2.2.2.2 _ hi3
      have hn11 : x.c.sn n.toNat = 11 := by have := symB_n hsy; omega
      have hs11 : symB 11 (x.c.sy n.toNat) 11 = true := by rw [hn11] at hsy; exact hsy
      have hel := symB_el hs11
      have hcp : capC (x.c.sn n.toNat) := hcap.2.2.2 _ hi3
      have hc11 : capC 11 := by show 11 ≤ 2097152; omega
      obtain ⟨rfl, rfl, rfl, rfl, rfl, rfl, rfl, rfl, rfl⟩ := hY hokk
      have hz := capA_sl (gG := gG) (gB := gB) (gR := gR) (gC := gC) (n := n) hcap
      have hzn : (slA gG gB gR gC n x).c.n = x.c.n := slA_n
      have hi2z : n < (((slA gG gB gR gC n x).c.n : Nat) : Int) := by rw [hzn]; exact hi2
      have hi3z : ltN (tn n) (slA gG gB gR gC n x).c.n := by rw [hzn]; exact hi3
      have hcz : capC ((slA gG gB gR gC n x).c.sn n.toNat) := hz.2.2.2 _ hi3z
      repeat' (first
        | with_reducible exact rfl
        | exact True.intro
        | with_reducible assumption
        | exact hl
        | exact hcap
        | with_reducible exact hs11
        | with_reducible exact hn11
        | (intro h; exfalso; rw [hok] at h; simp at h; done)
        | (intro h; exfalso; rw [had] at h; simp at h; done)
        | (intro h; exfalso; rw [hbt] at h; simp at h; done)
        | (intro h; exfalso; rw [hpo] at h; cases h; done)
        | (show rng _; simp only [rng]; omega)
        | (show capC _; assumption)
        | (refine ⟨_, _, _, _, _, ⟨rfl, rfl, rfl, ?_⟩, ?_⟩)
        | refine And.intro ?_ ?_
        | apply Exists.intro
        | (intro h; exfalso; simp at h; done)
        | (intro h; replace h := of_decide_eq_true h; first | (exfalso; omega) | skip)
        | (intro h; replace h := of_decide_eq_false h; first | (exfalso; omega) | skip)
        | (intro i hi; with_reducible exact rfl)
        | intro _
        | omega
        | exact rfl)
end Go.Proofs.Ytmgjmglmjfjliaa

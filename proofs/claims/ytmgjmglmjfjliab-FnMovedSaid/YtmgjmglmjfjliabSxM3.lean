/-
  Moves stepped.
-/
import Derived.Test.YtmgjmglmjfjliabSxM2
namespace Go.Proofs.Ytmgjmglmjfjliab
set_option linter.unusedVariables false
set_option linter.unusedSimpArgs false
open Go.RowKit
set_option maxRecDepth 100000
set_option maxHeartbeats 1000000

def stepOk (gG gB gR gC : Int) (mB mF mT mN : Int) (x : AD) : Bool := arrOk gG gB gR gC x && mvOk gG gB gR gC mB mF mT mN && ine mN gC
def stepA (gG gB gR gC : Int) (mB mF mT mN : Int) (x : AD) : AD := if stepOk gG gB gR gC mB mF mT mN x = true then setA x (ixN gG gB gR gC mB mT mN) (x.c.sn (ixN gG gB gR gC mB mF mN)) (x.c.sy (ixN gG gB gR gC mB mF mN)) (x.c.po (ixN gG gB gR gC mB mF mN)) else x
def stepN (gG gB gR gC : Int) (mB mF mT mN : Int) (x : AD) : Int := if stepOk gG gB gR gC mB mF mT mN x = true then mN + 1 else mN
theorem adOk_col {g b r c k x z : Int} (h : adOk g b r c k x 0 = true) (hz : 0 ≤ z ∧ z ≤ c - 1) : adOk g b r c k x z = true := by
  simp only [adOk, Bool.and_eq_true] at h ⊢
  exact ⟨h.1, btw_mk hz.1 hz.2⟩
theorem step_facts {gG gB gR gC mB mF mT mN : Int} {x : AD} (h : stepOk gG gB gR gC mB mF mT mN x = true) : arrOk gG gB gR gC x = true ∧ mvOk gG gB gR gC mB mF mT mN = true ∧ (ine mN gC = true ∧ ieq mN gC = false) ∧ adOk gG gB gR gC mB mF mN = true ∧ adOk gG gB gR gC mB mT mN = true ∧ (0 ≤ mN ∧ mN ≤ 7) := by
  simp only [stepOk, Bool.and_eq_true] at h
  obtain ⟨⟨h1, h2⟩, h3⟩ := h
  have h3' : mN ≠ gC := by simpa [ine] using h3
  have h4 := h2
  simp only [mvOk, mvB, Bool.and_eq_true] at h4
  obtain ⟨⟨⟨ha, hb⟩, _⟩, hn⟩ := h4
  have hn' := btw_f hn
  have hf := geo_facts (adOk_facts ha).1
  exact ⟨h1, h2, ⟨h3, by simpa [ieq] using h3'⟩, adOk_col ha ⟨hn'.1, by omega⟩, adOk_col hb ⟨hn'.1, by omega⟩, by omega⟩
theorem mstIY_T (x : AD) (O A H : Option Addr) (C D E : Nat) (so : Nat → Option Addr) (sc : Nat → Nat) (gG gB gR gC : Int) (mB mF mT mN : Int) : (exFn Try.prog {tb := [(27, sCpA), (24, sArrOk), (13, sMvOk), (29, sLd), (30, sSt)], D := fun _ => [7, 8]} 400 Try.f10 ([.a (.agg [.int gG, .int gB, .int gR, .int gC]), .a (arrS 0 x O A H C D E), .a (.agg [.int mB, .int mF, .int mT, .int mN])]) (arrR 0 x O A H so sc) (fun v ch => ∃ (Oq Aq Hq : Option Addr) (Cq Dq Ee : Nat) (soq : Nat → Option Addr) (scq : Nat → Nat), v.den = .tuple #[arrV (stA gG gB gR gC mB mT mN x (x.c.sn (ixN gG gB gR gC mB mF mN)) (x.c.sy (ixN gG gB gR gC mB mF mN)) (x.c.po (ixN gG gB gR gC mB mF mN))) Oq Aq Hq Cq Dq Ee, .agg #[.int .i64 mB, .int .i64 mF, .int .i64 mT, .int .i64 (iadd mN 1)], .bool true] ∧ SelS ch (idsArr v ch) (arrO 0 (stA gG gB gR gC mB mT mN x (x.c.sn (ixN gG gB gR gC mB mF mN)) (x.c.sy (ixN gG gB gR gC mB mF mN)) (x.c.po (ixN gG gB gR gC mB mF mN))) Oq Aq Hq Cq Dq Ee soq scq))) = (
  (fun b : Value => (fun d : List (Nat→SC) => (fun g : List (Nat→SC) => (fun h : Nat => (fun j : Bool => (fun k : List Row => (fun l : List SC => (fun m : List SC => (fun n : Value => (fun o : Ch => (fun p : Ch => (fun q : Ch => (fun r : List SC => (fun s : List SC => (fun t : Value => (fun u : List (Nat→SC) => (fun w : Ch => (fun y : AD => (fun z : List (Nat→SC) => (fun B : List (Nat→SC) => ∀ F G I J K : Nat, (fun L : Prop => F = F∧G = G∧∃(M : Nat) (N : CD) (P : Nat→Option Addr) (Q R : Nat→Nat) (S T : Nat→Int), (fun U : Bool => (k = (symRows false M N P R)∧u = [fun V => Cs 3 (P V) (N.2 V) (Q V), fun V => Cb (N.4 V)]∧O = O∧x.1.1 = x.1.1∧x.1.1 = N.1∧A = A∧x.2 = x.2∧g = [fun V => Ci (S V)]∧H = H∧x.4 = x.4∧d = [fun V => Ci (T V)])∧lenA (AD.mk N x.2 S x.4 T)∧(U = false→F = F∧I = I∧(j = false→I = I∧F = F∧((mN == gC) = true→L)∧((mN == gC) = false→F = F∧G = G∧I = I∧I = I∧I = I∧∃(V : Nat) (W : CD) (X : Nat→Option Addr) (Y Z : Nat→Nat) (aa ab : Nat→Int), (k = (symRows false V W X Z)∧u = [fun ac => Cs 3 (X ac) (W.2 ac) (Y ac), fun ac => Cb (W.4 ac)]∧O = O∧x.1.1 = x.1.1∧x.1.1 = W.1∧A = A∧x.2 = x.2∧g = [fun ac => Ci (aa ac)]∧H = H∧x.4 = x.4∧d = [fun ac => Ci (ab ac)])∧(capA (AD.mk W x.2 aa x.4 ab)∧(arrOk gG gB gR gC (AD.mk W x.2 aa x.4 ab)) = true∧(adOk gG gB gR gC mB mF mN) = true)∧∀(ac : Option Addr) (ad af : Nat), af = af∧F = F∧G = G∧I = I∧I = I∧I = I∧af = af∧∃(ag : Nat) (ah : CD) (aj : Nat→Option Addr) (ak al : Nat→Nat) (am an : Nat→Int), (fun ao : AD => (k = (symRows false ag ah aj al)∧u = [fun ap => Cs 3 (aj ap) (ah.2 ap) (ak ap), fun ap => Cb (ah.4 ap)]∧O = O∧x.1.1 = x.1.1∧x.1.1 = ah.1∧A = A∧x.2 = x.2∧g = [fun ap => Ci (am ap)]∧H = H∧x.4 = x.4∧d = [fun ap => Ci (an ap)])∧∃ ap : Nat→Int, (fun aq : AD => (ac = ac∧(W.2 h) = (W.2 h)∧[fun ar => Ci (W.3 h ar)] = [fun ar => Ci (ap ar)])∧(capA ao∧capC (W.2 h))∧∀(ar au av : Option Addr) (aw ax ay : Nat) (az : Nat→Option Addr) (aA : Nat→Nat) (aB : Nat), (fun aC : List SC => aB = aB∧I = I∧rng (mN + (1 : Int))∧I = I∧aB = aB∧I = I∧J = J∧True∧K = K∧True∧J = J∧K = K∧∃(aD aE aF : Option Addr) (aG aH aI : Nat) (aJ : Nat→Option Addr) (aK : Nat→Nat), (Wu [Wa [Ws ar aq.1.1 aw, Ws au aq.2 ax, Ws av aq.4 ay], t, b]) = (Wu [Wa [Ws aD y.1.1 aG, Ws aE y.2 aH, Ws aF y.4 aI], t, b])∧SelS [w, q, p, o, Hc F 25 m, Hc G 31 s, Hc I 36 r, Hc J 31 aC, Hc K 36 r, Hr true ac 3 1 (W.2 h) ad [fun aL => Ci (W.3 h aL)], Hc af 61 [Cs 9 ac (W.2 h) ad, Cb (W.4 h)], Hr true ar 61 2 aq.1.1 aw [fun aL => Cs 14 (az aL) (aq.1.2 aL) (aA aL), fun aL => Cb (aq.1.4 aL)], Hr true au 3 1 aq.2 ax [fun aL => Ci (aq.3 aL)], Hr true av 3 1 aq.4 ay [fun aL => Ci (aq.5 aL)], Ho true (symRows true 3 aq.1 az aA), Hc aB 31 aC] [11, 12, 13, 14] [Hr true aD 61 2 y.1.1 aG [fun aL => Cs 3 (aJ aL) (y.1.2 aL) (aK aL), fun aL => Cb (y.1.4 aL)], Hr true aE 3 1 y.2 aH B, Hr true aF 3 1 y.4 aI z, Ho true (symRows true 3 y.1 aJ aK)]) [Cs 11 ar aq.1.1 aw, Cs 12 au aq.2 ax, Cs 13 av aq.4 ay]) (stA gG gB gR gC mB mT mN ao (W.2 h) ap (W.4 h))) (AD.mk ah x.2 am x.4 an)))∧(j = true→L))∧(U = true→L)) (! (arrOk gG gB gR gC (AD.mk N x.2 S x.4 T)))) (G = G∧I = I∧∃(L : Nat) (M : CD) (N : Nat→Option Addr) (P Q : Nat→Nat) (R S : Nat→Int), (k = (symRows false L M N Q)∧u = [fun T => Cs 3 (N T) (M.2 T) (P T), fun T => Cb (M.4 T)]∧O = O∧x.1.1 = x.1.1∧x.1.1 = M.1∧A = A∧x.2 = x.2∧g = [fun T => Ci (R T)]∧H = H∧x.4 = x.4∧d = [fun T => Ci (S T)])∧capA (AD.mk M x.2 R x.4 S)∧∀(T U V : Option Addr) (W X Y : Nat) (Z : Nat→Option Addr) (aa : Nat→Nat), True∧J = J∧True∧K = K∧True∧J = J∧K = K∧∃(ab ac ad : Option Addr) (af ag ah : Nat) (aj : Nat→Option Addr) (ak : Nat→Nat), (Wu [Wa [Ws T M.1 W, Ws U x.2 X, Ws V x.4 Y], n, Wb false]) = (Wu [Wa [Ws ab y.1.1 af, Ws ac y.2 ag, Ws ad y.4 ah], t, b])∧SelS [w, q, p, o, Hc F 25 m, Hc G 31 s, Hc I 36 l, Hc J 31 [Cs 9 T M.1 W, Cs 10 U x.2 X, Cs 11 V x.4 Y], Hc K 36 l, Hr true T 61 2 M.1 W [fun al => Cs 12 (Z al) (M.2 al) (aa al), fun al => Cb (M.4 al)], Hr true U 3 1 x.2 X [fun al => Ci (R al)], Hr true V 3 1 x.4 Y [fun al => Ci (S al)], Ho true (symRows true 3 M Z aa)] [9, 10, 11, 12] [Hr true ab 61 2 y.1.1 af [fun al => Cs 3 (aj al) (y.1.2 al) (ak al), fun al => Cb (y.1.4 al)], Hr true ac 3 1 y.2 ag B, Hr true ad 3 1 y.4 ah z, Ho true (symRows true 3 y.1 aj ak)])) [fun B => Ci (y.3 B)]) [fun z => Ci (y.5 z)]) (stA gG gB gR gC mB mT mN x (x.1.2 h) (x.1.3 h) (x.1.4 h))) (Hr false O 0 2 x.1.1 0 u)) [fun u => Cs 3 (so u) (x.1.2 u) (sc u), fun u => Cb (x.1.4 u)]) (Wa [Wi mB, Wi mF, Wi mT, Wi (mN + (1 : Int))])) [Cs 0 O x.1.1 C, Cs 1 A x.2 D, Cs 2 H x.4 E]) [Ci mB, Ci mF, Ci mT, Ci (mN + (1 : Int))]) (Hr false A 0 1 x.2 0 g)) (Hr false H 0 1 x.4 0 d)) (Ho false k)) (Wa [Wi mB, Wi mF, Wi mT, Wi mN])) [Ci gG, Ci gB, Ci gR, Ci gC]) [Ci mB, Ci mF, Ci mT, Ci mN]) (symRows false 0 x.1 so (fun k => 0))) (! (mvOk gG gB gR gC mB mF mT mN))) (ixN gG gB gR gC mB mF mN)) [fun g => Ci (x.3 g)]) [fun d => Ci (x.5 d)]) (Wb true)) := by kernel_rfl
theorem mstIY_any (x : AD) (O A H : Option Addr) (C D E : Nat) (so : Nat → Option Addr) (sc : Nat → Nat) (gG gB gR gC : Int) (mB mF mT mN : Int) (w : World) (hA : SeenA w x O A H so sc) (hcap : capA x) (hst : stepOk gG gB gR gC mB mF mT mN x = true) : Calls Try.prog 10 #[.agg #[.int .i64 gG, .int .i64 gB, .int .i64 gR, .int .i64 gC], arrV x O A H C D E, .agg #[.int .i64 mB, .int .i64 mF, .int .i64 mT, .int .i64 mN]] w fun e w' => ∃ (Oq Aq Hq : Option Addr) (Cq Dq Ee : Nat) (soq : Nat → Option Addr) (scq : Nat → Nat), e = .returned (.tuple #[arrV (stA gG gB gR gC mB mT mN x (x.c.sn (ixN gG gB gR gC mB mF mN)) (x.c.sy (ixN gG gB gR gC mB mF mN)) (x.c.po (ixN gG gB gR gC mB mF mN))) Oq Aq Hq Cq Dq Ee, .agg #[.int .i64 mB, .int .i64 mF, .int .i64 mT, .int .i64 (iadd mN 1)], .bool true]) ∧ HS ⟨w, fun _ => False⟩ (arrO 0 (stA gG gB gR gC mB mT mN x (x.c.sn (ixN gG gB gR gC mB mF mN)) (x.c.sy (ixN gG gB gR gC mB mF mN)) (x.c.po (ixN gG gB gR gC mB mF mN))) Oq Aq Hq Cq Dq Ee soq scq) w' := by
  refine fnB (tb := [(27, sCpA), (24, sArrOk), (13, sMvOk), (29, sLd), (30, sSt)]) (D := fun _ => [7, 8]) ⟨sCpA_I, sArrOk_I, sMvOk_I, sLd_ok, sSt_ok, trivial⟩ Try.func10 (@Eq.mpr _ _ (mstIY_T x O A H C D E so sc gG gB gR gC mB mF mT mN) ?_) (HS.seenAll (fun _ => False) _ (hA.all 0 seenC_nil)) (fun v ch' w' ⟨Oq, Aq, Hq, Cq, Dq, Ee, soq, scq, hv, hc⟩ hs => ⟨Oq, Aq, Hq, Cq, Dq, Ee, soq, scq, by rw [hv], hc.hs hs⟩)
  dsimp -zeta -proj -iota -eta -failIfUnchanged (etaStruct := .none) only
  clear hA
  have hl := lenA_of hcap
  obtain ⟨hok, hmv, ⟨hne, heq⟩, hdf, hdt, hn⟩ := step_facts hst
  have hif := arr_in hok hdf
  have hit := arr_in hok hdt
  have i1 := hif.1
  have i2 := hif.2.1
  have i3 : ltN (tn (adIx gG gB gR gC mB mF mN)) x.c.n := hif.2.2
  have i4 := hit.1
  have i5 := hit.2.1
  have i6 : ltN (tn (adIx gG gB gR gC mB mT mN)) x.c.n := hit.2.2
  have hcp : capC (x.c.sn (adIx gG gB gR gC mB mF mN).toNat) := hcap.2.2.2 _ hif.2.2
  have hcp2 : capC (x.c.sn (ixN gG gB gR gC mB mF mN)) := hcp
  have heq2 : (mN == gC) = false := heq
  repeat' (first
    | with_reducible exact rfl
    | exact True.intro
    | with_reducible assumption
    | exact hl
    | exact hcap
    | (intro h; exfalso; rw [hok] at h; simp at h; done)
    | (intro h; exfalso; rw [hmv] at h; simp at h; done)
    | (intro h; exfalso; rw [heq2] at h; simp at h; done)
    | (refine ⟨_, _, _, _, _, ⟨rfl, rfl, rfl, ?_⟩, ?_⟩)
    | exact (by refine ⟨?_, rfl⟩; repeat' (first | exact True.intro | exact symRows_push | exact rfl | refine And.intro ?_ ?_ | (intro i hi; show _ = _; with_reducible rfl) | (intro i hi; show _ = _; rfl) | (intro i hi; show _ = _; simp only [SC.den]; split <;> rfl)))
    | refine And.intro ?_ ?_
    | apply Exists.intro
    | (intro h; exfalso; simp at h; done)
    | (intro h; replace h := of_decide_eq_true h; first | (exfalso; omega) | skip)
    | (intro h; replace h := of_decide_eq_false h; first | (exfalso; omega) | skip)
    | (intro i hi; with_reducible exact rfl)
    | intro _
    | omega
    | exact rfl)
theorem mstIN_T (x : AD) (O A H : Option Addr) (C D E : Nat) (so : Nat → Option Addr) (sc : Nat → Nat) (gG gB gR gC : Int) (mB mF mT mN : Int) : (exFn Try.prog {tb := [(27, sCpA), (24, sArrOk), (13, sMvOk), (29, sLd), (30, sSt)], D := fun _ => [7, 8]} 400 Try.f10 ([.a (.agg [.int gG, .int gB, .int gR, .int gC]), .a (arrS 0 x O A H C D E), .a (.agg [.int mB, .int mF, .int mT, .int mN])]) (arrR 0 x O A H so sc) (fun v ch => ∃ (Oq Aq Hq : Option Addr) (Cq Dq Ee : Nat) (soq : Nat → Option Addr) (scq : Nat → Nat), v.den = .tuple #[arrV (x) Oq Aq Hq Cq Dq Ee, .agg #[.int .i64 mB, .int .i64 mF, .int .i64 mT, .int .i64 mN], .bool false] ∧ SelS ch (idsArr v ch) (arrO 0 x Oq Aq Hq Cq Dq Ee soq scq))) = (
  (fun b : Value => (fun c : List (Nat→SC) => (fun d : List (Nat→SC) => (fun g : Nat => (fun h : Bool => (fun j : List Row => (fun k : List SC => (fun l : List SC => (fun m : Value => (fun n : Ch => (fun o : Ch => (fun p : Ch => (fun q : List SC => (fun r : List SC => (fun s : List (Nat→SC) => (fun t : Ch => ∀ u w y z B : Nat, (fun F : Prop => u = u∧w = w∧∃(G : Nat) (I : CD) (J : Nat→Option Addr) (K L : Nat→Nat) (M N : Nat→Int), (fun P : Bool => (j = (symRows false G I J L)∧s = [fun Q => Cs 3 (J Q) (I.2 Q) (K Q), fun Q => Cb (I.4 Q)]∧O = O∧x.1.1 = x.1.1∧x.1.1 = I.1∧A = A∧x.2 = x.2∧d = [fun Q => Ci (M Q)]∧H = H∧x.4 = x.4∧c = [fun Q => Ci (N Q)])∧lenA (AD.mk I x.2 M x.4 N)∧(P = false→u = u∧y = y∧(h = false→y = y∧u = u∧((mN == gC) = true→F)∧((mN == gC) = false→u = u∧w = w∧y = y∧y = y∧y = y∧∃(Q : Nat) (R : CD) (S : Nat→Option Addr) (T U : Nat→Nat) (V W : Nat→Int), (j = (symRows false Q R S U)∧s = [fun X => Cs 3 (S X) (R.2 X) (T X), fun X => Cb (R.4 X)]∧O = O∧x.1.1 = x.1.1∧x.1.1 = R.1∧A = A∧x.2 = x.2∧d = [fun X => Ci (V X)]∧H = H∧x.4 = x.4∧c = [fun X => Ci (W X)])∧(capA (AD.mk R x.2 V x.4 W)∧(arrOk gG gB gR gC (AD.mk R x.2 V x.4 W)) = true∧(adOk gG gB gR gC mB mF mN) = true)∧∀(X : Option Addr) (Y Z : Nat), Z = Z∧u = u∧w = w∧y = y∧y = y∧y = y∧Z = Z∧∃(aa : Nat) (ab : CD) (ac : Nat→Option Addr) (ad af : Nat→Nat) (ag ah : Nat→Int), (fun aj : AD => (j = (symRows false aa ab ac af)∧s = [fun ak => Cs 3 (ac ak) (ab.2 ak) (ad ak), fun ak => Cb (ab.4 ak)]∧O = O∧x.1.1 = x.1.1∧x.1.1 = ab.1∧A = A∧x.2 = x.2∧d = [fun ak => Ci (ag ak)]∧H = H∧x.4 = x.4∧c = [fun ak => Ci (ah ak)])∧∃ ak : Nat→Int, (fun al : AD => (X = X∧(R.2 g) = (R.2 g)∧[fun am => Ci (R.3 g am)] = [fun am => Ci (ak am)])∧(capA aj∧capC (R.2 g))∧∀(am an ao : Option Addr) (ap aq ar : Nat) (au : Nat→Option Addr) (av : Nat→Nat) (aw : Nat), (fun ax : List SC => aw = aw∧y = y∧rng (mN + (1 : Int))∧y = y∧aw = aw∧y = y∧z = z∧True∧B = B∧True∧z = z∧B = B∧∃(ay az aA : Option Addr) (aB aC aD : Nat) (aE : Nat→Option Addr) (aF : Nat→Nat), (Wu [Wa [Ws am al.1.1 ap, Ws an al.2 aq, Ws ao al.4 ar], Wa [Wi mB, Wi mF, Wi mT, Wi (mN + (1 : Int))], Wb true]) = (Wu [Wa [Ws ay x.1.1 aB, Ws az x.2 aC, Ws aA x.4 aD], m, b])∧SelS [t, p, o, n, Hc u 25 l, Hc w 31 r, Hc y 36 q, Hc z 31 ax, Hc B 36 q, Hr true X 3 1 (R.2 g) Y [fun aG => Ci (R.3 g aG)], Hc Z 61 [Cs 9 X (R.2 g) Y, Cb (R.4 g)], Hr true am 61 2 al.1.1 ap [fun aG => Cs 14 (au aG) (al.1.2 aG) (av aG), fun aG => Cb (al.1.4 aG)], Hr true an 3 1 al.2 aq [fun aG => Ci (al.3 aG)], Hr true ao 3 1 al.4 ar [fun aG => Ci (al.5 aG)], Ho true (symRows true 3 al.1 au av), Hc aw 31 ax] [11, 12, 13, 14] [Hr true ay 61 2 x.1.1 aB [fun aG => Cs 3 (aE aG) (x.1.2 aG) (aF aG), fun aG => Cb (x.1.4 aG)], Hr true az 3 1 x.2 aC d, Hr true aA 3 1 x.4 aD c, Ho true (symRows true 3 x.1 aE aF)]) [Cs 11 am al.1.1 ap, Cs 12 an al.2 aq, Cs 13 ao al.4 ar]) (stA gG gB gR gC mB mT mN aj (R.2 g) ak (R.4 g))) (AD.mk ab x.2 ag x.4 ah)))∧(h = true→F))∧(P = true→F)) (! (arrOk gG gB gR gC (AD.mk I x.2 M x.4 N)))) (w = w∧y = y∧∃(F : Nat) (G : CD) (I : Nat→Option Addr) (J K : Nat→Nat) (L M : Nat→Int), (j = (symRows false F G I K)∧s = [fun N => Cs 3 (I N) (G.2 N) (J N), fun N => Cb (G.4 N)]∧O = O∧x.1.1 = x.1.1∧x.1.1 = G.1∧A = A∧x.2 = x.2∧d = [fun N => Ci (L N)]∧H = H∧x.4 = x.4∧c = [fun N => Ci (M N)])∧capA (AD.mk G x.2 L x.4 M)∧∀(N P Q : Option Addr) (R S T : Nat) (U : Nat→Option Addr) (V : Nat→Nat), True∧z = z∧True∧B = B∧True∧z = z∧B = B∧∃(W X Y : Option Addr) (Z aa ab : Nat) (ac : Nat→Option Addr) (ad : Nat→Nat), (Wu [Wa [Ws N G.1 R, Ws P x.2 S, Ws Q x.4 T], m, b]) = (Wu [Wa [Ws W x.1.1 Z, Ws X x.2 aa, Ws Y x.4 ab], m, b])∧SelS [t, p, o, n, Hc u 25 l, Hc w 31 r, Hc y 36 k, Hc z 31 [Cs 9 N G.1 R, Cs 10 P x.2 S, Cs 11 Q x.4 T], Hc B 36 k, Hr true N 61 2 G.1 R [fun af => Cs 12 (U af) (G.2 af) (V af), fun af => Cb (G.4 af)], Hr true P 3 1 x.2 S [fun af => Ci (L af)], Hr true Q 3 1 x.4 T [fun af => Ci (M af)], Ho true (symRows true 3 G U V)] [9, 10, 11, 12] [Hr true W 61 2 x.1.1 Z [fun af => Cs 3 (ac af) (x.1.2 af) (ad af), fun af => Cb (x.1.4 af)], Hr true X 3 1 x.2 aa d, Hr true Y 3 1 x.4 ab c, Ho true (symRows true 3 x.1 ac ad)])) (Hr false O 0 2 x.1.1 0 s)) [fun s => Cs 3 (so s) (x.1.2 s) (sc s), fun s => Cb (x.1.4 s)]) [Cs 0 O x.1.1 C, Cs 1 A x.2 D, Cs 2 H x.4 E]) [Ci mB, Ci mF, Ci mT, Ci (mN + (1 : Int))]) (Hr false A 0 1 x.2 0 d)) (Hr false H 0 1 x.4 0 c)) (Ho false j)) (Wa [Wi mB, Wi mF, Wi mT, Wi mN])) [Ci gG, Ci gB, Ci gR, Ci gC]) [Ci mB, Ci mF, Ci mT, Ci mN]) (symRows false 0 x.1 so (fun j => 0))) (! (mvOk gG gB gR gC mB mF mT mN))) (ixN gG gB gR gC mB mF mN)) [fun d => Ci (x.3 d)]) [fun c => Ci (x.5 c)]) (Wb false)) := by kernel_rfl
theorem mstIN_any (x : AD) (O A H : Option Addr) (C D E : Nat) (so : Nat → Option Addr) (sc : Nat → Nat) (gG gB gR gC : Int) (mB mF mT mN : Int) (w : World) (hA : SeenA w x O A H so sc) (hcap : capA x) (hst : stepOk gG gB gR gC mB mF mT mN x = false) : Calls Try.prog 10 #[.agg #[.int .i64 gG, .int .i64 gB, .int .i64 gR, .int .i64 gC], arrV x O A H C D E, .agg #[.int .i64 mB, .int .i64 mF, .int .i64 mT, .int .i64 mN]] w fun e w' => ∃ (Oq Aq Hq : Option Addr) (Cq Dq Ee : Nat) (soq : Nat → Option Addr) (scq : Nat → Nat), e = .returned (.tuple #[arrV (x) Oq Aq Hq Cq Dq Ee, .agg #[.int .i64 mB, .int .i64 mF, .int .i64 mT, .int .i64 mN], .bool false]) ∧ HS ⟨w, fun _ => False⟩ (arrO 0 (x) Oq Aq Hq Cq Dq Ee soq scq) w' := by
  refine fnB (tb := [(27, sCpA), (24, sArrOk), (13, sMvOk), (29, sLd), (30, sSt)]) (D := fun _ => [7, 8]) ⟨sCpA_I, sArrOk_I, sMvOk_I, sLd_ok, sSt_ok, trivial⟩ Try.func10 (@Eq.mpr _ _ (mstIN_T x O A H C D E so sc gG gB gR gC mB mF mT mN) ?_) (HS.seenAll (fun _ => False) _ (hA.all 0 seenC_nil)) (fun v ch' w' ⟨Oq, Aq, Hq, Cq, Dq, Ee, soq, scq, hv, hc⟩ hs => ⟨Oq, Aq, Hq, Cq, Dq, Ee, soq, scq, by rw [hv], hc.hs hs⟩)
  dsimp -zeta -proj -iota -eta -failIfUnchanged (etaStruct := .none) only
  clear hA
  have hl := lenA_of hcap
  cases hok : arrOk gG gB gR gC x
  · skip
    repeat' (first
      | with_reducible exact rfl
      | exact True.intro
      | with_reducible assumption
      | exact hl
      | exact hcap
      | (intro h; exfalso; rw [hok] at h; simp at h; done)
      | exact (by refine ⟨?_, rfl⟩; repeat' (first | exact True.intro | exact symRows_push | exact rfl | refine And.intro ?_ ?_ | (intro i hi; show _ = _; with_reducible rfl) | (intro i hi; show _ = _; rfl) | (intro i hi; show _ = _; simp only [SC.den]; split <;> rfl)))
      | refine And.intro ?_ ?_
      | apply Exists.intro
      | (intro h; exfalso; simp at h; done)
      | (intro h; replace h := of_decide_eq_true h; first | (exfalso; omega) | skip)
      | (intro h; replace h := of_decide_eq_false h; first | (exfalso; omega) | skip)
      | (intro i hi; with_reducible exact rfl)
      | intro _
      | omega
      | exact rfl)
  · cases hmv : mvOk gG gB gR gC mB mF mT mN
    · skip
      repeat' (first
        | with_reducible exact rfl
        | exact True.intro
        | with_reducible assumption
        | exact hl
        | exact hcap
        | (intro h; exfalso; rw [hok] at h; simp at h; done)
        | (intro h; exfalso; rw [hmv] at h; simp at h; done)
        | exact (by refine ⟨?_, rfl⟩; repeat' (first | exact True.intro | exact symRows_push | exact rfl | refine And.intro ?_ ?_ | (intro i hi; show _ = _; with_reducible rfl) | (intro i hi; show _ = _; rfl) | (intro i hi; show _ = _; simp only [SC.den]; split <;> rfl)))
        | refine And.intro ?_ ?_
        | apply Exists.intro
        | (intro h; exfalso; simp at h; done)
        | (intro h; replace h := of_decide_eq_true h; first | (exfalso; omega) | skip)
        | (intro h; replace h := of_decide_eq_false h; first | (exfalso; omega) | skip)
        | (intro i hi; with_reducible exact rfl)
        | intro _
        | omega
        | exact rfl)
    · have heq : (mN == gC) = true := by simpa [stepOk, hok, hmv, ine] using hst
      repeat' (first
        | with_reducible exact rfl
        | exact True.intro
        | with_reducible assumption
        | exact hl
        | exact hcap
        | (intro h; exfalso; rw [hok] at h; simp at h; done)
        | (intro h; exfalso; rw [hmv] at h; simp at h; done)
        | (intro h; exfalso; rw [heq] at h; simp at h; done)
        | exact (by refine ⟨?_, rfl⟩; repeat' (first | exact True.intro | exact symRows_push | exact rfl | refine And.intro ?_ ?_ | (intro i hi; show _ = _; with_reducible rfl) | (intro i hi; show _ = _; rfl) | (intro i hi; show _ = _; simp only [SC.den]; split <;> rfl)))
        | refine And.intro ?_ ?_
        | apply Exists.intro
        | (intro h; exfalso; simp at h; done)
        | (intro h; replace h := of_decide_eq_true h; first | (exfalso; omega) | skip)
        | (intro h; replace h := of_decide_eq_false h; first | (exfalso; omega) | skip)
        | (intro i hi; with_reducible exact rfl)
        | intro _
        | omega
        | exact rfl)
theorem mstI_any (x : AD) (O A H : Option Addr) (C D E : Nat) (so : Nat → Option Addr) (sc : Nat → Nat) (gG gB gR gC : Int) (mB mF mT mN : Int) (w : World) (hA : SeenA w x O A H so sc) (hcap : capA x) : Calls Try.prog 10 #[.agg #[.int .i64 gG, .int .i64 gB, .int .i64 gR, .int .i64 gC], arrV x O A H C D E, .agg #[.int .i64 mB, .int .i64 mF, .int .i64 mT, .int .i64 mN]] w fun e w' => ∃ (Oq Aq Hq : Option Addr) (Cq Dq Ee : Nat) (soq : Nat → Option Addr) (scq : Nat → Nat), e = .returned (.tuple #[arrV (stepA gG gB gR gC mB mF mT mN x) Oq Aq Hq Cq Dq Ee, .agg #[.int .i64 mB, .int .i64 mF, .int .i64 mT, .int .i64 (stepN gG gB gR gC mB mF mT mN x)], .bool (stepOk gG gB gR gC mB mF mT mN x)]) ∧ HS ⟨w, fun _ => False⟩ (arrO 0 (stepA gG gB gR gC mB mF mT mN x) Oq Aq Hq Cq Dq Ee soq scq) w' := by
  cases hst : stepOk gG gB gR gC mB mF mT mN x
  · have e : stepA gG gB gR gC mB mF mT mN x = x := by simp [stepA, hst]
    have e2 : stepN gG gB gR gC mB mF mT mN x = mN := by simp [stepN, hst]
    rw [e, e2]
    exact mstIN_any x O A H C D E so sc gG gB gR gC mB mF mT mN w hA hcap hst
  · have e : stepA gG gB gR gC mB mF mT mN x = stA gG gB gR gC mB mT mN x (x.c.sn (ixN gG gB gR gC mB mF mN)) (x.c.sy (ixN gG gB gR gC mB mF mN)) (x.c.po (ixN gG gB gR gC mB mF mN)) := by
      obtain ⟨hok, hmv, _, hdf, hdt, _⟩ := step_facts hst
      have hsy := (arrOk_facts hok).2.2.2.2 _ (arr_in hok hdf).2.2
      have hsy2 : symB (x.c.sn (ixN gG gB gR gC mB mF mN)) (x.c.sy (ixN gG gB gR gC mB mF mN)) 11 = true := hsy
      simp [stepA, hst, stA, stOk, hok, hdt, hsy2]
    have e2 : stepN gG gB gR gC mB mF mT mN x = iadd mN 1 := by simp [stepN, hst, iadd]
    rw [e, e2]
    exact mstIY_any x O A H C D E so sc gG gB gR gC mB mF mT mN w hA hcap hst
end Go.Proofs.Ytmgjmglmjfjliab

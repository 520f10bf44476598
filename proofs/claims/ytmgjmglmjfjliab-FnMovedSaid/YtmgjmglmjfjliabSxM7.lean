/-
  Words got while a row moves.
-/
import Derived.Test.YtmgjmglmjfjliabSxM6g
namespace Go.Proofs.Ytmgjmglmjfjliab
set_option linter.unusedVariables false
set_option linter.unusedSimpArgs false
open Go.RowKit
set_option maxRecDepth 100000
set_option maxHeartbeats 8000000

def sGw : Sm := fun args ch kk =>
  match args with
  | [.a (.agg [c0, c1, c2, c3]), .a c, .a (.agg [e0, e1, e2])] =>
    match ints [c0, c1, c2, c3, e0, e1, e2] with
    | some [gG, gB, gR, gC, dB, dR, dC] => rdA ch c fun x => capA x ∧ ∀ (Oq Aq Hq : Option Addr) (Cq Dq Ee : Nat) (soq : Nat → Option Addr) (scq : Nat → Nat), kk (.tup [arrS ch.length ((gwA gG gB gR gC dB dR dC x)) Oq Aq Hq Cq Dq Ee, .c (.int (gwX gG gB gR gC dB dR dC x)), .c (.int (gwC gG gB gR gC dB dR dC x))]) (ch ++ arrO ch.length ((gwA gG gB gR gC dB dR dC x)) Oq Aq Hq Cq Dq Ee soq scq) []
    | _ => False
  | _ => False
theorem sGw_I : SmOK Try.prog 31 sGw := by
  refine smN Try.call31 fun args ch kk w X h0 hs => ?_
  unfold sGw at h0
  split at h0
  · rename_i c0 c1 c2 c3 c e0 e1 e2
    split at h0
    · rename_i gG gB gR gC dB dR dC hi
      obtain ⟨q0, hi⟩ := ints_cons hi
      obtain ⟨q1, hi⟩ := ints_cons hi
      obtain ⟨q2, hi⟩ := ints_cons hi
      obtain ⟨q3, hi⟩ := ints_cons hi
      obtain ⟨q4, hi⟩ := ints_cons hi
      obtain ⟨q5, hi⟩ := ints_cons hi
      obtain ⟨q6, hi⟩ := ints_cons hi
      obtain ⟨x, O, A, H, C, D, E, so, sc, e, hA, hcond, h1⟩ := rdA_ok h0 hs
      have e20 : SA.den (.agg [c0, c1, c2, c3]) = .agg #[.int .i64 gG, .int .i64 gB, .int .i64 gR, .int .i64 gC] := by simp only [SA.den, den_c, List.map_cons, List.map_nil, q0, q1, q2, q3]
      have e21 : SA.den (.agg [e0, e1, e2]) = .agg #[.int .i64 dB, .int .i64 dR, .int .i64 dC] := by simp only [SA.den, den_c, List.map_cons, List.map_nil, q4, q5, q6]
      simp only [List.map_cons, List.map_nil, den_a, e, e20, e21]
      refine Calls.mono (gwI_all x O A H C D E so sc gG gB gR gC dB dR dC w hA hcond) fun e w' ⟨Oq, Aq, Hq, Cq, Dq, Ee, soq, scq, he, hs'⟩ => ⟨.tup [arrS ch.length ((gwA gG gB gR gC dB dR dC x)) Oq Aq Hq Cq Dq Ee, .c (.int (gwX gG gB gR gC dB dR dC x)), .c (.int (gwC gG gB gR gC dB dR dC x))], _, by rw [he]; rfl, arrO_at hs', rfl, h1 Oq Aq Hq Cq Dq Ee soq scq⟩
    · exact h0.elim
  · exact h0.elim
theorem sGw_S : SmOK Try.prog 12 sGw := by
  refine smN Try.call12 fun args ch kk w X h0 hs => ?_
  unfold sGw at h0
  split at h0
  · rename_i c0 c1 c2 c3 c e0 e1 e2
    split at h0
    · rename_i gG gB gR gC dB dR dC hi
      obtain ⟨q0, hi⟩ := ints_cons hi
      obtain ⟨q1, hi⟩ := ints_cons hi
      obtain ⟨q2, hi⟩ := ints_cons hi
      obtain ⟨q3, hi⟩ := ints_cons hi
      obtain ⟨q4, hi⟩ := ints_cons hi
      obtain ⟨q5, hi⟩ := ints_cons hi
      obtain ⟨q6, hi⟩ := ints_cons hi
      obtain ⟨x, O, A, H, C, D, E, so, sc, e, hA, hcond, h1⟩ := rdA_ok h0 hs
      have e20 : SA.den (.agg [c0, c1, c2, c3]) = .agg #[.int .i64 gG, .int .i64 gB, .int .i64 gR, .int .i64 gC] := by simp only [SA.den, den_c, List.map_cons, List.map_nil, q0, q1, q2, q3]
      have e21 : SA.den (.agg [e0, e1, e2]) = .agg #[.int .i64 dB, .int .i64 dR, .int .i64 dC] := by simp only [SA.den, den_c, List.map_cons, List.map_nil, q4, q5, q6]
      simp only [List.map_cons, List.map_nil, den_a, e, e20, e21]
      refine Calls.mono (gwS_all x O A H C D E so sc gG gB gR gC dB dR dC w hA hcond) fun e w' ⟨Oq, Aq, Hq, Cq, Dq, Ee, soq, scq, he, hs'⟩ => ⟨.tup [arrS ch.length ((gwA gG gB gR gC dB dR dC x)) Oq Aq Hq Cq Dq Ee, .c (.int (gwX gG gB gR gC dB dR dC x)), .c (.int (gwC gG gB gR gC dB dR dC x))], _, by rw [he]; rfl, arrO_at hs', rfl, h1 Oq Aq Hq Cq Dq Ee soq scq⟩
    · exact h0.elim
  · exact h0.elim
def mgA (gG gB gR gC : Int) (mB mF mT mN : Int) (x : AD) (q : Int) : AD := if mvOk gG gB gR gC mB mF mT mN = true then gwA gG gB gR gC mB (if ieq mN gC = true then mT else mF) q x else x
def mgX (gG gB gR gC : Int) (mB mF mT mN : Int) (x : AD) (q : Int) : Int := if mvOk gG gB gR gC mB mF mT mN = true then gwX gG gB gR gC mB (if ieq mN gC = true then mT else mF) q x else 0
def mgC (gG gB gR gC : Int) (mB mF mT mN : Int) (x : AD) (q : Int) : Int := if mvOk gG gB gR gC mB mF mT mN = true then gwC gG gB gR gC mB (if ieq mN gC = true then mT else mF) q x else 2
theorem mgtI_T (x : AD) (O A H : Option Addr) (C D E : Nat) (so : Nat → Option Addr) (sc : Nat → Nat) (gG gB gR gC : Int) (mB mF mT mN : Int) (q : Int) (z : AD) (gx gc : Int) : (exFn Try.prog {tb := [(13, sMvOk), (27, sCpA), (31, sGw)]} 400 Try.f11 ([.a (.agg [.int gG, .int gB, .int gR, .int gC]), .a (arrS 0 x O A H C D E), .a (.agg [.int mB, .int mF, .int mT, .int mN]), .a (.c (.int q))]) (arrR 0 x O A H so sc) (fun v ch => ∃ (Oq Aq Hq : Option Addr) (Cq Dq Ee : Nat) (soq : Nat → Option Addr) (scq : Nat → Nat), v.den = .tuple #[arrV z Oq Aq Hq Cq Dq Ee, .int .i64 gx, .int .i64 gc] ∧ SelS ch (idsArr v ch) (arrO 0 z Oq Aq Hq Cq Dq Ee soq scq))) = (
  (fun b : List (Nat→SC) => (fun d : List (Nat→SC) => (fun g : List (Nat→SC) => (fun h : List (Nat→SC) => (fun j : Bool => (fun k : List Row => (fun l : List SC => (fun m : List SC => (fun n : Ch => (fun o : Ch => (fun p : Ch => (fun r : List SC => (fun s : List (Nat→SC) => (fun t : Ch => ∀ u w y B : Nat, u = u∧y = y∧(j = true→w = w∧∃(F : Nat) (G : CD) (I : Nat→Option Addr) (J K : Nat→Nat) (L M : Nat→Int), (k = (symRows false F G I K)∧s = [fun N => Cs 3 (I N) (G.2 N) (J N), fun N => Cb (G.4 N)]∧O = O∧x.1.1 = x.1.1∧x.1.1 = G.1∧A = A∧x.2 = x.2∧h = [fun N => Ci (L N)]∧H = H∧x.4 = x.4∧g = [fun N => Ci (M N)])∧capA (AD.mk G x.2 L x.4 M)∧∀(N P Q : Option Addr) (R S T : Nat) (U : Nat→Option Addr) (V : Nat→Nat), B = B∧B = B∧∃(W X Y : Option Addr) (Z aa ab : Nat) (ac : Nat→Option Addr) (ad : Nat→Nat), (Wu [Wa [Ws N G.1 R, Ws P x.2 S, Ws Q x.4 T], Wi 0, Wi 2]) = (Wu [Wa [Ws W z.1.1 Z, Ws X z.2 aa, Ws Y z.4 ab], Wi gx, Wi gc])∧SelS [t, p, o, n, Hc u 25 m, Hc w 31 r, Hc y 36 l, Hc B 31 [Cs 8 N G.1 R, Cs 9 P x.2 S, Cs 10 Q x.4 T], Hr true N 61 2 G.1 R [fun af => Cs 11 (U af) (G.2 af) (V af), fun af => Cb (G.4 af)], Hr true P 3 1 x.2 S [fun af => Ci (L af)], Hr true Q 3 1 x.4 T [fun af => Ci (M af)], Ho true (symRows true 3 G U V)] [8, 9, 10, 11] [Hr true W 61 2 z.1.1 Z [fun af => Cs 3 (ac af) (z.1.2 af) (ad af), fun af => Cb (z.1.4 af)], Hr true X 3 1 z.2 aa d, Hr true Y 3 1 z.4 ab b, Ho true (symRows true 3 z.1 ac ad)])∧(j = false→y = y∧y = y∧u = u∧((mN == gC) = true→y = y∧u = u∧w = w∧y = y∧∃(F : Nat) (G : CD) (I : Nat→Option Addr) (J K : Nat→Nat) (L M : Nat→Int), (fun N : AD => (fun P : AD => (k = (symRows false F G I K)∧s = [fun Q => Cs 3 (I Q) (G.2 Q) (J Q), fun Q => Cb (G.4 Q)]∧O = O∧x.1.1 = x.1.1∧x.1.1 = G.1∧A = A∧x.2 = x.2∧h = [fun Q => Ci (L Q)]∧H = H∧x.4 = x.4∧g = [fun Q => Ci (M Q)])∧capA N∧∀(Q R S : Option Addr) (T U V : Nat) (W : Nat→Option Addr) (X : Nat→Nat), B = B∧B = B∧∃(Y Z aa : Option Addr) (ab ac ad : Nat) (af : Nat→Option Addr) (ag : Nat→Nat), (Wu [Wa [Ws Q P.1.1 T, Ws R P.2 U, Ws S P.4 V], Wi (gwX gG gB gR gC mB mT q N), Wi (gwC gG gB gR gC mB mT q N)]) = (Wu [Wa [Ws Y z.1.1 ab, Ws Z z.2 ac, Ws aa z.4 ad], Wi gx, Wi gc])∧SelS [t, p, o, n, Hc u 25 m, Hc w 31 r, Hc y 36 l, Hc B 31 [Cs 8 Q P.1.1 T, Cs 9 R P.2 U, Cs 10 S P.4 V], Hr true Q 61 2 P.1.1 T [fun ah => Cs 11 (W ah) (P.1.2 ah) (X ah), fun ah => Cb (P.1.4 ah)], Hr true R 3 1 P.2 U [fun ah => Ci (P.3 ah)], Hr true S 3 1 P.4 V [fun ah => Ci (P.5 ah)], Ho true (symRows true 3 P.1 W X)] [8, 9, 10, 11] [Hr true Y 61 2 z.1.1 ab [fun ah => Cs 3 (af ah) (z.1.2 ah) (ag ah), fun ah => Cb (z.1.4 ah)], Hr true Z 3 1 z.2 ac d, Hr true aa 3 1 z.4 ad b, Ho true (symRows true 3 z.1 af ag)]) (gwA gG gB gR gC mB mT q N)) (AD.mk G x.2 L x.4 M))∧((mN == gC) = false→u = u∧w = w∧y = y∧∃(F : Nat) (G : CD) (I : Nat→Option Addr) (J K : Nat→Nat) (L M : Nat→Int), (fun N : AD => (fun P : AD => (k = (symRows false F G I K)∧s = [fun Q => Cs 3 (I Q) (G.2 Q) (J Q), fun Q => Cb (G.4 Q)]∧O = O∧x.1.1 = x.1.1∧x.1.1 = G.1∧A = A∧x.2 = x.2∧h = [fun Q => Ci (L Q)]∧H = H∧x.4 = x.4∧g = [fun Q => Ci (M Q)])∧capA N∧∀(Q R S : Option Addr) (T U V : Nat) (W : Nat→Option Addr) (X : Nat→Nat), B = B∧B = B∧∃(Y Z aa : Option Addr) (ab ac ad : Nat) (af : Nat→Option Addr) (ag : Nat→Nat), (Wu [Wa [Ws Q P.1.1 T, Ws R P.2 U, Ws S P.4 V], Wi (gwX gG gB gR gC mB mF q N), Wi (gwC gG gB gR gC mB mF q N)]) = (Wu [Wa [Ws Y z.1.1 ab, Ws Z z.2 ac, Ws aa z.4 ad], Wi gx, Wi gc])∧SelS [t, p, o, n, Hc u 25 m, Hc w 31 r, Hc y 36 l, Hc B 31 [Cs 8 Q P.1.1 T, Cs 9 R P.2 U, Cs 10 S P.4 V], Hr true Q 61 2 P.1.1 T [fun ah => Cs 11 (W ah) (P.1.2 ah) (X ah), fun ah => Cb (P.1.4 ah)], Hr true R 3 1 P.2 U [fun ah => Ci (P.3 ah)], Hr true S 3 1 P.4 V [fun ah => Ci (P.5 ah)], Ho true (symRows true 3 P.1 W X)] [8, 9, 10, 11] [Hr true Y 61 2 z.1.1 ab [fun ah => Cs 3 (af ah) (z.1.2 ah) (ag ah), fun ah => Cb (z.1.4 ah)], Hr true Z 3 1 z.2 ac d, Hr true aa 3 1 z.4 ad b, Ho true (symRows true 3 z.1 af ag)]) (gwA gG gB gR gC mB mF q N)) (AD.mk G x.2 L x.4 M)))) (Hr false O 0 2 x.1.1 0 s)) [fun s => Cs 3 (so s) (x.1.2 s) (sc s), fun s => Cb (x.1.4 s)]) [Cs 0 O x.1.1 C, Cs 1 A x.2 D, Cs 2 H x.4 E]) (Hr false A 0 1 x.2 0 h)) (Hr false H 0 1 x.4 0 g)) (Ho false k)) [Ci gG, Ci gB, Ci gR, Ci gC]) [Ci mB, Ci mF, Ci mT, Ci mN]) (symRows false 0 x.1 so (fun k => 0))) (! (mvOk gG gB gR gC mB mF mT mN))) [fun h => Ci (x.3 h)]) [fun g => Ci (x.5 g)]) [fun d => Ci (z.3 d)]) [fun b => Ci (z.5 b)]) := by kernel_rfl
theorem mgtI_all (x : AD) (O A H : Option Addr) (C D E : Nat) (so : Nat → Option Addr) (sc : Nat → Nat) (gG gB gR gC : Int) (mB mF mT mN : Int) (q : Int) (w : World) (hA : SeenA w x O A H so sc) (hcap : capA x) : Calls Try.prog 11 #[.agg #[.int .i64 gG, .int .i64 gB, .int .i64 gR, .int .i64 gC], arrV x O A H C D E, .agg #[.int .i64 mB, .int .i64 mF, .int .i64 mT, .int .i64 mN], .int .i64 q] w fun e w' => ∃ (Oq Aq Hq : Option Addr) (Cq Dq Ee : Nat) (soq : Nat → Option Addr) (scq : Nat → Nat), e = .returned (.tuple #[arrV (mgA gG gB gR gC mB mF mT mN x q) Oq Aq Hq Cq Dq Ee, .int .i64 (mgX gG gB gR gC mB mF mT mN x q), .int .i64 (mgC gG gB gR gC mB mF mT mN x q)]) ∧ HS ⟨w, fun _ => False⟩ (arrO 0 (mgA gG gB gR gC mB mF mT mN x q) Oq Aq Hq Cq Dq Ee soq scq) w' := by
  generalize hz : mgA gG gB gR gC mB mF mT mN x q = z
  generalize hx : mgX gG gB gR gC mB mF mT mN x q = gx
  generalize hc : mgC gG gB gR gC mB mF mT mN x q = gc
  refine fnB (tb := [(13, sMvOk), (27, sCpA), (31, sGw)]) ⟨sMvOk_I, sCpA_I, sGw_I, trivial⟩ Try.func11 (@Eq.mpr _ _ (mgtI_T x O A H C D E so sc gG gB gR gC mB mF mT mN q z gx gc) ?_) (HS.seenAll (fun _ => False) _ (hA.all 0 seenC_nil)) (fun v ch' w' ⟨Oq, Aq, Hq, Cq, Dq, Ee, soq, scq, hv, hc⟩ hs => ⟨Oq, Aq, Hq, Cq, Dq, Ee, soq, scq, by rw [hv], hc.hs hs⟩)
  dsimp -zeta -proj -iota -eta -failIfUnchanged (etaStruct := .none) only
  clear hA
  have hl := lenA_of hcap
  cases hmv : mvOk gG gB gR gC mB mF mT mN
  · have e1 : mgA gG gB gR gC mB mF mT mN x q = x := by simp [mgA, hmv]
    have e2 : mgX gG gB gR gC mB mF mT mN x q = 0 := by simp [mgX, hmv]
    have e3 : mgC gG gB gR gC mB mF mT mN x q = 2 := by simp [mgC, hmv]
    rw [e1] at hz
    rw [e2] at hx
    rw [e3] at hc
    subst hz
    subst hx
    subst hc
    repeat' (first
      | with_reducible exact rfl
      | exact True.intro
      | with_reducible assumption
      | exact hl
      | exact hcap
      | (intro h; exfalso; rw [hmv] at h; simp at h; done)
      | exact (by refine ⟨?_, rfl⟩; repeat' (first | exact True.intro | exact symRows_push | exact rfl | refine And.intro ?_ ?_ | (intro i hi; show _ = _; with_reducible rfl) | (intro i hi; show _ = _; rfl) | (intro i hi; show _ = _; simp only [SC.den]; split <;> rfl)))
      | refine And.intro ?_ ?_
      | apply Exists.intro
      | (intro h; exfalso; simp at h; done)
      | (intro h; replace h := of_decide_eq_true h; first | (exfalso; omega) | skip)
      | (intro h; replace h := of_decide_eq_false h; first | (exfalso; omega) | skip)
      | (intro i hi; with_reducible exact rfl)
      | intro _
      | omega
      | exact rfl)
  · cases hn : (mN == gC)
    · have e1 : mgA gG gB gR gC mB mF mT mN x q = gwA gG gB gR gC mB mF q x := by simp [mgA, hmv, ieq, hn]
      have e2 : mgX gG gB gR gC mB mF mT mN x q = gwX gG gB gR gC mB mF q x := by simp [mgX, hmv, ieq, hn]
      have e3 : mgC gG gB gR gC mB mF mT mN x q = gwC gG gB gR gC mB mF q x := by simp [mgC, hmv, ieq, hn]
      rw [e1] at hz
      rw [e2] at hx
      rw [e3] at hc
      subst hz
      subst hx
      subst hc
      repeat' (first
        | with_reducible exact rfl
        | exact True.intro
        | with_reducible assumption
        | exact hl
        | exact hcap
        | (intro h; exfalso; rw [hmv] at h; simp at h; done)
        | (intro h; exfalso; rw [hn] at h; simp at h; done)
        | exact (by refine ⟨?_, rfl⟩; repeat' (first | exact True.intro | exact symRows_push | exact rfl | refine And.intro ?_ ?_ | (intro i hi; show _ = _; with_reducible rfl) | (intro i hi; show _ = _; rfl) | (intro i hi; show _ = _; simp only [SC.den]; split <;> rfl)))
        | refine And.intro ?_ ?_
        | apply Exists.intro
        | (intro h; exfalso; simp at h; done)
        | (intro h; replace h := of_decide_eq_true h; first | (exfalso; omega) | skip)
        | (intro h; replace h := of_decide_eq_false h; first | (exfalso; omega) | skip)
        | (intro i hi; with_reducible exact rfl)
        | intro _
        | omega
        | exact rfl)
    · have e1 : mgA gG gB gR gC mB mF mT mN x q = gwA gG gB gR gC mB mT q x := by simp [mgA, hmv, ieq, hn]
      have e2 : mgX gG gB gR gC mB mF mT mN x q = gwX gG gB gR gC mB mT q x := by simp [mgX, hmv, ieq, hn]
      have e3 : mgC gG gB gR gC mB mF mT mN x q = gwC gG gB gR gC mB mT q x := by simp [mgC, hmv, ieq, hn]
      rw [e1] at hz
      rw [e2] at hx
      rw [e3] at hc
      subst hz
      subst hx
      subst hc
      repeat' (first
        | with_reducible exact rfl
        | exact True.intro
        | with_reducible assumption
        | exact hl
        | exact hcap
        | (intro h; exfalso; rw [hmv] at h; simp at h; done)
        | (intro h; exfalso; rw [hn] at h; simp at h; done)
        | exact (by refine ⟨?_, rfl⟩; repeat' (first | exact True.intro | exact symRows_push | exact rfl | refine And.intro ?_ ?_ | (intro i hi; show _ = _; with_reducible rfl) | (intro i hi; show _ = _; rfl) | (intro i hi; show _ = _; simp only [SC.den]; split <;> rfl)))
        | refine And.intro ?_ ?_
        | apply Exists.intro
        | (intro h; exfalso; simp at h; done)
        | (intro h; replace h := of_decide_eq_true h; first | (exfalso; omega) | skip)
        | (intro h; replace h := of_decide_eq_false h; first | (exfalso; omega) | skip)
        | (intro i hi; with_reducible exact rfl)
        | intro _
        | omega
        | exact rfl)
end Go.Proofs.Ytmgjmglmjfjliab

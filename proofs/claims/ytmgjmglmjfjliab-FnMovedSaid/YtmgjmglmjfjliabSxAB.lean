/-
  Cells copied. Arrays copied: the loops.
-/
import Derived.Test.YtmgjmglmjfjliabSxA0
namespace Go.Proofs.Ytmgjmglmjfjliab
set_option linter.unusedVariables false
set_option linter.unusedSimpArgs false
open Go.RowKit
set_option maxRecDepth 100000
set_option maxHeartbeats 8000000

theorem cpcI_T (cSymbolsO : Option Addr) (cSymbolsN cSymbolsC : Nat) (cSymbolsg0 : Nat → Int) (cPoison : Bool) : (exFn Try.prog {tb := []} 400 Try.f55 ([.a (.agg [.sl 0 cSymbolsO cSymbolsN cSymbolsC, .bool cPoison])]) ([.row ⟨false, cSymbolsO, 0, 1, cSymbolsN, 0, [fun i => .int (cSymbolsg0 i)]⟩]) (fun v ch => ∃ (ro0 : Option Addr) (rc0 : Nat), OutR v ch (.agg #[.slice ro0 (cSymbolsN) rc0, .bool (cPoison)]) [.row ⟨true, ro0, 3, 1, cSymbolsN, rc0, [fun i => .int (cSymbolsg0 i)]⟩])) = (
  ∀ b c d : Nat, b = b∧(d = d∧(cSymbolsO = cSymbolsO∧cSymbolsN = cSymbolsN)∧(∀ g : Nat, true = true)∧apC 0 cSymbolsN 8)∧∀(g : Option Addr) (h : Nat), b = b∧b = b∧c = c∧c = c∧∃(j : Option Addr) (k : Nat), (Wa [Ws g cSymbolsN h, Wb cPoison]) = (Wa [Ws j cSymbolsN k, Wb cPoison])∧((true = true∧g = j∧3 = 3∧1 = 1∧cSymbolsN = cSymbolsN∧h = k∧(∀ l : Nat, l < cSymbolsN→(Wi (cSymbolsg0 l)) = (Wi (cSymbolsg0 l)))∧True)∧True)∧true = true) := by kernel_rfl
theorem cpcI_any (cSymbolsO : Option Addr) (cSymbolsN cSymbolsC : Nat) (cSymbolsg0 : Nat → Int) (cPoison : Bool) (w : World) (hrcSymbols : Row.sat w ⟨false, cSymbolsO, 0, 1, cSymbolsN, 0, [fun i => .int (cSymbolsg0 i)]⟩) (hpre : capC cSymbolsN) : Calls Try.prog 55 #[.agg #[.slice cSymbolsO cSymbolsN cSymbolsC, .bool cPoison]] w fun e w' => ∃ (ro0 : Option Addr) (rc0 : Nat), e = .returned (.agg #[.slice ro0 (cSymbolsN) rc0, .bool (cPoison)]) ∧ HS ⟨w, fun _ => False⟩ [.row ⟨true, ro0, 3, 1, cSymbolsN, rc0, [fun i => .int (cSymbolsg0 i)]⟩] w' := by
  refine fnB (tb := []) trivial Try.func55 (@Eq.mpr _ _ (cpcI_T cSymbolsO cSymbolsN cSymbolsC cSymbolsg0 cPoison) ?_) (HS.rows (fun _ => False) [⟨false, cSymbolsO, 0, 1, cSymbolsN, 0, [fun i => .int (cSymbolsg0 i)]⟩] (by simp; exact hrcSymbols)) (fun v ch' w' ⟨ro0, rc0, hk⟩ hs => ⟨ro0, rc0, by rw [hk.1], hk.hs hs⟩)
  clear hrcSymbols
  repeat' (first
    | exact rfl
    | exact True.intro
    | refine And.intro ?_ ?_
    | apply Exists.intro
    | assumption
    | omega
    | intro _)
theorem cpcS_T (cSymbolsO : Option Addr) (cSymbolsN cSymbolsC : Nat) (cSymbolsg0 : Nat → Int) (cPoison : Bool) : (exFn Try.prog {tb := []} 400 Try.f43 ([.a (.agg [.sl 0 cSymbolsO cSymbolsN cSymbolsC, .bool cPoison])]) ([.row ⟨false, cSymbolsO, 0, 1, cSymbolsN, 0, [fun i => .int (cSymbolsg0 i)]⟩]) (fun v ch => ∃ (ro0 : Option Addr) (rc0 : Nat), OutR v ch (.agg #[.slice ro0 (cSymbolsN) rc0, .bool (cPoison)]) [.row ⟨true, ro0, 3, 1, cSymbolsN, rc0, [fun i => .int (cSymbolsg0 i)]⟩])) = (
  ∀ b c d : Nat, b = b∧(d = d∧(cSymbolsO = cSymbolsO∧cSymbolsN = cSymbolsN)∧(∀ g : Nat, true = true)∧apC 0 cSymbolsN 8)∧∀(g : Option Addr) (h : Nat), b = b∧b = b∧c = c∧c = c∧∃(j : Option Addr) (k : Nat), (Wa [Ws g cSymbolsN h, Wb cPoison]) = (Wa [Ws j cSymbolsN k, Wb cPoison])∧((true = true∧g = j∧3 = 3∧1 = 1∧cSymbolsN = cSymbolsN∧h = k∧(∀ l : Nat, l < cSymbolsN→(Wi (cSymbolsg0 l)) = (Wi (cSymbolsg0 l)))∧True)∧True)∧true = true) := by kernel_rfl
theorem cpcS_any (cSymbolsO : Option Addr) (cSymbolsN cSymbolsC : Nat) (cSymbolsg0 : Nat → Int) (cPoison : Bool) (w : World) (hrcSymbols : Row.sat w ⟨false, cSymbolsO, 0, 1, cSymbolsN, 0, [fun i => .int (cSymbolsg0 i)]⟩) (hpre : capC cSymbolsN) : Calls Try.prog 43 #[.agg #[.slice cSymbolsO cSymbolsN cSymbolsC, .bool cPoison]] w fun e w' => ∃ (ro0 : Option Addr) (rc0 : Nat), e = .returned (.agg #[.slice ro0 (cSymbolsN) rc0, .bool (cPoison)]) ∧ HS ⟨w, fun _ => False⟩ [.row ⟨true, ro0, 3, 1, cSymbolsN, rc0, [fun i => .int (cSymbolsg0 i)]⟩] w' := by
  refine fnB (tb := []) trivial Try.func43 (@Eq.mpr _ _ (cpcS_T cSymbolsO cSymbolsN cSymbolsC cSymbolsg0 cPoison) ?_) (HS.rows (fun _ => False) [⟨false, cSymbolsO, 0, 1, cSymbolsN, 0, [fun i => .int (cSymbolsg0 i)]⟩] (by simp; exact hrcSymbols)) (fun v ch' w' ⟨ro0, rc0, hk⟩ hs => ⟨ro0, rc0, by rw [hk.1], hk.hs hs⟩)
  clear hrcSymbols
  repeat' (first
    | exact rfl
    | exact True.intro
    | refine And.intro ?_ ?_
    | apply Exists.intro
    | assumption
    | omega
    | intro _)
def sCpC : Sm := fun args ch kk =>
  match args with
  | [.a c] => rdC ch c fun n g b => capC n ∧ ∀ (ro : Option Addr) (rc : Nat), kk (.a (.agg [.sl ch.length ro n rc, .bool b])) (ch ++ [.row ⟨true, ro, 3, 1, n, rc, [fun i => .int (g i)]⟩]) []
  | _ => False
theorem sCpC_I : SmOK Try.prog 55 sCpC := by
  refine smN Try.call55 fun args ch kk w X h0 hs => ?_
  unfold sCpC at h0
  split at h0
  · obtain ⟨ao, n, c', g, b, e, hr, hn, h0⟩ := rdC_ok h0 hs
    refine Calls.mono (?_ : Calls Try.prog 55 _ w (fun e w' => ∃ (ro0 : Option Addr) (rc0 : Nat), e = .returned (.agg #[.slice ro0 n rc0, .bool b]) ∧ HS ⟨w, fun _ => False⟩ [.row ⟨true, ro0, 3, 1, n, rc0, [fun i => .int (g i)]⟩] w')) (fun e w' ⟨ro0, rc0, he, hs'⟩ => ⟨_, _, ?_, hs', rfl, h0 ro0 rc0⟩)
    · simp only [List.map_cons, List.map_nil, den_a, e]
      exact cpcI_any ao n c' g b w hr hn
    · rw [he]
      rfl
  · exact h0.elim
theorem sCpC_S : SmOK Try.prog 43 sCpC := by
  refine smN Try.call43 fun args ch kk w X h0 hs => ?_
  unfold sCpC at h0
  split at h0
  · obtain ⟨ao, n, c', g, b, e, hr, hn, h0⟩ := rdC_ok h0 hs
    refine Calls.mono (?_ : Calls Try.prog 43 _ w (fun e w' => ∃ (ro0 : Option Addr) (rc0 : Nat), e = .returned (.agg #[.slice ro0 n rc0, .bool b]) ∧ HS ⟨w, fun _ => False⟩ [.row ⟨true, ro0, 3, 1, n, rc0, [fun i => .int (g i)]⟩] w')) (fun e w' ⟨ro0, rc0, he, hs'⟩ => ⟨_, _, ?_, hs', rfl, h0 ro0 rc0⟩)
    · simp only [List.map_cons, List.map_nil, den_a, e]
      exact cpcS_any ao n c' g b w hr hn
    · rw [he]
      rfl
  · exact h0.elim

def capA (x : AD) : Prop := x.c.n ≤ 2097152 ∧ x.aN ≤ 2097152 ∧ x.hN ≤ 2097152 ∧ ∀ i, i < x.c.n → x.c.sn i ≤ 2097152
def cutA (x : AD) (j : Nat) : AD := ⟨⟨j, x.c.sn, x.c.sy, x.c.po⟩, x.aN, x.ag, x.hN, x.hg⟩
def idP : SV → Nat
  | .a (.c (.ptr i _ _)) => i
  | _ => 1000009
def idsCp (ts : List SV) (ch : List Ch) : List Nat :=
  match ch[idP (ts.getD 3 .undef)]? with
  | some (.cells _ _ [_, y, z]) => [0, 1, 2, 3, idP (ts.getD 1 .undef), idP (ts.getD 2 .undef), idP (ts.getD 3 .undef), 1000000, idA y 1000001, idA z 1000002, 1000003]
  | _ => []
def cpT (x : AD) (O A H : Option Addr) (C D E : Nat) (so : Nat → Option Addr) (sc : Nat → Nat) (bp br bo : Nat) (Aq Hq : Option Addr) (Dq Ee : Nat) (j : Nat) (Oq : Option Addr) (Cq : Nat) (soq : Nat → Option Addr) (scq : Nat → Nat) : List Ch := arrR 0 x O A H so sc ++ [.cells bp 31 [.sl 0 O x.c.n C, .sl 1 A x.aN D, .sl 2 H x.hN E], .cells br 31 [.nil, .nil, .nil], .cells bo 31 [.sl 7 Oq j Cq, .sl 8 Aq x.aN Dq, .sl 9 Hq x.hN Ee]] ++ arrO 7 (cutA x j) Oq Aq Hq Cq Dq Ee soq scq
theorem push_hd {j id : Nat} {sn scq : Nat → Nat} {soq : Nat → Option Addr} {ro : Option Addr} {rc : Nat} : ∀ i, ltN i (j + 1) → (SC.val (if i < j then Value.slice (soq i) (sn i) (scq i) else Value.slice ro (sn j) rc)).den = (SC.sl id (if i < j then soq i else ro) (sn i) (if i < j then scq i else rc)).den := fun i hi => by
  have hi2 : i < j + 1 := hi
  by_cases hij : i < j
  · simp [SC.den, hij]
  · have hij2 : i = j := by omega
    subst hij2
    simp [SC.den]
theorem push_po {j : Nat} {po : Nat → Bool} : ∀ i, ltN i (j + 1) → (SC.bool (if i < j then po i else po j)).den = (SC.bool (po i)).den := fun i hi => by
  have hi2 : i < j + 1 := hi
  by_cases hij : i < j
  · simp [SC.den, hij]
  · have hij2 : i = j := by omega
    subst hij2
    simp [SC.den]
theorem cut_full (x : AD) : cutA x x.c.n = x := rfl
def cpIH (x : AD) (O A H : Option Addr) (C D E : Nat) (so : Nat → Option Addr) (sc : Nat → Nat) (bp br bo : Nat) (Aq Hq : Option Addr) (Dq Ee : Nat) (i : SC) (g : Nat → Value) : List SV := [.a (.c (.val (g 0))), .a (.c (.ptr 4 bp 0)), .a (.c (.ptr 5 br 0)), .a (.c (.ptr 6 bo 0)), .a (.c (.val (g 4))), .a (.c (.val (g 5))), .a (.c (.val (g 6))), .a (.c (.val (g 7))), .a (.c (.val (g 8))), .a (.c (.val (g 9))), .a (.c (.val (g 10))), .a (.c (.val (g 11))), .a (.c (.val (g 12))), .a (.c (.val (g 13))), .a (.c (.val (g 14))), .a (.c (.val (g 15))), .a (.c (.sl 0 O x.c.n C)), .a (.c (.int (x.c.n : Int))), .a (.c i), .a (.c (.val (g 19))), .a (.c (.val (g 20))), .a (.c (.val (g 21))), .a (.c (.val (g 22))), .a (.c (.val (g 23))), .a (.c (.val (g 24))), .a (.c (.val (g 25))), .a (.c (.val (g 26))), .a (.c (.val (g 27))), .a (.c (.val (g 28))), .a (.c (.val (g 29))), .a (.c (.val (g 30)))]
def scpI : LSm := fun ts ch kk => ∃ (x : AD) (O A H : Option Addr) (C D E : Nat) (so : Nat → Option Addr) (sc : Nat → Nat) (bp br bo : Nat) (Aq Hq : Option Addr) (Dq Ee : Nat), (ts.map SV.den = (cpIH x O A H C D E so sc bp br bo Aq Hq Dq Ee (.il 0) (fun d => (ts.getD d .undef).den)).map SV.den ∧ SelS ch (idsCp ts ch) (cpT x O A H C D E so sc bp br bo Aq Hq Dq Ee 0 none 0 (fun _ => none) (fun _ => 0)) ∧ capA x) ∧
    ∀ (g : Nat → Value) (kx : Int) (Oq : Option Addr) (Cq : Nat) (soq : Nat → Option Addr) (scq : Nat → Nat), kk (.exit 0) (cpIH x O A H C D E so sc bp br bo Aq Hq Dq Ee (.int kx) g) (cpT x O A H C D E so sc bp br bo Aq Hq Dq Ee x.c.n Oq Cq soq scq)
theorem cpIB (x : AD) (O A H : Option Addr) (C D E : Nat) (so : Nat → Option Addr) (sc : Nat → Nat) (bp br bo : Nat) (Aq Hq : Option Addr) (Dq Ee : Nat) (Oq : Option Addr) (Cq : Nat) (soq : Nat → Option Addr) (scq : Nat → Nat) (j : Nat) (g : Nat → Value) (NX : List SV → List Ch → Prop) (kx : Exit → List SV → List Ch → Prop) : (exCode Try.prog {tb := [(55, sCpC)], D := fun _ => [7]} 400 (theLoop Try.f27 0) (cpIH x O A H C D E so sc bp br bo Aq Hq Dq Ee (.int (j : Int)) g) (cpT x O A H C D E so sc bp br bo Aq Hq Dq Ee j Oq Cq soq scq) (loopK NX kx)) = (
  (fun a : SV => (fun b : List Row => (fun c : SV => (fun d : Ch => (fun h : Ch => (fun k : Ch => (fun l : List SC => (fun m : Ch => (fun n : Ch => (fun o : Bool => (fun p : SV => (fun q : Ch => (fun r : Ch => (fun s : Ch => (o = true→O = O∧x.1.1 = x.1.1∧(0 ≤ ((j : Nat) : Int)∧((j : Nat) : Int) < ((x.1.1 : Nat) : Int))∧O = O∧j < x.1.1∧∀ t : Nat, t = t∧bo = bo∧t = t∧∃(u : Nat) (v : CD) (w : Nat→Option Addr) (y : Nat→Nat) (z : Nat), (b = (symRows false u v w y)∧(so j) = (w z)∧(x.1.2 j) = (v.2 z)∧z < v.1)∧capC (x.1.2 j)∧∀(B : Option Addr) (F : Nat), (fun G : List SC => True∧∀ I : Nat, True∧(Oq = Oq∧j = j∧Cq = Cq∧I = I∧(∀ J : Nat, true = true)∧apC j 1 32)∧∀(J : Option Addr) (K : Nat), True∧bo = bo∧True∧rng (((j : Nat) : Int) + (1 : Int))∧NX [vV (g 0), pV 4 bp 0, pV 5 br 0, a, vV (g 4), pV 11 t 0, vV (g 6), vV (g 7), vV (g 8), vV (g 9), vV (g 10), vV (g 11), vV (g 12), vV (g 13), vV (g 14), vV (g 15), sV 0 O x.1.1 C, iV ((x.1.1 : Nat) : Int), c, tV, rV 0 O 2 j 0, p, a, sV 7 Oq j Cq, p, aV G, cV 13 I 1 1, sV 14 J (j + 1) K, a, c, vV (g 30)] [s, k, h, d, q, Hc br 31 [Cz, Cz, Cz], Hc bo 31 [Cs 14 J (j + 1) K, Cs 8 Aq x.2 Dq, Cs 9 Hq x.4 Ee], Hd, n, m, r, Hc t 61 l, Hr true B 3 1 (x.1.2 j) F [fun L => Ci (v.3 z L)], Hc I 61 G, Hr true J 61 2 (j + 1) K [fun L => Cv (if L < j then (Ws (soq L) (x.1.2 L) (scq L)) else (Ws B (x.1.2 j) F)), fun L => Cb (if L < j then (x.1.4 L) else (x.1.4 j))]]) [Cs 12 B (x.1.2 j) F, Cb (x.1.4 j)])∧(o = false→kx (Exit.exit 0) [vV (g 0), pV 4 bp 0, pV 5 br 0, a, vV (g 4), vV (g 5), vV (g 6), vV (g 7), vV (g 8), vV (g 9), vV (g 10), vV (g 11), vV (g 12), vV (g 13), vV (g 14), vV (g 15), sV 0 O x.1.1 C, iV ((x.1.1 : Nat) : Int), iV ((j : Nat) : Int), fV, vV (g 20), vV (g 21), vV (g 22), vV (g 23), vV (g 24), vV (g 25), vV (g 26), vV (g 27), vV (g 28), vV (g 29), vV (g 30)] [s, k, h, d, q, Hc br 31 [Cz, Cz, Cz], Hc bo 31 [Cs 7 Oq j Cq, Cs 8 Aq x.2 Dq, Cs 9 Hq x.4 Ee], Hr true Oq 61 2 j Cq [fun t => Cs 10 (soq t) (x.1.2 t) (scq t), fun t => Cb (x.1.4 t)], n, m, r])) (Hr false O 0 2 x.1.1 0 [fun s => Cs 3 (so s) (x.1.2 s) (sc s), fun s => Cb (x.1.4 s)])) (Ho true (symRows true 3 (CD.mk j x.1.2 x.1.3 x.1.4) soq scq))) (Hc bp 31 [Cs 0 O x.1.1 C, Cs 1 A x.2 D, Cs 2 H x.4 E])) (aV l)) (decide (((j : Nat) : Int) < ((x.1.1 : Nat) : Int)))) (Hr true Aq 3 1 x.2 Dq [fun n => Ci (x.3 n)])) (Hr true Hq 3 1 x.4 Ee [fun m => Ci (x.5 m)])) [Cs 3 (so j) (x.1.2 j) (sc j), Cb (x.1.4 j)]) (Hr false A 0 1 x.2 0 [fun k => Ci (x.3 k)])) (Hr false H 0 1 x.4 0 [fun h => Ci (x.5 h)])) (Ho false b)) (iV (((j : Nat) : Int) + (1 : Int)))) (symRows false 0 x.1 so (fun b => 0))) (pV 6 bo 0)) := by kernel_rfl
theorem cpI_ok (X : Cx) : LoopOK Try.prog X (theLoop Try.f27 0) scpI := by
  intro ts ch kk a w hS hT hd hs
  obtain ⟨x, O, A, H, C, D, E, so, sc, bp, br, bo, Aq, Hq, Dq, Ee, ⟨h1, hch, hcap⟩, hk⟩ := hS
  have hn0 := hcap.1
  refine loop_ok mixed (E := {tb := [(55, sCpC)], D := fun _ => [7]}) ⟨sCpC_I, trivial⟩ (loopsOK_nil _ _ _) 400 x.c.n (fun j ts ch => ∃ g Oq Cq soq scq, ts = cpIH x O A H C D E so sc bp br bo Aq Hq Dq Ee (.int (j : Int)) g ∧ ch = cpT x O A H C D E so sc bp br bo Aq Hq Dq Ee j Oq Cq soq scq) ?_ ?_ hT hd hs
  · rintro j _ _ ⟨g, Oq, Cq, soq, scq, rfl, rfl⟩ hj
    refine (@Eq.mpr _ _ (cpIB x O A H C D E so sc bp br bo Aq Hq Dq Ee Oq Cq soq scq j g _ _) ?_)
    by_cases hlt : j < x.c.n
    · have hsn : capC (x.c.sn j) := hcap.2.2.2 j hlt
      repeat' (first
        | with_reducible exact rfl
        | exact True.intro
        | with_reducible assumption
        | (refine ⟨hlt, ?_⟩; show Next _ _ _ _; rename_i ro rc bb ao cap; refine Next.mk (fun g => cpIH x O A H C D E so sc bp br bo Aq Hq Dq Ee (.int ((j + 1 : Nat) : Int)) g) (cpT x O A H C D E so sc bp br bo Aq Hq Dq Ee (j + 1) ao cap (fun i => if i < j then soq i else ro) (fun i => if i < j then scq i else rc)) ⟨_, ao, cap, _, _, rfl, rfl⟩ rfl fun w hw => SelS.hs (l := [0, 1, 2, 3, 4, 5, 6, 14, 8, 9, 10]) (by refine ⟨?_, rfl⟩; repeat' (first | exact True.intro | exact symRows_push | exact rfl | refine And.intro ?_ ?_ | (intro i hi; show _ = _; with_reducible rfl) | (intro i hi; show _ = _; rfl) | exact push_hd | exact push_po | (intro i hi; show _ = _; simp only [SC.den]; split <;> rfl))) (hw.nestApp 10 12 rfl rfl rfl (by decide)))
        | refine And.intro ?_ ?_
        | apply Exists.intro
        | (intro h; replace h := of_decide_eq_true h; first | (exfalso; omega) | skip)
        | (intro h; replace h := of_decide_eq_false h; first | (exfalso; omega) | skip)
        | intro _
        | omega
        | (simp; omega))
    · have hjn : j = x.c.n := by omega
      subst hjn
      repeat' (first
        | with_reducible exact rfl
        | exact True.intro
        | with_reducible assumption
        | (refine Next.mk (fun g => cpIH x O A H C D E so sc bp br bo Aq Hq Dq Ee (.int (x.c.n : Int)) g) _ (hk _ _ _ _ _ _) rfl fun w hw => hw)
        | refine And.intro ?_ ?_
        | (intro h; replace h := of_decide_eq_true h; first | (exfalso; omega) | skip)
        | (intro h; replace h := of_decide_eq_false h; first | (exfalso; omega) | skip)
        | intro _
        | omega)
  · exact Next.mk (fun g => cpIH x O A H C D E so sc bp br bo Aq Hq Dq Ee (.int ((0 : Nat) : Int)) g) _ ⟨_, _, _, _, _, rfl, rfl⟩ h1 fun w hw => hch.hs hw
def cpSH (x : AD) (O A H : Option Addr) (C D E : Nat) (so : Nat → Option Addr) (sc : Nat → Nat) (bp br bo : Nat) (Aq Hq : Option Addr) (Dq Ee : Nat) (i : SC) (g : Nat → Value) : List SV := [.a (.c (.val (g 0))), .a (.c (.ptr 4 bp 0)), .a (.c (.ptr 5 br 0)), .a (.c (.ptr 6 bo 0)), .a (.c i), .a (.c (.val (g 5))), .a (.c (.val (g 6))), .a (.c (.val (g 7))), .a (.c (.val (g 8))), .a (.c (.val (g 9))), .a (.c (.val (g 10))), .a (.c (.val (g 11))), .a (.c (.val (g 12))), .a (.c (.val (g 13))), .a (.c (.val (g 14))), .a (.c (.val (g 15))), .a (.c (.val (g 16))), .a (.c (.val (g 17))), .a (.c (.val (g 18))), .a (.c (.val (g 19))), .a (.c (.val (g 20))), .a (.c (.val (g 21))), .a (.c (.val (g 22))), .a (.c (.val (g 23))), .a (.c (.val (g 24))), .a (.c (.val (g 25))), .a (.c (.val (g 26))), .a (.c (.val (g 27))), .a (.c (.val (g 28))), .a (.c (.val (g 29))), .a (.c (.val (g 30))), .a (.c (.val (g 31))), .a (.c (.val (g 32)))]
def scpS : LSm := fun ts ch kk => ∃ (x : AD) (O A H : Option Addr) (C D E : Nat) (so : Nat → Option Addr) (sc : Nat → Nat) (bp br bo : Nat) (Aq Hq : Option Addr) (Dq Ee : Nat), (ts.map SV.den = (cpSH x O A H C D E so sc bp br bo Aq Hq Dq Ee (.il 0) (fun d => (ts.getD d .undef).den)).map SV.den ∧ SelS ch (idsCp ts ch) (cpT x O A H C D E so sc bp br bo Aq Hq Dq Ee 0 none 0 (fun _ => none) (fun _ => 0)) ∧ capA x) ∧
    ∀ (g : Nat → Value) (kx : Int) (Oq : Option Addr) (Cq : Nat) (soq : Nat → Option Addr) (scq : Nat → Nat), kk (.exit 0) (cpSH x O A H C D E so sc bp br bo Aq Hq Dq Ee (.int kx) g) (cpT x O A H C D E so sc bp br bo Aq Hq Dq Ee x.c.n Oq Cq soq scq)
theorem cpSB (x : AD) (O A H : Option Addr) (C D E : Nat) (so : Nat → Option Addr) (sc : Nat → Nat) (bp br bo : Nat) (Aq Hq : Option Addr) (Dq Ee : Nat) (Oq : Option Addr) (Cq : Nat) (soq : Nat → Option Addr) (scq : Nat → Nat) (j : Nat) (g : Nat → Value) (NX : List SV → List Ch → Prop) (kx : Exit → List SV → List Ch → Prop) : (exCode Try.prog {tb := [(43, sCpC)], D := fun _ => [7]} 400 (theLoop Try.f18 0) (cpSH x O A H C D E so sc bp br bo Aq Hq Dq Ee (.int (j : Int)) g) (cpT x O A H C D E so sc bp br bo Aq Hq Dq Ee j Oq Cq soq scq) (loopK NX kx)) = (
  (fun a : SV => (fun b : SV => (fun c : SV => (fun d : SV => (fun h : List Row => (fun k : SV => (fun l : Ch => (fun m : Ch => (fun n : Ch => (fun o : Ch => (fun p : Ch => (fun q : Bool => (fun r : Ch => (fun s : Ch => (fun t : Ch => bp = bp∧(q = true→bo = bo∧bp = bp∧O = O∧x.1.1 = x.1.1∧(0 ≤ ((j : Nat) : Int)∧((j : Nat) : Int) < ((x.1.1 : Nat) : Int))∧O = O∧j < x.1.1∧∃(u : Nat) (v : CD) (w : Nat→Option Addr) (y : Nat→Nat) (z : Nat), (h = (symRows false u v w y)∧(so j) = (w z)∧(x.1.2 j) = (v.2 z)∧z < v.1)∧capC (x.1.2 j)∧∀(B : Option Addr) (F : Nat), (fun G : List SC => True∧∀ I : Nat, True∧(Oq = Oq∧j = j∧Cq = Cq∧I = I∧(∀ J : Nat, true = true)∧apC j 1 32)∧∀(J : Option Addr) (K : Nat), True∧bo = bo∧True∧rng (((j : Nat) : Int) + (1 : Int))∧NX [vV (g 0), b, pV 5 br 0, a, k, vV (g 5), vV (g 6), vV (g 7), vV (g 8), vV (g 9), vV (g 10), vV (g 11), vV (g 12), vV (g 13), d, b, c, iV ((x.1.1 : Nat) : Int), tV, d, k, a, sV 7 Oq j Cq, b, c, d, rV 0 O 2 j 0, aV [Cs 3 (so j) (x.1.2 j) (sc j), Cb (x.1.4 j)], aV G, cV 12 I 1 1, sV 13 J (j + 1) K, a, vV (g 32)] [t, n, m, l, r, Hc br 31 [Cz, Cz, Cz], Hc bo 31 [Cs 13 J (j + 1) K, Cs 8 Aq x.2 Dq, Cs 9 Hq x.4 Ee], Hd, p, o, s, Hr true B 3 1 (x.1.2 j) F [fun L => Ci (v.3 z L)], Hc I 61 G, Hr true J 61 2 (j + 1) K [fun L => Cv (if L < j then (Ws (soq L) (x.1.2 L) (scq L)) else (Ws B (x.1.2 j) F)), fun L => Cb (if L < j then (x.1.4 L) else (x.1.4 j))]]) [Cs 11 B (x.1.2 j) F, Cb (x.1.4 j)])∧(q = false→kx (Exit.exit 0) [vV (g 0), b, pV 5 br 0, a, d, vV (g 5), vV (g 6), vV (g 7), vV (g 8), vV (g 9), vV (g 10), vV (g 11), vV (g 12), vV (g 13), d, b, c, iV ((x.1.1 : Nat) : Int), fV, vV (g 19), vV (g 20), vV (g 21), vV (g 22), vV (g 23), vV (g 24), vV (g 25), vV (g 26), vV (g 27), vV (g 28), vV (g 29), vV (g 30), vV (g 31), vV (g 32)] [t, n, m, l, r, Hc br 31 [Cz, Cz, Cz], Hc bo 31 [Cs 7 Oq j Cq, Cs 8 Aq x.2 Dq, Cs 9 Hq x.4 Ee], Hr true Oq 61 2 j Cq [fun u => Cs 10 (soq u) (x.1.2 u) (scq u), fun u => Cb (x.1.4 u)], p, o, s])) (Hr false O 0 2 x.1.1 0 [fun t => Cs 3 (so t) (x.1.2 t) (sc t), fun t => Cb (x.1.4 t)])) (Ho true (symRows true 3 (CD.mk j x.1.2 x.1.3 x.1.4) soq scq))) (Hc bp 31 [Cs 0 O x.1.1 C, Cs 1 A x.2 D, Cs 2 H x.4 E])) (decide (((j : Nat) : Int) < ((x.1.1 : Nat) : Int)))) (Hr true Aq 3 1 x.2 Dq [fun p => Ci (x.3 p)])) (Hr true Hq 3 1 x.4 Ee [fun o => Ci (x.5 o)])) (Hr false A 0 1 x.2 0 [fun n => Ci (x.3 n)])) (Hr false H 0 1 x.4 0 [fun m => Ci (x.5 m)])) (Ho false h)) (iV (((j : Nat) : Int) + (1 : Int)))) (symRows false 0 x.1 so (fun h => 0))) (iV ((j : Nat) : Int))) (sV 0 O x.1.1 C)) (pV 4 bp 0)) (pV 6 bo 0)) := by kernel_rfl
theorem cpS_ok (X : Cx) : LoopOK Try.prog X (theLoop Try.f18 0) scpS := by
  intro ts ch kk a w hS hT hd hs
  obtain ⟨x, O, A, H, C, D, E, so, sc, bp, br, bo, Aq, Hq, Dq, Ee, ⟨h1, hch, hcap⟩, hk⟩ := hS
  have hn0 := hcap.1
  refine loop_ok mixed (E := {tb := [(43, sCpC)], D := fun _ => [7]}) ⟨sCpC_S, trivial⟩ (loopsOK_nil _ _ _) 400 x.c.n (fun j ts ch => ∃ g Oq Cq soq scq, ts = cpSH x O A H C D E so sc bp br bo Aq Hq Dq Ee (.int (j : Int)) g ∧ ch = cpT x O A H C D E so sc bp br bo Aq Hq Dq Ee j Oq Cq soq scq) ?_ ?_ hT hd hs
  · rintro j _ _ ⟨g, Oq, Cq, soq, scq, rfl, rfl⟩ hj
    refine (@Eq.mpr _ _ (cpSB x O A H C D E so sc bp br bo Aq Hq Dq Ee Oq Cq soq scq j g _ _) ?_)
    by_cases hlt : j < x.c.n
    · have hsn : capC (x.c.sn j) := hcap.2.2.2 j hlt
      repeat' (first
        | with_reducible exact rfl
        | exact True.intro
        | with_reducible assumption
        | (refine ⟨hlt, ?_⟩; show Next _ _ _ _; rename_i ro rc bb ao cap; refine Next.mk (fun g => cpSH x O A H C D E so sc bp br bo Aq Hq Dq Ee (.int ((j + 1 : Nat) : Int)) g) (cpT x O A H C D E so sc bp br bo Aq Hq Dq Ee (j + 1) ao cap (fun i => if i < j then soq i else ro) (fun i => if i < j then scq i else rc)) ⟨_, ao, cap, _, _, rfl, rfl⟩ rfl fun w hw => SelS.hs (l := [0, 1, 2, 3, 4, 5, 6, 13, 8, 9, 10]) (by refine ⟨?_, rfl⟩; repeat' (first | exact True.intro | exact symRows_push | exact rfl | refine And.intro ?_ ?_ | (intro i hi; show _ = _; with_reducible rfl) | (intro i hi; show _ = _; rfl) | exact push_hd | exact push_po | (intro i hi; show _ = _; simp only [SC.den]; split <;> rfl))) (hw.nestApp 10 11 rfl rfl rfl (by decide)))
        | refine And.intro ?_ ?_
        | apply Exists.intro
        | (intro h; replace h := of_decide_eq_true h; first | (exfalso; omega) | skip)
        | (intro h; replace h := of_decide_eq_false h; first | (exfalso; omega) | skip)
        | intro _
        | omega
        | (simp; omega))
    · have hjn : j = x.c.n := by omega
      subst hjn
      repeat' (first
        | with_reducible exact rfl
        | exact True.intro
        | with_reducible assumption
        | (refine Next.mk (fun g => cpSH x O A H C D E so sc bp br bo Aq Hq Dq Ee (.int (x.c.n : Int)) g) _ (hk _ _ _ _ _ _) rfl fun w hw => hw)
        | refine And.intro ?_ ?_
        | (intro h; replace h := of_decide_eq_true h; first | (exfalso; omega) | skip)
        | (intro h; replace h := of_decide_eq_false h; first | (exfalso; omega) | skip)
        | intro _
        | omega)
  · exact Next.mk (fun g => cpSH x O A H C D E so sc bp br bo Aq Hq Dq Ee (.int ((0 : Nat) : Int)) g) _ ⟨_, _, _, _, _, rfl, rfl⟩ h1 fun w hw => hch.hs hw
end Go.Proofs.Ytmgjmglmjfjliab

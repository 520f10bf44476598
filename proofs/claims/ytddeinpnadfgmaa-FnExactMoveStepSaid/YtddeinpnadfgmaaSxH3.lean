/-
  Arrays compared.
-/
import Derived.Test.YtddeinpnadfgmaaSxH2
namespace Go.Proofs.Ytddeinpnadfgmaa
set_option linter.unusedVariables false
set_option linter.unusedSimpArgs false
open Go.RowKit
set_option maxRecDepth 100000
set_option maxHeartbeats 8000000

def ecH (x : CD) (O : Option Addr) (C : Nat) (so : Nat → Option Addr) (sc : Nat → Nat) (P : Option Addr) (Q : Nat) (sp : Nat → Option Addr) (sq : Nat → Nat) (i : SC) (g : Nat → Value) : List SV := [.a (.c (.sl 0 O x.n C)), .a (.c (.sl 2 P x.n Q)), .a (.c (.val (g 2))), .a (.c (.val (g 3))), .a (.c (.lit false)), .a (.c i), .a (.c (.val (g 6))), .a (.c (.val (g 7))), .a (.c (.val (g 8))), .a (.c (.val (g 9))), .a (.c (.val (g 10))), .a (.c (.val (g 11))), .a (.c (.val (g 12))), .a (.c (.val (g 13))), .a (.c (.val (g 14))), .a (.c (.val (g 15))), .a (.c (.val (g 16))), .a (.c (.val (g 17))), .a (.c (.val (g 18))), .a (.c (.val (g 19))), .a (.c (.val (g 20))), .a (.c (.val (g 21))), .a (.c (.val (g 22))), .a (.c (.val (g 23))), .a (.c (.val (g 24))), .a (.c (.val (g 25))), .a (.c (.val (g 26)))]
def ecT (x : CD) (O : Option Addr) (C : Nat) (so : Nat → Option Addr) (sc : Nat → Nat) (P : Option Addr) (Q : Nat) (sp : Nat → Option Addr) (sq : Nat → Nat) : List Ch := [.row ⟨false, O, 0, 2, x.n, 0, cellFld 1 x so sc⟩, .obj false (symRows false 0 x so (fun _ => 0)), .row ⟨false, P, 0, 2, x.n, 0, cellFld 3 x sp sq⟩, .obj false (symRows false 0 x sp (fun _ => 0))]
def sec : LSm := fun ts ch kk => ∃ (x : CD) (O : Option Addr) (C : Nat) (so : Nat → Option Addr) (sc : Nat → Nat) (P : Option Addr) (Q : Nat) (sp : Nat → Option Addr) (sq : Nat → Nat), (ts.map SV.den = (ecH x O C so sc P Q sp sq (.il 0) (fun d => (ts.getD d .undef).den)).map SV.den ∧ ch = ecT x O C so sc P Q sp sq ∧ capK x) ∧ ∀ (g : Nat → Value) (kx : Int), kk (.exit 0) (ecH x O C so sc P Q sp sq (.int kx) g) (ecT x O C so sc P Q sp sq)
theorem ecB (x : CD) (O : Option Addr) (C : Nat) (so : Nat → Option Addr) (sc : Nat → Nat) (P : Option Addr) (Q : Nat) (sp : Nat → Option Addr) (sq : Nat → Nat) (j : Nat) (g : Nat → Value) (NX : List SV → List Ch → Prop) (kx : Exit → List SV → List Ch → Prop) : (exCode Try.prog {tb := [(72, sEqC)]} 400 (theLoop Try.f56 0) (ecH x O C so sc P Q sp sq (.int (j : Int)) g) (ecT x O C so sc P Q sp sq) (loopK NX kx)) = (
  (((decide (((j : Nat) : Int) < ((x.1 : Nat) : Int))) = true →
 (O = O ∧
 (x.1 = x.1 ∧
 ((0 ≤ ((j : Nat) : Int) ∧ ((j : Nat) : Int) < ((x.1 : Nat) : Int)) ∧
 (O = O ∧
 (j < x.1 ∧
 (P = P ∧
 (x.1 = x.1 ∧
 ((0 ≤ ((j : Nat) : Int) ∧ ((j : Nat) : Int) < ((x.1 : Nat) : Int)) ∧
 (P = P ∧
 (j < x.1 ∧
 (∃ t0 : Nat, (∃ y1 : CD, (∃ so2 : (Nat →
 (Option Addr)), (∃ sc3 : (Nat →
 Nat), (∃ i4 : Nat, (((symRows false 0 x so (fun x5 => 0)) = (symRows false t0 y1 so2 sc3) ∧
 ((so j) = (so2 i4) ∧
 ((x.2 j) = (y1.2 i4) ∧
 i4 < y1.1))) ∧
 (∃ t6 : Nat, (∃ y7 : CD, (∃ so8 : (Nat →
 (Option Addr)), (∃ sc9 : (Nat →
 Nat), (∃ i10 : Nat, (((symRows false 0 x sp (fun x11 => 0)) = (symRows false t6 y7 so8 sc9) ∧
 ((sp j) = (so8 i10) ∧
 ((x.2 j) = (y7.2 i10) ∧
 i10 < y7.1))) ∧
 (((x.2 j) = (x.2 j) ∧
 ((x.4 j) = (x.4 j) ∧
 ((capC (x.2 j)) ∧
 (allEq (x.2 j) (y1.3 i4) (y7.3 i10))))) ∧
 (True ∧
 ((rng (((j : Nat) : Int) + (1 : Int))) ∧
 (NX [(sV 0 O x.1 C), (sV 2 P x.1 Q), (vV (g 2)), (vV (g 3)), fV, (iV (((j : Nat) : Int) + (1 : Int))), (vV (g 6)), (vV (g 7)), (vV (g 8)), (vV (g 9)), (vV (g 10)), (iV ((j : Nat) : Int)), (sV 0 O x.1 C), (iV ((x.1 : Nat) : Int)), tV, (iV ((j : Nat) : Int)), (iV (((j : Nat) : Int) + (1 : Int))), (sV 0 O x.1 C), (iV ((j : Nat) : Int)), (rV 0 O 2 j 0), (aV [(Cs 1 (so j) (x.2 j) (sc j)), (Cb (x.4 j))]), (sV 2 P x.1 Q), (iV ((j : Nat) : Int)), (rV 2 P 2 j 0), (aV [(Cs 3 (sp j) (x.2 j) (sq j)), (Cb (x.4 j))]), tV, fV] [(Hr false O 0 2 x.1 0 [(fun i12 => (Cs 1 (so i12) (x.2 i12) (sc i12))), (fun i13 => (Cb (x.4 i13)))]), (Ho false (symRows false 0 x so (fun x14 => 0))), (Hr false P 0 2 x.1 0 [(fun i15 => (Cs 3 (sp i15) (x.2 i15) (sq i15))), (fun i16 => (Cb (x.4 i16)))]), (Ho false (symRows false 0 x sp (fun x17 => 0)))]))))))))))))))))))))))))))) ∧
 ((decide (((j : Nat) : Int) < ((x.1 : Nat) : Int))) = false →
 (kx (Exit.exit 0) [(sV 0 O x.1 C), (sV 2 P x.1 Q), (vV (g 2)), (vV (g 3)), fV, (iV ((j : Nat) : Int)), (vV (g 6)), (vV (g 7)), (vV (g 8)), (vV (g 9)), (vV (g 10)), (iV ((j : Nat) : Int)), (sV 0 O x.1 C), (iV ((x.1 : Nat) : Int)), fV, (vV (g 15)), (vV (g 16)), (vV (g 17)), (vV (g 18)), (vV (g 19)), (vV (g 20)), (vV (g 21)), (vV (g 22)), (vV (g 23)), (vV (g 24)), (vV (g 25)), (vV (g 26))] [(Hr false O 0 2 x.1 0 [(fun i18 => (Cs 1 (so i18) (x.2 i18) (sc i18))), (fun i19 => (Cb (x.4 i19)))]), (Ho false (symRows false 0 x so (fun x20 => 0))), (Hr false P 0 2 x.1 0 [(fun i21 => (Cs 3 (sp i21) (x.2 i21) (sq i21))), (fun i22 => (Cb (x.4 i22)))]), (Ho false (symRows false 0 x sp (fun x23 => 0)))])))) := by kernel_rfl
theorem ec_ok (X : Cx) : LoopOK Try.prog X (theLoop Try.f56 0) sec := by
  intro ts ch kk a w hS hT hd hs
  obtain ⟨x, O, C, so, sc, P, Q, sp, sq, ⟨h1, rfl, hcap⟩, hk⟩ := hS
  have hn0 := totN_n (sn := x.sn) x.n
  have hcap' : totN x.sn x.n ≤ 2097152 := hcap
  refine loop_ok mixed (E := {tb := [(72, sEqC)]}) ⟨sEqC_ok, trivial⟩ (loopsOK_nil _ _ _) 400 x.n (fun j ts ch => ∃ g, ts = ecH x O C so sc P Q sp sq (.int (j : Int)) g ∧ ch = ecT x O C so sc P Q sp sq) ?_ ?_ hT hd hs
  · rintro j _ _ ⟨g, rfl, rfl⟩ hj
    refine (@Eq.mpr _ _ (ecB x O C so sc P Q sp sq j g _ _) ?_)
    by_cases hlt : j < x.n
    · have hsn : capC (x.sn j) := by have := totN_sn (sn := x.sn) hlt; show _ ≤ _; omega
      repeat' (first
        | with_reducible exact rfl
        | exact True.intro
        | with_reducible assumption
        | (refine ⟨_, _, _, _, _, ⟨rfl, rfl, rfl, ?_⟩, ?_⟩)
        | (refine ⟨hlt, ?_⟩; show Next _ _ _ _; refine Next.mk (fun g => ecH x O C so sc P Q sp sq (.int ((j + 1 : Nat) : Int)) g) _ ⟨_, rfl, rfl⟩ rfl fun w hw => hw)
        | (intro i hi; with_reducible exact rfl)
        | refine And.intro ?_ ?_
        | apply Exists.intro
        | (intro h; replace h := of_decide_eq_true h; first | (exfalso; omega) | skip)
        | (intro h; replace h := of_decide_eq_false h; first | (exfalso; omega) | skip)
        | intro _
        | omega
        | (simp; omega))
    · have hjn : j = x.n := by omega
      repeat' (first
        | with_reducible exact rfl
        | exact True.intro
        | with_reducible assumption
        | (refine Next.mk (fun g => ecH x O C so sc P Q sp sq (.int (j : Int)) g) _ (hk _ _) rfl fun w hw => hw)
        | refine And.intro ?_ ?_
        | apply Exists.intro
        | (intro h; replace h := of_decide_eq_true h; first | (exfalso; omega) | skip)
        | (intro h; replace h := of_decide_eq_false h; first | (exfalso; omega) | skip)
        | intro _
        | omega
        | (simp; omega))
  · exact Next.mk (fun g => ecH x O C so sc P Q sp sq (.int ((0 : Nat) : Int)) g) _ ⟨_, rfl, rfl⟩ h1 fun w hw => hw
theorem eqCs_T (x : CD) (O : Option Addr) (C : Nat) (so : Nat → Option Addr) (sc : Nat → Nat) (P : Option Addr) (Q : Nat) (sp : Nat → Option Addr) (sq : Nat → Nat) : (exFn Try.prog { L := [(4, sec)] } 400 Try.f56 ([.a (.c (.sl 0 O x.n C)), .a (.c (.sl 2 P x.n Q))]) ([.row ⟨false, O, 0, 2, x.n, 0, cellFld 1 x so sc⟩, .obj false (symRows false 0 x so (fun _ => 0)), .row ⟨false, P, 0, 2, x.n, 0, cellFld 3 x sp sq⟩, .obj false (symRows false 0 x sp (fun _ => 0))]) (fun v _ => v.den = .bool true)) = (
  (((((x.1 : Nat) : Int) != ((x.1 : Nat) : Int)) = true →
 (Wb false) = (Wb true)) ∧
 ((((x.1 : Nat) : Int) != ((x.1 : Nat) : Int)) = false →
 (∃ x0 : CD, (∃ O1 : (Option Addr), (∃ C2 : Nat, (∃ so3 : (Nat →
 (Option Addr)), (∃ sc4 : (Nat →
 Nat), (∃ P5 : (Option Addr), (∃ Q6 : Nat, (∃ sp7 : (Nat →
 (Option Addr)), (∃ sq8 : (Nat →
 Nat), (([(Ws O x.1 C), (Ws P x.1 Q), (Wu []), (Wu []), (Wb false), (Wi 0), (Ws O x.1 C), (Wi ((x.1 : Nat) : Int)), (Ws P x.1 Q), (Wi ((x.1 : Nat) : Int)), (Wb false), (Wu []), (Wu []), (Wu []), (Wu []), (Wu []), (Wu []), (Wu []), (Wu []), (Wu []), (Wu []), (Wu []), (Wu []), (Wu []), (Wu []), (Wu []), (Wu [])] = [(Ws O1 x0.1 C2), (Ws P5 x0.1 Q6), (Wu []), (Wu []), (Wb false), (Wi 0), (Ws O x.1 C), (Wi ((x.1 : Nat) : Int)), (Ws P x.1 Q), (Wi ((x.1 : Nat) : Int)), (Wb false), (Wu []), (Wu []), (Wu []), (Wu []), (Wu []), (Wu []), (Wu []), (Wu []), (Wu []), (Wu []), (Wu []), (Wu []), (Wu []), (Wu []), (Wu []), (Wu [])] ∧
 ([(Hr false O 0 2 x.1 0 [(fun i9 => (Cs 1 (so i9) (x.2 i9) (sc i9))), (fun i10 => (Cb (x.4 i10)))]), (Ho false (symRows false 0 x so (fun x11 => 0))), (Hr false P 0 2 x.1 0 [(fun i12 => (Cs 3 (sp i12) (x.2 i12) (sq i12))), (fun i13 => (Cb (x.4 i13)))]), (Ho false (symRows false 0 x sp (fun x14 => 0)))] = [(Hr false O1 0 2 x0.1 0 [(fun i15 => (Cs 1 (so3 i15) (x0.2 i15) (sc4 i15))), (fun i16 => (Cb (x0.4 i16)))]), (Ho false (symRows false 0 x0 so3 (fun x17 => 0))), (Hr false P5 0 2 x0.1 0 [(fun i18 => (Cs 3 (sp7 i18) (x0.2 i18) (sq8 i18))), (fun i19 => (Cb (x0.4 i19)))]), (Ho false (symRows false 0 x0 sp7 (fun x20 => 0)))] ∧
 (capK x0))) ∧
 (∀ g21 : (Nat →
 Value),
 (∀ kx22 : Int,
 (Wb true) = (Wb true)))))))))))))))) := by kernel_rfl
theorem eqCs_any (x : CD) (O : Option Addr) (C : Nat) (so : Nat → Option Addr) (sc : Nat → Nat) (P : Option Addr) (Q : Nat) (sp : Nat → Option Addr) (sq : Nat → Nat) (w : World) (hA : SeenC w x O so sc) (hB : SeenC w x P sp sq) (hcap : capK x) : Calls Try.prog 56 #[.slice O x.n C, .slice P x.n Q] w fun e w' => e = .returned (.bool true) ∧ Below w.heap.size w w' := by
  refine fn_ok mixed (E := { L := [(4, sec)] }) trivial Try.func56 (one_loop (by kernel_rfl) (by kernel_rfl) (ec_ok _)) (@Eq.mpr _ _ (eqCs_T x O C so sc P Q sp sq) ?_) (HS.seenAll (fun _ => False) _ (hA.all 1 (hB.all 3 seenC_nil))) (fun v ch' w' hv hs => ⟨by rw [hv], hs.below⟩)
  clear hA hB
  have hn0 := totN_n (sn := x.sn) x.n
  have hcap' : totN x.sn x.n ≤ 2097152 := hcap
  repeat' (first
    | with_reducible exact rfl
    | exact True.intro
    | with_reducible assumption
    | exact hcap
    | refine And.intro ?_ ?_
    | apply Exists.intro
    | (intro h; exfalso; simp at h; done)
    | intro _
    | omega)
def sEqCs : Sm := fun args ch kk =>
  match args with
  | [.a (.c c), .a (.c d)] => rdK ch c fun x => rdK ch d fun y => (y = x ∧ capK x) ∧ kk (.a (.c (.lit true))) ch []
  | _ => False
theorem sEqCs_ok : SmOK Try.prog 56 sEqCs := by
  refine smB Try.call56 fun args ch kk w X h0 hs => ?_
  unfold sEqCs at h0
  split at h0
  · obtain ⟨x, O, C, so, sc, e, hA, h1⟩ := rdK_ok h0 hs
    obtain ⟨y, P, Q, sp, sq, e2, hB, ⟨rfl, hc⟩, h2⟩ := rdK_ok h1 hs
    refine ⟨_, h2, ?_⟩
    simp only [List.map_cons, List.map_nil, den_a, den_c, e, e2]
    exact eqCs_any _ O C so sc P Q sp sq w hA hB hc
  · exact h0.elim
theorem eqA_T (x : AD) (O A H : Option Addr) (C D E : Nat) (so : Nat → Option Addr) (sc : Nat → Nat) (P B G : Option Addr) (Q U V : Nat) (sp : Nat → Option Addr) (sq : Nat → Nat) : (exFn Try.prog {tb := [(56, sEqCs), (57, sEqIntS)]} 400 Try.f16 ([.a (arrS 0 x O A H C D E), .a (arrS 4 x P B G Q U V)]) (arrR 0 x O A H so sc ++ arrR 4 x P B G sp sq) (fun v _ => v.den = .bool true)) = (
  (∀ b0 : Nat,
 (∀ b1 : Nat,
 (b0 = b0 ∧
 (b1 = b1 ∧
 (∃ t2 : Nat, (∃ y3 : CD, (∃ so4 : (Nat →
 (Option Addr)), (∃ sc5 : (Nat →
 Nat), (∃ sd6 : (Nat →
 Nat), (((symRows false 0 x.1 so (fun x7 => 0)) = (symRows false t2 y3 so4 sd6) ∧
 ([(fun i8 => (Cs 3 (so i8) (x.1.2 i8) (sc i8))), (fun i9 => (Cb (x.1.4 i9)))] = [(fun i10 => (Cs 3 (so4 i10) (y3.2 i10) (sc5 i10))), (fun i11 => (Cb (y3.4 i11)))] ∧
 (O = O ∧
 (x.1.1 = x.1.1 ∧
 x.1.1 = y3.1)))) ∧
 (∃ t12 : Nat, (∃ y13 : CD, (∃ so14 : (Nat →
 (Option Addr)), (∃ sc15 : (Nat →
 Nat), (∃ sd16 : (Nat →
 Nat), (((symRows false 0 x.1 sp (fun x17 => 0)) = (symRows false t12 y13 so14 sd16) ∧
 ([(fun i18 => (Cs 7 (sp i18) (x.1.2 i18) (sq i18))), (fun i19 => (Cb (x.1.4 i19)))] = [(fun i20 => (Cs 7 (so14 i20) (y13.2 i20) (sc15 i20))), (fun i21 => (Cb (y13.4 i21)))] ∧
 (P = P ∧
 (x.1.1 = x.1.1 ∧
 x.1.1 = y13.1)))) ∧
 ((y13 = y3 ∧
 (capK y3)) ∧
 (b0 = b0 ∧
 (b1 = b1 ∧
 (∃ g022 : (Nat →
 Int), (∃ q023 : (Nat →
 Int), ((A = A ∧
 (x.2 = x.2 ∧
 ([(fun i24 => (Ci (x.3 i24)))] = [(fun i25 => (Ci (g022 i25)))] ∧
 (B = B ∧
 (x.2 = x.2 ∧
 ([(fun i26 => (Ci (x.3 i26)))] = [(fun i27 => (Ci (q023 i27)))] ∧
 (x.2 = x.2 ∧
 (capC x.2)))))))) ∧
 ((∀ i28 : Nat,
 (i28 < x.2 →
 (g022 i28) = (q023 i28))) ∧
 (b0 = b0 ∧
 (b1 = b1 ∧
 (∃ g029 : (Nat →
 Int), (∃ q030 : (Nat →
 Int), ((H = H ∧
 (x.4 = x.4 ∧
 ([(fun i31 => (Ci (x.5 i31)))] = [(fun i32 => (Ci (g029 i32)))] ∧
 (G = G ∧
 (x.4 = x.4 ∧
 ([(fun i33 => (Ci (x.5 i33)))] = [(fun i34 => (Ci (q030 i34)))] ∧
 (x.4 = x.4 ∧
 (capC x.4)))))))) ∧
 ((∀ i35 : Nat,
 (i35 < x.4 →
 (g029 i35) = (q030 i35))) ∧
 (Wb true) = (Wb true))))))))))))))))))))))))))))))) := by kernel_rfl
theorem eqA_any (x : AD) (O A H : Option Addr) (C D E : Nat) (so : Nat → Option Addr) (sc : Nat → Nat) (P B G : Option Addr) (Q U V : Nat) (sp : Nat → Option Addr) (sq : Nat → Nat) (w : World) (hA : SeenA w x O A H so sc) (hB : SeenA w x P B G sp sq) (hcap : capAx x) : Calls Try.prog 16 #[arrV x O A H C D E, arrV x P B G Q U V] w fun e w' => e = .returned (.bool true) ∧ Below w.heap.size w w' := by
  refine fnB (tb := [(56, sEqCs), (57, sEqIntS)]) ⟨sEqCs_ok, sEqIntS_ok, trivial⟩ Try.func16 (@Eq.mpr _ _ (eqA_T x O A H C D E so sc P B G Q U V sp sq) ?_) (HS.seenAll (fun _ => False) _ (hA.all 0 (hB.all 4 seenC_nil))) (fun v ch' w' hv hs => ⟨by rw [hv], hs.below⟩)
  clear hA hB
  obtain ⟨c1, c2, c3⟩ := hcap
  repeat' (first
    | with_reducible exact rfl
    | exact True.intro
    | with_reducible assumption
    | (intro h; exfalso; simp at h; done)
    | refine And.intro ?_ ?_
    | apply Exists.intro
    | (intro h; replace h := of_decide_eq_true h; first | (exfalso; omega) | skip)
    | (intro h; replace h := of_decide_eq_false h; first | (exfalso; omega) | skip)
    | (intro i hi; with_reducible exact rfl)
    | intro _
    | omega
    | exact rfl)
end Go.Proofs.Ytddeinpnadfgmaa

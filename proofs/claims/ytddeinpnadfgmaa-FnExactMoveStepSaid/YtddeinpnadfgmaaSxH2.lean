/-
  Arrays made.
-/
import Derived.Test.YtddeinpnadfgmaaSxH1
namespace Go.Proofs.Ytddeinpnadfgmaa
set_option linter.unusedVariables false
set_option linter.unusedSimpArgs false
open Go.RowKit
set_option maxRecDepth 100000
set_option maxHeartbeats 8000000

def tcH (x : CD) (O : Option Addr) (C : Nat) (so : Nat → Option Addr) (sc : Nat → Nat) (bm : Nat) (i : SC) (g : Nat → Value) : List SV := [.a (.c (.sl 0 O x.n C)), .a (.c (.val (g 1))), .a (.c (.val (g 2))), .a (.c (.sl 2 (some ⟨bm, 0, none⟩) x.n x.n)), .a (.c i), .a (.c (.val (g 5))), .a (.c (.val (g 6))), .a (.c (.val (g 7))), .a (.c (.val (g 8))), .a (.c (.val (g 9))), .a (.c (.val (g 10))), .a (.c (.val (g 11))), .a (.c (.val (g 12))), .a (.c (.val (g 13))), .a (.c (.val (g 14))), .a (.c (.val (g 15))), .a (.c (.val (g 16))), .a (.c (.val (g 17))), .a (.c (.val (g 18))), .a (.c (.val (g 19))), .a (.c (.val (g 20))), .a (.c (.val (g 21))), .a (.c (.val (g 22)))]
def tcT (x : CD) (O : Option Addr) (C : Nat) (so : Nat → Option Addr) (sc : Nat → Nat) (bm : Nat) (j : Nat) (soq : Nat → Option Addr) (scq : Nat → Nat) : List Ch := [.row ⟨false, O, 0, 2, x.n, 0, cellFld 1 x so sc⟩, .obj false (symRows false 0 x so (fun _ => 0)), .row ⟨true, some ⟨bm, 0, none⟩, 52, 2, x.n, x.n, [fun i => .val (lowV i j (.slice (soq i) (x.sn i) (scq i)) (.slice none 0 0)), fun i => .bool (lowB i j (x.po i) false)]⟩, .obj true (symRows true 3 ⟨j, x.sn, x.sy, x.po⟩ soq scq)]
def tcE (x : CD) (O : Option Addr) (C : Nat) (so : Nat → Option Addr) (sc : Nat → Nat) (bm : Nat) (soq : Nat → Option Addr) (scq : Nat → Nat) : List Ch := [.row ⟨false, O, 0, 2, x.n, 0, cellFld 1 x so sc⟩, .obj false (symRows false 0 x so (fun _ => 0)), .row ⟨true, some ⟨bm, 0, none⟩, 52, 2, x.n, x.n, cellFld 3 x soq scq⟩, .obj true (symRows true 3 x soq scq)]
theorem st_hd {j : Nat} {sn scq : Nat → Nat} {soq : Nat → Option Addr} {ro : Option Addr} {rc n : Nat} : ∀ i, ltN i n → (SC.val (if i = j then Value.slice ro (sn j) rc else if i < j then Value.slice (soq i) (sn i) (scq i) else Value.slice none 0 0)).den = (SC.val (if i < j + 1 then Value.slice (if i < j then soq i else ro) (sn i) (if i < j then scq i else rc) else Value.slice none 0 0)).den := fun i hi => by
  by_cases h1 : i < j
  · have h2 : ¬ i = j := by omega
    have h3 : i < j + 1 := by omega
    simp [SC.den, h1, h2, h3]
  · by_cases h2 : i = j
    · subst h2
      simp [SC.den]
    · have h3 : ¬ i < j + 1 := by omega
      simp [SC.den, h1, h2, h3]
theorem st_po {j : Nat} {po : Nat → Bool} {n : Nat} : ∀ i, ltN i n → (SC.bool (if i = j then po j else if i < j then po i else false)).den = (SC.bool (if i < j + 1 then po i else false)).den := fun i hi => by
  by_cases h1 : i < j
  · have h2 : ¬ i = j := by omega
    have h3 : i < j + 1 := by omega
    simp [SC.den, h1, h2, h3]
  · by_cases h2 : i = j
    · subst h2
      simp [SC.den]
    · have h3 : ¬ i < j + 1 := by omega
      simp [SC.den, h1, h2, h3]
theorem low_hd {sn scq : Nat → Nat} {soq : Nat → Option Addr} {n id : Nat} : ∀ i, ltN i n → (SC.val (if i < n then Value.slice (soq i) (sn i) (scq i) else Value.slice none 0 0)).den = (SC.sl id (soq i) (sn i) (scq i)).den := fun i hi => by
  have h1 : i < n := hi
  simp [SC.den, h1]
theorem low_po {po : Nat → Bool} {n : Nat} : ∀ i, ltN i n → (SC.bool (if i < n then po i else false)).den = (SC.bool (po i)).den := fun i hi => by
  have h1 : i < n := hi
  simp [SC.den, h1]
def stc : LSm := fun ts ch kk => ∃ (x : CD) (O : Option Addr) (C : Nat) (so : Nat → Option Addr) (sc : Nat → Nat) (bm : Nat), (ts.map SV.den = (tcH x O C so sc bm (.il 0) (fun d => (ts.getD d .undef).den)).map SV.den ∧ SelS ch [0, 1, 2, 1000000] (tcT x O C so sc bm 0 (fun _ => none) (fun _ => 0)) ∧ capK x) ∧
    ∀ (g : Nat → Value) (kx : Int) (soq : Nat → Option Addr) (scq : Nat → Nat), kk (.exit 0) (tcH x O C so sc bm (.int kx) g) (tcE x O C so sc bm soq scq)
theorem tcB (x : CD) (O : Option Addr) (C : Nat) (so : Nat → Option Addr) (sc : Nat → Nat) (bm : Nat) (soq : Nat → Option Addr) (scq : Nat → Nat) (j : Nat) (g : Nat → Value) (NX : List SV → List Ch → Prop) (kx : Exit → List SV → List Ch → Prop) : (exCode Try.prog {tb := [(66, sToC)], D := fun _ => [2]} 400 (theLoop Try.f50 0) (tcH x O C so sc bm (.int (j : Int)) g) (tcT x O C so sc bm j soq scq) (loopK NX kx)) = (
  (((decide (((j : Nat) : Int) < ((x.1 : Nat) : Int))) = true →
 (O = O ∧
 (x.1 = x.1 ∧
 ((0 ≤ ((j : Nat) : Int) ∧ ((j : Nat) : Int) < ((x.1 : Nat) : Int)) ∧
 (O = O ∧
 (j < x.1 ∧
 (∃ t0 : Nat, (∃ y1 : CD, (∃ so2 : (Nat →
 (Option Addr)), (∃ sc3 : (Nat →
 Nat), (∃ i4 : Nat, (((symRows false 0 x so (fun x5 => 0)) = (symRows false t0 y1 so2 sc3) ∧
 ((so j) = (so2 i4) ∧
 ((x.2 j) = (y1.2 i4) ∧
 i4 < y1.1))) ∧
 ((capC (x.2 j)) ∧
 (∀ ro6 : (Option Addr),
 (∀ rc7 : Nat,
 ((Ad bm 0) = (Ad bm 0) ∧
 (x.1 = x.1 ∧
 ((0 ≤ ((j : Nat) : Int) ∧ ((j : Nat) : Int) < ((x.1 : Nat) : Int)) ∧
 ((Ad bm 0) = (Ad bm 0) ∧
 (j < x.1 ∧
 ((rng (((j : Nat) : Int) + (1 : Int))) ∧
 (NX [(sV 0 O x.1 C), (vV (g 1)), (vV (g 2)), (sV 2 (Ad bm 0) x.1 x.1), (iV (((j : Nat) : Int) + (1 : Int))), (vV (g 5)), (vV (g 6)), (vV (g 7)), (iV ((j : Nat) : Int)), (sV 0 O x.1 C), (iV ((x.1 : Nat) : Int)), tV, (iV ((j : Nat) : Int)), (iV (((j : Nat) : Int) + (1 : Int))), (sV 2 (Ad bm 0) x.1 x.1), (iV ((j : Nat) : Int)), (sV 0 O x.1 C), (iV ((j : Nat) : Int)), (rV 0 O 2 j 0), (aV [(Cs 1 (so j) (x.2 j) (sc j)), (Cb (x.4 j))]), (aV [(Cs 4 ro6 (x.2 j) rc7), (Cb (x.4 j))]), (rV 2 (Ad bm 0) 2 j 0), (vV (g 22))] [(Hr false O 0 2 x.1 0 [(fun i8 => (Cs 1 (so i8) (x.2 i8) (sc i8))), (fun i9 => (Cb (x.4 i9)))]), (Ho false (symRows false 0 x so (fun x10 => 0))), (Hr true (Ad bm 0) 52 2 x.1 x.1 [(fun j11 => (Cv (if j11 = j then (Ws ro6 (x.2 j) rc7) else (if j11 < j then (Ws (soq j11) (x.2 j11) (scq j11)) else Wn)))), (fun j12 => (Cb (if j12 = j then (x.4 j) else (if j12 < j then (x.4 j12) else false))))]), (Ho true (symRows true 3 (CD.mk j x.2 x.3 x.4) soq scq)), (Hr true ro6 3 1 (x.2 j) rc7 [(fun i13 => (Ci (y1.3 i4 i13)))])])))))))))))))))))))))) ∧
 ((decide (((j : Nat) : Int) < ((x.1 : Nat) : Int))) = false →
 (kx (Exit.exit 0) [(sV 0 O x.1 C), (vV (g 1)), (vV (g 2)), (sV 2 (Ad bm 0) x.1 x.1), (iV ((j : Nat) : Int)), (vV (g 5)), (vV (g 6)), (vV (g 7)), (iV ((j : Nat) : Int)), (sV 0 O x.1 C), (iV ((x.1 : Nat) : Int)), fV, (vV (g 12)), (vV (g 13)), (vV (g 14)), (vV (g 15)), (vV (g 16)), (vV (g 17)), (vV (g 18)), (vV (g 19)), (vV (g 20)), (vV (g 21)), (vV (g 22))] [(Hr false O 0 2 x.1 0 [(fun i14 => (Cs 1 (so i14) (x.2 i14) (sc i14))), (fun i15 => (Cb (x.4 i15)))]), (Ho false (symRows false 0 x so (fun x16 => 0))), (Hr true (Ad bm 0) 52 2 x.1 x.1 [(fun i17 => (Cv (if i17 < j then (Ws (soq i17) (x.2 i17) (scq i17)) else Wn))), (fun i18 => (Cb (if i18 < j then (x.4 i18) else false)))]), (Ho true (symRows true 3 (CD.mk j x.2 x.3 x.4) soq scq))])))) := by kernel_rfl
theorem tc_ok (X : Cx) : LoopOK Try.prog X (theLoop Try.f50 0) stc := by
  intro ts ch kk a w hS hT hd hs
  obtain ⟨x, O, C, so, sc, bm, ⟨h1, hch, hcap⟩, hk⟩ := hS
  have hn0 := totN_n (sn := x.sn) x.n
  have hcap' : totN x.sn x.n ≤ 2097152 := hcap
  refine loop_ok mixed (E := {tb := [(66, sToC)], D := fun _ => [2]}) ⟨sToC_ok, trivial⟩ (loopsOK_nil _ _ _) 400 x.n (fun j ts ch => ∃ g soq scq, ts = tcH x O C so sc bm (.int (j : Int)) g ∧ ch = tcT x O C so sc bm j soq scq) ?_ ?_ hT hd hs
  · rintro j _ _ ⟨g, soq, scq, rfl, rfl⟩ hj
    refine (@Eq.mpr _ _ (tcB x O C so sc bm soq scq j g _ _) ?_)
    by_cases hlt : j < x.n
    · have hsn : capC (x.sn j) := by have := totN_sn (sn := x.sn) hlt; show _ ≤ _; omega
      repeat' (first
        | with_reducible exact rfl
        | exact True.intro
        | with_reducible assumption
        | (refine ⟨hlt, ?_⟩; show Next _ _ _ _; rename_i ro rc; refine Next.mk (fun g => tcH x O C so sc bm (.int ((j + 1 : Nat) : Int)) g) (tcT x O C so sc bm (j + 1) (fun i => if i < j then soq i else ro) (fun i => if i < j then scq i else rc)) ⟨_, _, _, rfl, rfl⟩ rfl fun w hw => SelS.hs (l := [0, 1, 2, 3]) (by refine ⟨?_, rfl⟩; repeat' (first | exact True.intro | exact symRows_push | exact rfl | refine And.intro ?_ ?_ | (intro i hi; show _ = _; with_reducible rfl) | (intro i hi; show _ = _; rfl) | exact st_hd | exact st_po | (intro i hi; show _ = _; simp only [SC.den]; split <;> rfl))) (hw.nestApp 3 4 rfl rfl rfl (by decide)))
        | refine And.intro ?_ ?_
        | apply Exists.intro
        | (intro h; replace h := of_decide_eq_true h; first | (exfalso; omega) | skip)
        | (intro h; replace h := of_decide_eq_false h; first | (exfalso; omega) | skip)
        | intro _
        | omega
        | (simp; omega))
    · have hjn : j = x.n := by omega
      subst hjn
      repeat' (first
        | with_reducible exact rfl
        | exact True.intro
        | with_reducible assumption
        | (refine Next.mk (fun g => tcH x O C so sc bm (.int (x.n : Int)) g) _ (hk _ _ soq scq) rfl fun w hw => SelS.hs (l := [0, 1, 2, 3]) (by refine ⟨?_, rfl⟩; repeat' (first | exact True.intro | exact symRows_push | exact rfl | refine And.intro ?_ ?_ | (intro i hi; show _ = _; with_reducible rfl) | (intro i hi; show _ = _; rfl) | exact low_hd | exact low_po | (intro i hi; show _ = _; simp only [SC.den]; split <;> rfl))) hw)
        | refine And.intro ?_ ?_
        | (intro h; replace h := of_decide_eq_true h; first | (exfalso; omega) | skip)
        | (intro h; replace h := of_decide_eq_false h; first | (exfalso; omega) | skip)
        | intro _
        | omega)
  · exact Next.mk (fun g => tcH x O C so sc bm (.int ((0 : Nat) : Int)) g) _ ⟨_, _, _, rfl, rfl⟩ h1 fun w hw => hch.hs hw
theorem toCs_T (x : CD) (O : Option Addr) (C : Nat) (so : Nat → Option Addr) (sc : Nat → Nat) : (exFn Try.prog { L := [(3, stc)] } 400 Try.f50 ([.a (.c (.sl 0 O x.n C))]) ([.row ⟨false, O, 0, 2, x.n, 0, cellFld 1 x so sc⟩, .obj false (symRows false 0 x so (fun _ => 0))]) (fun v ch => ∃ (bm : Nat) (soq : Nat → Option Addr) (scq : Nat → Nat), v.den = .slice (some ⟨bm, 0, none⟩) x.n x.n ∧ SelS ch [2, 3] [.row ⟨true, some ⟨bm, 0, none⟩, 52, 2, x.n, x.n, cellFld 1 x soq scq⟩, .obj true (symRows true 3 x soq scq)])) = (
  (((x.1 : Nat) : Int) = ((x.1 : Nat) : Int) ∧
 ((mkC 32 ((x.1 : Nat) : Int)) ∧
 (∀ b0 : Nat,
 (∃ x1 : CD, (∃ O2 : (Option Addr), (∃ C3 : Nat, (∃ so4 : (Nat →
 (Option Addr)), (∃ sc5 : (Nat →
 Nat), (∃ bm6 : Nat, (([(Ws O x.1 C), (Wu []), Wn, (Ws (Ad b0 0) x.1 x.1), (Wi 0), (Ws O x.1 C), (Wi ((x.1 : Nat) : Int)), (Ws (Ad b0 0) x.1 x.1), (Wu []), (Wu []), (Wu []), (Wu []), (Wu []), (Wu []), (Wu []), (Wu []), (Wu []), (Wu []), (Wu []), (Wu []), (Wu []), (Wu []), (Wu [])] = [(Ws O2 x1.1 C3), (Wu []), Wn, (Ws (Ad bm6 0) x1.1 x1.1), (Wi 0), (Ws O x.1 C), (Wi ((x.1 : Nat) : Int)), (Ws (Ad b0 0) x.1 x.1), (Wu []), (Wu []), (Wu []), (Wu []), (Wu []), (Wu []), (Wu []), (Wu []), (Wu []), (Wu []), (Wu []), (Wu []), (Wu []), (Wu []), (Wu [])] ∧
 ((SelS [(Hr false O 0 2 x.1 0 [(fun i7 => (Cs 1 (so i7) (x.2 i7) (sc i7))), (fun i8 => (Cb (x.4 i8)))]), (Ho false (symRows false 0 x so (fun x9 => 0))), (Hr true (Ad b0 0) 52 2 x.1 x.1 [(fun x10 => Cz), (fun x11 => Cf)])] [0, 1, 2, 1000000] [(Hr false O2 0 2 x1.1 0 [(fun i12 => (Cs 1 (so4 i12) (x1.2 i12) (sc5 i12))), (fun i13 => (Cb (x1.4 i13)))]), (Ho false (symRows false 0 x1 so4 (fun x14 => 0))), (Hr true (Ad bm6 0) 52 2 x1.1 x1.1 [(fun i15 => (Cv (if i15 < 0 then (Value.slice (none : Option (Addr)) (x1.2 i15) 0) else Wn))), (fun i16 => (Cb (if i16 < 0 then (x1.4 i16) else false)))]), (Ho true (symRows true 3 (CD.mk 0 x1.2 x1.3 x1.4) (fun x17 => (none : Option (Addr))) (fun x18 => 0)))]) ∧
 (capK x1))) ∧
 (∀ g19 : (Nat →
 Value),
 (∀ kx20 : Int,
 (∀ soq21 : (Nat →
 (Option Addr)),
 (∀ scq22 : (Nat →
 Nat),
 (∃ bm23 : Nat, (∃ soq24 : (Nat →
 (Option Addr)), (∃ scq25 : (Nat →
 Nat), ((Ws (Ad bm6 0) x1.1 x1.1) = (Ws (Ad bm23 0) x.1 x.1) ∧
 (SelS [(Hr false O2 0 2 x1.1 0 [(fun i26 => (Cs 1 (so4 i26) (x1.2 i26) (sc5 i26))), (fun i27 => (Cb (x1.4 i27)))]), (Ho false (symRows false 0 x1 so4 (fun x28 => 0))), (Hr true (Ad bm6 0) 52 2 x1.1 x1.1 [(fun i29 => (Cs 3 (soq21 i29) (x1.2 i29) (scq22 i29))), (fun i30 => (Cb (x1.4 i30)))]), (Ho true (symRows true 3 x1 soq21 scq22))] [2, 3] [(Hr true (Ad bm23 0) 52 2 x.1 x.1 [(fun i31 => (Cs 1 (soq24 i31) (x.2 i31) (scq25 i31))), (fun i32 => (Cb (x.4 i32)))]), (Ho true (symRows true 3 x soq24 scq25))])))))))))))))))))))) := by kernel_rfl
theorem toCs_any (x : CD) (O : Option Addr) (C : Nat) (so : Nat → Option Addr) (sc : Nat → Nat) (w : World) (hA : SeenC w x O so sc) (hcap : capK x) : Calls Try.prog 50 #[.slice O x.n C] w fun e w' => ∃ (bm : Nat) (soq : Nat → Option Addr) (scq : Nat → Nat), e = .returned (.slice (some ⟨bm, 0, none⟩) x.n x.n) ∧ HS ⟨w, fun _ => False⟩ [.row ⟨true, some ⟨bm, 0, none⟩, 52, 2, x.n, x.n, cellFld 1 x soq scq⟩, .obj true (symRows true 3 x soq scq)] w' := by
  refine fn_ok mixed (E := { L := [(3, stc)] }) trivial Try.func50 (one_loop (by kernel_rfl) (by kernel_rfl) (tc_ok _)) (@Eq.mpr _ _ (toCs_T x O C so sc) ?_) (HS.seenAll (fun _ => False) _ (hA.all 1 seenC_nil)) (fun v ch' w' ⟨bm, soq, scq, hv, hc⟩ hs => ⟨bm, soq, scq, by rw [hv], hc.hs hs⟩)
  clear hA
  have hn0 := totN_n (sn := x.sn) x.n
  have hcap' : totN x.sn x.n ≤ 2097152 := hcap
  repeat' (first
    | with_reducible exact rfl
    | exact True.intro
    | with_reducible assumption
    | exact hcap
    | exact (by refine ⟨?_, rfl⟩; repeat' (first | exact True.intro | exact symRows_push | exact rfl | refine And.intro ?_ ?_ | (intro i hi; show _ = _; with_reducible rfl) | (intro i hi; show _ = _; rfl) | exact symRows_nil | (intro i hi; simp [SC.den]; done) | (intro i hi; show _ = _; simp only [SC.den]; split <;> rfl)))
    | refine And.intro ?_ ?_
    | apply Exists.intro
    | (intro h; replace h := of_decide_eq_true h; first | (exfalso; omega) | skip)
    | (intro h; replace h := of_decide_eq_false h; first | (exfalso; omega) | skip)
    | (intro i hi; with_reducible exact rfl)
    | intro _
    | omega
    | exact rfl)
def sToCs : Sm := fun args ch kk =>
  match args with
  | [.a (.c c)] => rdK ch c fun x => capK x ∧ ∀ (bm : Nat) (soq : Nat → Option Addr) (scq : Nat → Nat), kk (.a (.c (.sl ch.length (some ⟨bm, 0, none⟩) x.n x.n))) (ch ++ [.row ⟨true, some ⟨bm, 0, none⟩, 52, 2, x.n, x.n, cellFld (ch.length + 1) x soq scq⟩, .obj true (symRows true 3 x soq scq)]) []
  | _ => False
theorem cells_at {b id : Nat} {x : CD} {O : Option Addr} {C t t2 : Nat} {so : Nat → Option Addr} {sc : Nat → Nat} {X : Cx} {w : World} (h : HS X [.row ⟨true, O, t, 2, x.n, C, cellFld id x so sc⟩, .obj true (symRows true t2 x so sc)] w) : HS X [.row ⟨true, O, t, 2, x.n, C, cellFld b x so sc⟩, .obj true (symRows true t2 x so sc)] w :=
  h.reS ⟨⟨rfl, rfl, rfl, rfl, rfl, rfl, fun i hi => rfl, fun i hi => rfl, trivial⟩, ⟨rfl, rfl⟩, trivial⟩
theorem sToCs_ok : SmOK Try.prog 50 sToCs := by
  refine smN Try.call50 fun args ch kk w X h0 hs => ?_
  unfold sToCs at h0
  split at h0
  · obtain ⟨x, O, C, so, sc, e, hA, hc, h0⟩ := rdK_ok h0 hs
    simp only [List.map_cons, List.map_nil, den_a, den_c, e]
    exact Calls.mono (toCs_any x O C so sc w hA hc) fun e w' ⟨bm, soq, scq, he, hs'⟩ => ⟨.a (.c (.sl ch.length (some ⟨bm, 0, none⟩) x.n x.n)), _, he, cells_at hs', rfl, h0 bm soq scq⟩
  · exact h0.elim
abbrev capAx (x : AD) : Prop := capK x.c ∧ x.aN ≤ 2097152 ∧ x.hN ≤ 2097152
theorem toA_T (x : AD) (O A H : Option Addr) (C D E : Nat) (so : Nat → Option Addr) (sc : Nat → Nat) : (exFn Try.prog {tb := [(50, sToCs), (51, sToIntS)]} 400 Try.f13 ([.a (arrS 0 x O A H C D E)]) (arrR 0 x O A H so sc) (fun v ch => ∃ (Oq Aq Hq : Option Addr) (Cq Dq Ee : Nat) (soq : Nat → Option Addr) (scq : Nat → Nat), v.den = arrV x Oq Aq Hq Cq Dq Ee ∧ SelS ch (idsArr v ch) (arrO 0 x Oq Aq Hq Cq Dq Ee soq scq))) = (
  (∀ b0 : Nat,
 (∀ b1 : Nat,
 (∀ b2 : Nat,
 (b0 = b0 ∧
 (∃ t3 : Nat, (∃ y4 : CD, (∃ so5 : (Nat →
 (Option Addr)), (∃ sc6 : (Nat →
 Nat), (∃ sd7 : (Nat →
 Nat), (((symRows false 0 x.1 so (fun x8 => 0)) = (symRows false t3 y4 so5 sd7) ∧
 ([(fun i9 => (Cs 3 (so i9) (x.1.2 i9) (sc i9))), (fun i10 => (Cb (x.1.4 i10)))] = [(fun i11 => (Cs 3 (so5 i11) (y4.2 i11) (sc6 i11))), (fun i12 => (Cb (y4.4 i12)))] ∧
 (O = O ∧
 (x.1.1 = x.1.1 ∧
 x.1.1 = y4.1)))) ∧
 ((capK y4) ∧
 (∀ bm13 : Nat,
 (∀ soq14 : (Nat →
 (Option Addr)),
 (∀ scq15 : (Nat →
 Nat),
 (b2 = b2 ∧
 (b0 = b0 ∧
 (∃ g016 : (Nat →
 Int), ((A = A ∧
 (x.2 = x.2 ∧
 ([(fun i17 => (Ci (x.3 i17)))] = [(fun i18 => (Ci (g016 i18)))] ∧
 (capC x.2)))) ∧
 (∀ b19 : Nat,
 (b2 = b2 ∧
 (b0 = b0 ∧
 (∃ g020 : (Nat →
 Int), ((H = H ∧
 (x.4 = x.4 ∧
 ([(fun i21 => (Ci (x.5 i21)))] = [(fun i22 => (Ci (g020 i22)))] ∧
 (capC x.4)))) ∧
 (∀ b23 : Nat,
 (b2 = b2 ∧
 (b2 = b2 ∧
 (b1 = b1 ∧
 (b1 = b1 ∧
 (∃ Oq24 : (Option Addr), (∃ Aq25 : (Option Addr), (∃ Hq26 : (Option Addr), (∃ Cq27 : Nat, (∃ Dq28 : Nat, (∃ Ee29 : Nat, (∃ soq30 : (Nat →
 (Option Addr)), (∃ scq31 : (Nat →
 Nat), ((Wa [(Ws (Ad bm13 0) y4.1 y4.1), (Ws (Ad b19 0) x.2 x.2), (Ws (Ad b23 0) x.4 x.4)]) = (Wa [(Ws Oq24 x.1.1 Cq27), (Ws Aq25 x.2 Dq28), (Ws Hq26 x.4 Ee29)]) ∧
 (SelS [(Hr false O 0 2 x.1.1 0 [(fun i32 => (Cs 3 (so i32) (x.1.2 i32) (sc i32))), (fun i33 => (Cb (x.1.4 i33)))]), (Hr false A 0 1 x.2 0 [(fun i34 => (Ci (x.3 i34)))]), (Hr false H 0 1 x.4 0 [(fun i35 => (Ci (x.5 i35)))]), (Ho false (symRows false 0 x.1 so (fun x36 => 0))), (Hc b0 27 [(Cs 0 O x.1.1 C), (Cs 1 A x.2 D), (Cs 2 H x.4 E)]), (Hc b1 33 [(Cs 7 (Ad bm13 0) y4.1 y4.1), (Cs 9 (Ad b19 0) x.2 x.2), (Cs 10 (Ad b23 0) x.4 x.4)]), (Hc b2 33 [(Cs 7 (Ad bm13 0) y4.1 y4.1), (Cs 9 (Ad b19 0) x.2 x.2), (Cs 10 (Ad b23 0) x.4 x.4)]), (Hr true (Ad bm13 0) 52 2 y4.1 y4.1 [(fun i37 => (Cs 8 (soq14 i37) (y4.2 i37) (scq15 i37))), (fun i38 => (Cb (y4.4 i38)))]), (Ho true (symRows true 3 y4 soq14 scq15)), (Hr true (Ad b19 0) 3 1 x.2 x.2 [(fun i39 => (Ci (g016 i39)))]), (Hr true (Ad b23 0) 3 1 x.4 x.4 [(fun i40 => (Ci (g020 i40)))])] [7, 9, 10, 8] [(Hr true Oq24 52 2 x.1.1 Cq27 [(fun i41 => (Cs 3 (soq30 i41) (x.1.2 i41) (scq31 i41))), (fun i42 => (Cb (x.1.4 i42)))]), (Hr true Aq25 3 1 x.2 Dq28 [(fun i43 => (Ci (x.3 i43)))]), (Hr true Hq26 3 1 x.4 Ee29 [(fun i44 => (Ci (x.5 i44)))]), (Ho true (symRows true 3 x.1 soq30 scq31))]))))))))))))))))))))))))))))))))))))))) := by kernel_rfl
theorem toA_any (x : AD) (O A H : Option Addr) (C D E : Nat) (so : Nat → Option Addr) (sc : Nat → Nat) (w : World) (hA : SeenA w x O A H so sc) (hcap : capAx x) : Calls Try.prog 13 #[arrV x O A H C D E] w fun e w' => ∃ (Oq Aq Hq : Option Addr) (Cq Dq Ee : Nat) (soq : Nat → Option Addr) (scq : Nat → Nat), e = .returned (arrV x Oq Aq Hq Cq Dq Ee) ∧ HS ⟨w, fun _ => False⟩ (arrO 0 x Oq Aq Hq Cq Dq Ee soq scq) w' := by
  refine fnB (tb := [(50, sToCs), (51, sToIntS)]) ⟨sToCs_ok, sToIntS_ok, trivial⟩ Try.func13 (@Eq.mpr _ _ (toA_T x O A H C D E so sc) ?_) (HS.seenAll (fun _ => False) _ (hA.all 0 seenC_nil)) (fun v ch' w' ⟨Oq, Aq, Hq, Cq, Dq, Ee, soq, scq, hv, hc⟩ hs => ⟨Oq, Aq, Hq, Cq, Dq, Ee, soq, scq, by rw [hv], hc.hs hs⟩)
  clear hA
  obtain ⟨c1, c2, c3⟩ := hcap
  repeat' (first
    | with_reducible exact rfl
    | exact True.intro
    | with_reducible assumption
    | exact (by refine ⟨?_, rfl⟩; repeat' (first | exact True.intro | exact symRows_push | exact rfl | refine And.intro ?_ ?_ | (intro i hi; show _ = _; with_reducible rfl) | (intro i hi; show _ = _; rfl) | (intro i hi; show _ = _; simp only [SC.den]; split <;> rfl)))
    | refine And.intro ?_ ?_
    | apply Exists.intro
    | (intro h; replace h := of_decide_eq_true h; first | (exfalso; omega) | skip)
    | (intro h; replace h := of_decide_eq_false h; first | (exfalso; omega) | skip)
    | (intro i hi; with_reducible exact rfl)
    | intro _
    | omega
    | exact rfl)
end Go.Proofs.Ytddeinpnadfgmaa

/-
  Arrays copied: the loops.
-/
import Derived.Test.YtddeinpnadfgmaaSxA1
namespace Go.Proofs.Ytddeinpnadfgmaa
set_option linter.unusedVariables false
set_option linter.unusedSimpArgs false
open Go.RowKit
set_option maxRecDepth 100000
set_option maxHeartbeats 8000000

def capA (x : AD) : Prop := x.c.n ≤ 2097152 ∧ x.aN ≤ 2097152 ∧ x.hN ≤ 2097152 ∧ ∀ i, i < x.c.n → x.c.sn i ≤ 2097152
def cutA (x : AD) (j : Nat) : AD := ⟨⟨j, x.c.sn, x.c.sy, x.c.po⟩, x.aN, x.ag, x.hN, x.hg⟩
def idP : SV → Nat
  | .a (.c (.ptr i _ _)) => i
  | _ => 1000009
def idsCp (ts : List SV) (ch : List Ch) : List Nat :=
  match ch[idP (ts.getD 3 .undef)]? with
  | some (.cells _ _ [_, y, z]) => [0, 1, 2, 3, idP (ts.getD 1 .undef), idP (ts.getD 2 .undef), idP (ts.getD 3 .undef), 1000000, idA y 1000001, idA z 1000002, 1000003]
  | _ => []
def cpT (x : AD) (O A H : Option Addr) (C D E : Nat) (so : Nat → Option Addr) (sc : Nat → Nat) (bp br bo : Nat) (Aq Hq : Option Addr) (Dq Ee : Nat) (j : Nat) (Oq : Option Addr) (Cq : Nat) (soq : Nat → Option Addr) (scq : Nat → Nat) : List Ch := arrR 0 x O A H so sc ++ [.cells bp 33 [.sl 0 O x.c.n C, .sl 1 A x.aN D, .sl 2 H x.hN E], .cells br 33 [.nil, .nil, .nil], .cells bo 33 [.sl 7 Oq j Cq, .sl 8 Aq x.aN Dq, .sl 9 Hq x.hN Ee]] ++ arrO 7 (cutA x j) Oq Aq Hq Cq Dq Ee soq scq
theorem push_hd {j id : Nat} {sn scq : Nat → Nat} {soq : Nat → Option Addr} {ro : Option Addr} {rc : Nat} : ∀ i, ltN i (j + 1) → (SC.val (if i < j then Value.slice (soq i) (sn i) (scq i) else Value.slice ro (sn j) rc)).den = (SC.sl id (if i < j then soq i else ro) (sn i) (if i < j then scq i else rc)).den := fun i hi => by
  have hi2 : i < j + 1 := hi
  by_cases hij : i < j
  · simp [SC.den, hij]
  · have hij2 : i = j := by omega
    subst hij2
    simp [SC.den]
theorem push_po {j : Nat} {po : Nat → Bool} : ∀ i, ltN i (j + 1) → (SC.bool (if i < j then po i else po j)).den = (SC.bool (po i)).den := fun i hi => by
  have hi2 : i < j + 1 := hi
  by_cases hij : i < j
  · simp [SC.den, hij]
  · have hij2 : i = j := by omega
    subst hij2
    simp [SC.den]
theorem cut_full (x : AD) : cutA x x.c.n = x := rfl
def cpIH (x : AD) (O A H : Option Addr) (C D E : Nat) (so : Nat → Option Addr) (sc : Nat → Nat) (bp br bo : Nat) (Aq Hq : Option Addr) (Dq Ee : Nat) (i : SC) (g : Nat → Value) : List SV := [.a (.c (.val (g 0))), .a (.c (.ptr 4 bp 0)), .a (.c (.ptr 5 br 0)), .a (.c (.ptr 6 bo 0)), .a (.c (.val (g 4))), .a (.c (.val (g 5))), .a (.c (.val (g 6))), .a (.c (.val (g 7))), .a (.c (.val (g 8))), .a (.c (.val (g 9))), .a (.c (.val (g 10))), .a (.c (.val (g 11))), .a (.c (.val (g 12))), .a (.c (.val (g 13))), .a (.c (.val (g 14))), .a (.c (.val (g 15))), .a (.c (.sl 0 O x.c.n C)), .a (.c (.int (x.c.n : Int))), .a (.c i), .a (.c (.val (g 19))), .a (.c (.val (g 20))), .a (.c (.val (g 21))), .a (.c (.val (g 22))), .a (.c (.val (g 23))), .a (.c (.val (g 24))), .a (.c (.val (g 25))), .a (.c (.val (g 26))), .a (.c (.val (g 27))), .a (.c (.val (g 28))), .a (.c (.val (g 29))), .a (.c (.val (g 30)))]
def scpI : LSm := fun ts ch kk => ∃ (x : AD) (O A H : Option Addr) (C D E : Nat) (so : Nat → Option Addr) (sc : Nat → Nat) (bp br bo : Nat) (Aq Hq : Option Addr) (Dq Ee : Nat), (ts.map SV.den = (cpIH x O A H C D E so sc bp br bo Aq Hq Dq Ee (.il 0) (fun d => (ts.getD d .undef).den)).map SV.den ∧ SelS ch (idsCp ts ch) (cpT x O A H C D E so sc bp br bo Aq Hq Dq Ee 0 none 0 (fun _ => none) (fun _ => 0)) ∧ capA x) ∧
    ∀ (g : Nat → Value) (kx : Int) (Oq : Option Addr) (Cq : Nat) (soq : Nat → Option Addr) (scq : Nat → Nat), kk (.exit 0) (cpIH x O A H C D E so sc bp br bo Aq Hq Dq Ee (.int kx) g) (cpT x O A H C D E so sc bp br bo Aq Hq Dq Ee x.c.n Oq Cq soq scq)
theorem cpIB (x : AD) (O A H : Option Addr) (C D E : Nat) (so : Nat → Option Addr) (sc : Nat → Nat) (bp br bo : Nat) (Aq Hq : Option Addr) (Dq Ee : Nat) (Oq : Option Addr) (Cq : Nat) (soq : Nat → Option Addr) (scq : Nat → Nat) (j : Nat) (g : Nat → Value) (NX : List SV → List Ch → Prop) (kx : Exit → List SV → List Ch → Prop) : (exCode Try.prog {tb := [(71, sCpC)], D := fun _ => [7]} 400 (theLoop Try.f53 0) (cpIH x O A H C D E so sc bp br bo Aq Hq Dq Ee (.int (j : Int)) g) (cpT x O A H C D E so sc bp br bo Aq Hq Dq Ee j Oq Cq soq scq) (loopK NX kx)) = (
  (((decide (((j : Nat) : Int) < ((((x).1).1 : Nat) : Int))) = Bool.true →
 (O = O ∧
 (((x).1).1 = ((x).1).1 ∧
 ((0 ≤ ((j : Nat) : Int) ∧ ((j : Nat) : Int) < ((((x).1).1 : Nat) : Int)) ∧
 (O = O ∧
 (j < ((x).1).1 ∧
 (∀ b0 : Nat,
 (b0 = b0 ∧
 (bo = bo ∧
 (b0 = b0 ∧
 (Exists (fun (t1 : Nat) => (Exists (fun (y2 : CD) => (Exists (fun (so3 : (Nat →
 (Option Addr))) => (Exists (fun (sc4 : (Nat →
 Nat)) => (Exists (fun (i5 : Nat) => (((symRows Bool.false 0 (x).1 so (fun (x6 : Nat) => 0)) = (symRows Bool.false t1 y2 so3 sc4) ∧
 ((so j) = (so3 i5) ∧
 ((((x).1).2 j) = ((y2).2 i5) ∧
 i5 < (y2).1))) ∧
 ((capC (((x).1).2 j)) ∧
 (∀ ro7 : (Option Addr),
 (∀ rc8 : Nat,
 (True ∧
 (∀ b9 : Nat,
 (True ∧
 ((Oq = Oq ∧
 (j = j ∧
 (Cq = Cq ∧
 (b9 = b9 ∧
 ((∀ i10 : Nat,
 Bool.true = Bool.true) ∧
 (apC j 1 32)))))) ∧
 (∀ ao'11 : (Option Addr),
 (∀ cap'12 : Nat,
 (True ∧
 (bo = bo ∧
 (True ∧
 ((rng (((j : Nat) : Int) + (1 : Int))) ∧
 (NX [(SV.a (SA.c (SC.val (g 0)))), (SV.a (SA.c (SC.ptr 4 bp 0))), (SV.a (SA.c (SC.ptr 5 br 0))), (SV.a (SA.c (SC.ptr 6 bo 0))), (SV.a (SA.c (SC.val (g 4)))), (SV.a (SA.c (SC.ptr 11 b0 0))), (SV.a (SA.c (SC.val (g 6)))), (SV.a (SA.c (SC.val (g 7)))), (SV.a (SA.c (SC.val (g 8)))), (SV.a (SA.c (SC.val (g 9)))), (SV.a (SA.c (SC.val (g 10)))), (SV.a (SA.c (SC.val (g 11)))), (SV.a (SA.c (SC.val (g 12)))), (SV.a (SA.c (SC.val (g 13)))), (SV.a (SA.c (SC.val (g 14)))), (SV.a (SA.c (SC.val (g 15)))), (SV.a (SA.c (SC.sl 0 O ((x).1).1 C))), (SV.a (SA.c (SC.int ((((x).1).1 : Nat) : Int)))), (SV.a (SA.c (SC.int (((j : Nat) : Int) + (1 : Int))))), (SV.a (SA.c (SC.lit Bool.true))), (SV.a (SA.c (SC.rptr 0 O 2 j 0))), (SV.a (SA.agg [(SC.sl 3 (so j) (((x).1).2 j) (sc j)), (SC.bool (((x).1).4 j))])), (SV.a (SA.c (SC.ptr 6 bo 0))), (SV.a (SA.c (SC.sl 7 Oq j Cq))), (SV.a (SA.agg [(SC.sl 3 (so j) (((x).1).2 j) (sc j)), (SC.bool (((x).1).4 j))])), (SV.a (SA.agg [(SC.sl 12 ro7 (((x).1).2 j) rc8), (SC.bool (((x).1).4 j))])), (SV.a (SA.c (SC.slc 13 b9 1 1))), (SV.a (SA.c (SC.sl 14 ao'11 (j + 1) cap'12))), (SV.a (SA.c (SC.ptr 6 bo 0))), (SV.a (SA.c (SC.int (((j : Nat) : Int) + (1 : Int))))), (SV.a (SA.c (SC.val (g 30))))] [(Ch.row (Row.mk Bool.false O 0 2 ((x).1).1 0 [(fun (i13 : Nat) => (SC.sl 3 (so i13) (((x).1).2 i13) (sc i13))), (fun (i14 : Nat) => (SC.bool (((x).1).4 i14)))])), (Ch.row (Row.mk Bool.false A 0 1 (x).2 0 [(fun (i15 : Nat) => (SC.int ((x).3 i15)))])), (Ch.row (Row.mk Bool.false H 0 1 (x).4 0 [(fun (i16 : Nat) => (SC.int ((x).5 i16)))])), (Ch.obj Bool.false (symRows Bool.false 0 (x).1 so (fun (x17 : Nat) => 0))), (Ch.cells bp 33 [(SC.sl 0 O ((x).1).1 C), (SC.sl 1 A (x).2 D), (SC.sl 2 H (x).4 E)]), (Ch.cells br 33 [SC.nil, SC.nil, SC.nil]), (Ch.cells bo 33 [(SC.sl 14 ao'11 (j + 1) cap'12), (SC.sl 8 Aq (x).2 Dq), (SC.sl 9 Hq (x).4 Ee)]), Ch.dead, (Ch.row (Row.mk Bool.true Aq 3 1 (x).2 Dq [(fun (i18 : Nat) => (SC.int ((x).3 i18)))])), (Ch.row (Row.mk Bool.true Hq 3 1 (x).4 Ee [(fun (i19 : Nat) => (SC.int ((x).5 i19)))])), (Ch.obj Bool.true (symRows Bool.true 3 (CD.mk j ((x).1).2 ((x).1).3 ((x).1).4) soq scq)), (Ch.cells b0 52 [(SC.sl 3 (so j) (((x).1).2 j) (sc j)), (SC.bool (((x).1).4 j))]), (Ch.row (Row.mk Bool.true ro7 3 1 (((x).1).2 j) rc8 [(fun (i20 : Nat) => (SC.int ((y2).3 i5 i20)))])), (Ch.cells b9 52 [(SC.sl 12 ro7 (((x).1).2 j) rc8), (SC.bool (((x).1).4 j))]), (Ch.row (Row.mk Bool.true ao'11 52 2 (j + 1) cap'12 [(fun (i21 : Nat) => (SC.val (if i21 < j then (Value.slice (soq i21) (((x).1).2 i21) (scq i21)) else (Value.slice ro7 (((x).1).2 j) rc8)))), (fun (i22 : Nat) => (SC.bool (if i22 < j then (((x).1).4 i22) else (((x).1).4 j))))]))]))))))))))))))))))))))))))))))))))) ∧
 ((decide (((j : Nat) : Int) < ((((x).1).1 : Nat) : Int))) = Bool.false →
 (kx (Exit.exit 0) [(SV.a (SA.c (SC.val (g 0)))), (SV.a (SA.c (SC.ptr 4 bp 0))), (SV.a (SA.c (SC.ptr 5 br 0))), (SV.a (SA.c (SC.ptr 6 bo 0))), (SV.a (SA.c (SC.val (g 4)))), (SV.a (SA.c (SC.val (g 5)))), (SV.a (SA.c (SC.val (g 6)))), (SV.a (SA.c (SC.val (g 7)))), (SV.a (SA.c (SC.val (g 8)))), (SV.a (SA.c (SC.val (g 9)))), (SV.a (SA.c (SC.val (g 10)))), (SV.a (SA.c (SC.val (g 11)))), (SV.a (SA.c (SC.val (g 12)))), (SV.a (SA.c (SC.val (g 13)))), (SV.a (SA.c (SC.val (g 14)))), (SV.a (SA.c (SC.val (g 15)))), (SV.a (SA.c (SC.sl 0 O ((x).1).1 C))), (SV.a (SA.c (SC.int ((((x).1).1 : Nat) : Int)))), (SV.a (SA.c (SC.int ((j : Nat) : Int)))), (SV.a (SA.c (SC.lit Bool.false))), (SV.a (SA.c (SC.val (g 20)))), (SV.a (SA.c (SC.val (g 21)))), (SV.a (SA.c (SC.val (g 22)))), (SV.a (SA.c (SC.val (g 23)))), (SV.a (SA.c (SC.val (g 24)))), (SV.a (SA.c (SC.val (g 25)))), (SV.a (SA.c (SC.val (g 26)))), (SV.a (SA.c (SC.val (g 27)))), (SV.a (SA.c (SC.val (g 28)))), (SV.a (SA.c (SC.val (g 29)))), (SV.a (SA.c (SC.val (g 30))))] [(Ch.row (Row.mk Bool.false O 0 2 ((x).1).1 0 [(fun (i23 : Nat) => (SC.sl 3 (so i23) (((x).1).2 i23) (sc i23))), (fun (i24 : Nat) => (SC.bool (((x).1).4 i24)))])), (Ch.row (Row.mk Bool.false A 0 1 (x).2 0 [(fun (i25 : Nat) => (SC.int ((x).3 i25)))])), (Ch.row (Row.mk Bool.false H 0 1 (x).4 0 [(fun (i26 : Nat) => (SC.int ((x).5 i26)))])), (Ch.obj Bool.false (symRows Bool.false 0 (x).1 so (fun (x27 : Nat) => 0))), (Ch.cells bp 33 [(SC.sl 0 O ((x).1).1 C), (SC.sl 1 A (x).2 D), (SC.sl 2 H (x).4 E)]), (Ch.cells br 33 [SC.nil, SC.nil, SC.nil]), (Ch.cells bo 33 [(SC.sl 7 Oq j Cq), (SC.sl 8 Aq (x).2 Dq), (SC.sl 9 Hq (x).4 Ee)]), (Ch.row (Row.mk Bool.true Oq 52 2 j Cq [(fun (i28 : Nat) => (SC.sl 10 (soq i28) (((x).1).2 i28) (scq i28))), (fun (i29 : Nat) => (SC.bool (((x).1).4 i29)))])), (Ch.row (Row.mk Bool.true Aq 3 1 (x).2 Dq [(fun (i30 : Nat) => (SC.int ((x).3 i30)))])), (Ch.row (Row.mk Bool.true Hq 3 1 (x).4 Ee [(fun (i31 : Nat) => (SC.int ((x).5 i31)))])), (Ch.obj Bool.true (symRows Bool.true 3 (CD.mk j ((x).1).2 ((x).1).3 ((x).1).4) soq scq))])))) := by kernel_rfl
theorem cpI_ok (X : Cx) : LoopOK Try.prog X (theLoop Try.f53 0) scpI := by
  intro ts ch kk a w hS hT hd hs
  obtain ⟨x, O, A, H, C, D, E, so, sc, bp, br, bo, Aq, Hq, Dq, Ee, ⟨h1, hch, hcap⟩, hk⟩ := hS
  have hn0 := hcap.1
  refine loop_ok mixed (E := {tb := [(71, sCpC)], D := fun _ => [7]}) ⟨sCpC_I, trivial⟩ (loopsOK_nil _ _ _) 400 x.c.n (fun j ts ch => ∃ g Oq Cq soq scq, ts = cpIH x O A H C D E so sc bp br bo Aq Hq Dq Ee (.int (j : Int)) g ∧ ch = cpT x O A H C D E so sc bp br bo Aq Hq Dq Ee j Oq Cq soq scq) ?_ ?_ hT hd hs
  · rintro j _ _ ⟨g, Oq, Cq, soq, scq, rfl, rfl⟩ hj
    refine (@Eq.mpr _ _ (cpIB x O A H C D E so sc bp br bo Aq Hq Dq Ee Oq Cq soq scq j g _ _) ?_)
    by_cases hlt : j < x.c.n
    · have hsn : capC (x.c.sn j) := hcap.2.2.2 j hlt
      repeat' (first
        | with_reducible exact rfl
        | exact True.intro
        | with_reducible assumption
        | (refine ⟨hlt, ?_⟩; show Next _ _ _ _; rename_i ro rc bb ao cap; refine Next.mk (fun g => cpIH x O A H C D E so sc bp br bo Aq Hq Dq Ee (.int ((j + 1 : Nat) : Int)) g) (cpT x O A H C D E so sc bp br bo Aq Hq Dq Ee (j + 1) ao cap (fun i => if i < j then soq i else ro) (fun i => if i < j then scq i else rc)) ⟨_, ao, cap, _, _, rfl, rfl⟩ rfl fun w hw => SelS.hs (l := [0, 1, 2, 3, 4, 5, 6, 14, 8, 9, 10]) (by refine ⟨?_, rfl⟩; repeat' (first | exact True.intro | exact symRows_push | exact rfl | refine And.intro ?_ ?_ | (intro i hi; show _ = _; with_reducible rfl) | (intro i hi; show _ = _; rfl) | exact push_hd | exact push_po | (intro i hi; show _ = _; simp only [SC.den]; split <;> rfl))) (hw.nestApp 10 12 rfl rfl rfl (by decide)))
        | refine And.intro ?_ ?_
        | apply Exists.intro
        | (intro h; replace h := of_decide_eq_true h; first | (exfalso; omega) | skip)
        | (intro h; replace h := of_decide_eq_false h; first | (exfalso; omega) | skip)
        | intro _
        | omega
        | (simp; omega))
    · have hjn : j = x.c.n := by omega
      subst hjn
      repeat' (first
        | with_reducible exact rfl
        | exact True.intro
        | with_reducible assumption
        | (refine Next.mk (fun g => cpIH x O A H C D E so sc bp br bo Aq Hq Dq Ee (.int (x.c.n : Int)) g) _ (hk _ _ _ _ _ _) rfl fun w hw => hw)
        | refine And.intro ?_ ?_
        | (intro h; replace h := of_decide_eq_true h; first | (exfalso; omega) | skip)
        | (intro h; replace h := of_decide_eq_false h; first | (exfalso; omega) | skip)
        | intro _
        | omega)
  · exact Next.mk (fun g => cpIH x O A H C D E so sc bp br bo Aq Hq Dq Ee (.int ((0 : Nat) : Int)) g) _ ⟨_, _, _, _, _, rfl, rfl⟩ h1 fun w hw => hch.hs hw
def cpSH (x : AD) (O A H : Option Addr) (C D E : Nat) (so : Nat → Option Addr) (sc : Nat → Nat) (bp br bo : Nat) (Aq Hq : Option Addr) (Dq Ee : Nat) (i : SC) (g : Nat → Value) : List SV := [.a (.c (.val (g 0))), .a (.c (.ptr 4 bp 0)), .a (.c (.ptr 5 br 0)), .a (.c (.ptr 6 bo 0)), .a (.c i), .a (.c (.val (g 5))), .a (.c (.val (g 6))), .a (.c (.val (g 7))), .a (.c (.val (g 8))), .a (.c (.val (g 9))), .a (.c (.val (g 10))), .a (.c (.val (g 11))), .a (.c (.val (g 12))), .a (.c (.val (g 13))), .a (.c (.val (g 14))), .a (.c (.val (g 15))), .a (.c (.val (g 16))), .a (.c (.val (g 17))), .a (.c (.val (g 18))), .a (.c (.val (g 19))), .a (.c (.val (g 20))), .a (.c (.val (g 21))), .a (.c (.val (g 22))), .a (.c (.val (g 23))), .a (.c (.val (g 24))), .a (.c (.val (g 25))), .a (.c (.val (g 26))), .a (.c (.val (g 27))), .a (.c (.val (g 28))), .a (.c (.val (g 29))), .a (.c (.val (g 30))), .a (.c (.val (g 31))), .a (.c (.val (g 32)))]
def scpS : LSm := fun ts ch kk => ∃ (x : AD) (O A H : Option Addr) (C D E : Nat) (so : Nat → Option Addr) (sc : Nat → Nat) (bp br bo : Nat) (Aq Hq : Option Addr) (Dq Ee : Nat), (ts.map SV.den = (cpSH x O A H C D E so sc bp br bo Aq Hq Dq Ee (.il 0) (fun d => (ts.getD d .undef).den)).map SV.den ∧ SelS ch (idsCp ts ch) (cpT x O A H C D E so sc bp br bo Aq Hq Dq Ee 0 none 0 (fun _ => none) (fun _ => 0)) ∧ capA x) ∧
    ∀ (g : Nat → Value) (kx : Int) (Oq : Option Addr) (Cq : Nat) (soq : Nat → Option Addr) (scq : Nat → Nat), kk (.exit 0) (cpSH x O A H C D E so sc bp br bo Aq Hq Dq Ee (.int kx) g) (cpT x O A H C D E so sc bp br bo Aq Hq Dq Ee x.c.n Oq Cq soq scq)
theorem cpSB (x : AD) (O A H : Option Addr) (C D E : Nat) (so : Nat → Option Addr) (sc : Nat → Nat) (bp br bo : Nat) (Aq Hq : Option Addr) (Dq Ee : Nat) (Oq : Option Addr) (Cq : Nat) (soq : Nat → Option Addr) (scq : Nat → Nat) (j : Nat) (g : Nat → Value) (NX : List SV → List Ch → Prop) (kx : Exit → List SV → List Ch → Prop) : (exCode Try.prog {tb := [(49, sCpC)], D := fun _ => [7]} 400 (theLoop Try.f45 0) (cpSH x O A H C D E so sc bp br bo Aq Hq Dq Ee (.int (j : Int)) g) (cpT x O A H C D E so sc bp br bo Aq Hq Dq Ee j Oq Cq soq scq) (loopK NX kx)) = (
  (bp = bp ∧
 (((decide (((j : Nat) : Int) < ((((x).1).1 : Nat) : Int))) = Bool.true →
 (bo = bo ∧
 (bp = bp ∧
 (O = O ∧
 (((x).1).1 = ((x).1).1 ∧
 ((0 ≤ ((j : Nat) : Int) ∧ ((j : Nat) : Int) < ((((x).1).1 : Nat) : Int)) ∧
 (O = O ∧
 (j < ((x).1).1 ∧
 (Exists (fun (t0 : Nat) => (Exists (fun (y1 : CD) => (Exists (fun (so2 : (Nat →
 (Option Addr))) => (Exists (fun (sc3 : (Nat →
 Nat)) => (Exists (fun (i4 : Nat) => (((symRows Bool.false 0 (x).1 so (fun (x5 : Nat) => 0)) = (symRows Bool.false t0 y1 so2 sc3) ∧
 ((so j) = (so2 i4) ∧
 ((((x).1).2 j) = ((y1).2 i4) ∧
 i4 < (y1).1))) ∧
 ((capC (((x).1).2 j)) ∧
 (∀ ro6 : (Option Addr),
 (∀ rc7 : Nat,
 (True ∧
 (∀ b8 : Nat,
 (True ∧
 ((Oq = Oq ∧
 (j = j ∧
 (Cq = Cq ∧
 (b8 = b8 ∧
 ((∀ i9 : Nat,
 Bool.true = Bool.true) ∧
 (apC j 1 32)))))) ∧
 (∀ ao'10 : (Option Addr),
 (∀ cap'11 : Nat,
 (True ∧
 (bo = bo ∧
 (True ∧
 ((rng (((j : Nat) : Int) + (1 : Int))) ∧
 (NX [(SV.a (SA.c (SC.val (g 0)))), (SV.a (SA.c (SC.ptr 4 bp 0))), (SV.a (SA.c (SC.ptr 5 br 0))), (SV.a (SA.c (SC.ptr 6 bo 0))), (SV.a (SA.c (SC.int (((j : Nat) : Int) + (1 : Int))))), (SV.a (SA.c (SC.val (g 5)))), (SV.a (SA.c (SC.val (g 6)))), (SV.a (SA.c (SC.val (g 7)))), (SV.a (SA.c (SC.val (g 8)))), (SV.a (SA.c (SC.val (g 9)))), (SV.a (SA.c (SC.val (g 10)))), (SV.a (SA.c (SC.val (g 11)))), (SV.a (SA.c (SC.val (g 12)))), (SV.a (SA.c (SC.val (g 13)))), (SV.a (SA.c (SC.int ((j : Nat) : Int)))), (SV.a (SA.c (SC.ptr 4 bp 0))), (SV.a (SA.c (SC.sl 0 O ((x).1).1 C))), (SV.a (SA.c (SC.int ((((x).1).1 : Nat) : Int)))), (SV.a (SA.c (SC.lit Bool.true))), (SV.a (SA.c (SC.int ((j : Nat) : Int)))), (SV.a (SA.c (SC.int (((j : Nat) : Int) + (1 : Int))))), (SV.a (SA.c (SC.ptr 6 bo 0))), (SV.a (SA.c (SC.sl 7 Oq j Cq))), (SV.a (SA.c (SC.ptr 4 bp 0))), (SV.a (SA.c (SC.sl 0 O ((x).1).1 C))), (SV.a (SA.c (SC.int ((j : Nat) : Int)))), (SV.a (SA.c (SC.rptr 0 O 2 j 0))), (SV.a (SA.agg [(SC.sl 3 (so j) (((x).1).2 j) (sc j)), (SC.bool (((x).1).4 j))])), (SV.a (SA.agg [(SC.sl 11 ro6 (((x).1).2 j) rc7), (SC.bool (((x).1).4 j))])), (SV.a (SA.c (SC.slc 12 b8 1 1))), (SV.a (SA.c (SC.sl 13 ao'10 (j + 1) cap'11))), (SV.a (SA.c (SC.ptr 6 bo 0))), (SV.a (SA.c (SC.val (g 32))))] [(Ch.row (Row.mk Bool.false O 0 2 ((x).1).1 0 [(fun (i12 : Nat) => (SC.sl 3 (so i12) (((x).1).2 i12) (sc i12))), (fun (i13 : Nat) => (SC.bool (((x).1).4 i13)))])), (Ch.row (Row.mk Bool.false A 0 1 (x).2 0 [(fun (i14 : Nat) => (SC.int ((x).3 i14)))])), (Ch.row (Row.mk Bool.false H 0 1 (x).4 0 [(fun (i15 : Nat) => (SC.int ((x).5 i15)))])), (Ch.obj Bool.false (symRows Bool.false 0 (x).1 so (fun (x16 : Nat) => 0))), (Ch.cells bp 33 [(SC.sl 0 O ((x).1).1 C), (SC.sl 1 A (x).2 D), (SC.sl 2 H (x).4 E)]), (Ch.cells br 33 [SC.nil, SC.nil, SC.nil]), (Ch.cells bo 33 [(SC.sl 13 ao'10 (j + 1) cap'11), (SC.sl 8 Aq (x).2 Dq), (SC.sl 9 Hq (x).4 Ee)]), Ch.dead, (Ch.row (Row.mk Bool.true Aq 3 1 (x).2 Dq [(fun (i17 : Nat) => (SC.int ((x).3 i17)))])), (Ch.row (Row.mk Bool.true Hq 3 1 (x).4 Ee [(fun (i18 : Nat) => (SC.int ((x).5 i18)))])), (Ch.obj Bool.true (symRows Bool.true 3 (CD.mk j ((x).1).2 ((x).1).3 ((x).1).4) soq scq)), (Ch.row (Row.mk Bool.true ro6 3 1 (((x).1).2 j) rc7 [(fun (i19 : Nat) => (SC.int ((y1).3 i4 i19)))])), (Ch.cells b8 52 [(SC.sl 11 ro6 (((x).1).2 j) rc7), (SC.bool (((x).1).4 j))]), (Ch.row (Row.mk Bool.true ao'10 52 2 (j + 1) cap'11 [(fun (i20 : Nat) => (SC.val (if i20 < j then (Value.slice (soq i20) (((x).1).2 i20) (scq i20)) else (Value.slice ro6 (((x).1).2 j) rc7)))), (fun (i21 : Nat) => (SC.bool (if i21 < j then (((x).1).4 i21) else (((x).1).4 j))))]))]))))))))))))))))))))))))))))))))) ∧
 ((decide (((j : Nat) : Int) < ((((x).1).1 : Nat) : Int))) = Bool.false →
 (kx (Exit.exit 0) [(SV.a (SA.c (SC.val (g 0)))), (SV.a (SA.c (SC.ptr 4 bp 0))), (SV.a (SA.c (SC.ptr 5 br 0))), (SV.a (SA.c (SC.ptr 6 bo 0))), (SV.a (SA.c (SC.int ((j : Nat) : Int)))), (SV.a (SA.c (SC.val (g 5)))), (SV.a (SA.c (SC.val (g 6)))), (SV.a (SA.c (SC.val (g 7)))), (SV.a (SA.c (SC.val (g 8)))), (SV.a (SA.c (SC.val (g 9)))), (SV.a (SA.c (SC.val (g 10)))), (SV.a (SA.c (SC.val (g 11)))), (SV.a (SA.c (SC.val (g 12)))), (SV.a (SA.c (SC.val (g 13)))), (SV.a (SA.c (SC.int ((j : Nat) : Int)))), (SV.a (SA.c (SC.ptr 4 bp 0))), (SV.a (SA.c (SC.sl 0 O ((x).1).1 C))), (SV.a (SA.c (SC.int ((((x).1).1 : Nat) : Int)))), (SV.a (SA.c (SC.lit Bool.false))), (SV.a (SA.c (SC.val (g 19)))), (SV.a (SA.c (SC.val (g 20)))), (SV.a (SA.c (SC.val (g 21)))), (SV.a (SA.c (SC.val (g 22)))), (SV.a (SA.c (SC.val (g 23)))), (SV.a (SA.c (SC.val (g 24)))), (SV.a (SA.c (SC.val (g 25)))), (SV.a (SA.c (SC.val (g 26)))), (SV.a (SA.c (SC.val (g 27)))), (SV.a (SA.c (SC.val (g 28)))), (SV.a (SA.c (SC.val (g 29)))), (SV.a (SA.c (SC.val (g 30)))), (SV.a (SA.c (SC.val (g 31)))), (SV.a (SA.c (SC.val (g 32))))] [(Ch.row (Row.mk Bool.false O 0 2 ((x).1).1 0 [(fun (i22 : Nat) => (SC.sl 3 (so i22) (((x).1).2 i22) (sc i22))), (fun (i23 : Nat) => (SC.bool (((x).1).4 i23)))])), (Ch.row (Row.mk Bool.false A 0 1 (x).2 0 [(fun (i24 : Nat) => (SC.int ((x).3 i24)))])), (Ch.row (Row.mk Bool.false H 0 1 (x).4 0 [(fun (i25 : Nat) => (SC.int ((x).5 i25)))])), (Ch.obj Bool.false (symRows Bool.false 0 (x).1 so (fun (x26 : Nat) => 0))), (Ch.cells bp 33 [(SC.sl 0 O ((x).1).1 C), (SC.sl 1 A (x).2 D), (SC.sl 2 H (x).4 E)]), (Ch.cells br 33 [SC.nil, SC.nil, SC.nil]), (Ch.cells bo 33 [(SC.sl 7 Oq j Cq), (SC.sl 8 Aq (x).2 Dq), (SC.sl 9 Hq (x).4 Ee)]), (Ch.row (Row.mk Bool.true Oq 52 2 j Cq [(fun (i27 : Nat) => (SC.sl 10 (soq i27) (((x).1).2 i27) (scq i27))), (fun (i28 : Nat) => (SC.bool (((x).1).4 i28)))])), (Ch.row (Row.mk Bool.true Aq 3 1 (x).2 Dq [(fun (i29 : Nat) => (SC.int ((x).3 i29)))])), (Ch.row (Row.mk Bool.true Hq 3 1 (x).4 Ee [(fun (i30 : Nat) => (SC.int ((x).5 i30)))])), (Ch.obj Bool.true (symRows Bool.true 3 (CD.mk j ((x).1).2 ((x).1).3 ((x).1).4) soq scq))]))))) := by kernel_rfl
theorem cpS_ok (X : Cx) : LoopOK Try.prog X (theLoop Try.f45 0) scpS := by
  intro ts ch kk a w hS hT hd hs
  obtain ⟨x, O, A, H, C, D, E, so, sc, bp, br, bo, Aq, Hq, Dq, Ee, ⟨h1, hch, hcap⟩, hk⟩ := hS
  have hn0 := hcap.1
  refine loop_ok mixed (E := {tb := [(49, sCpC)], D := fun _ => [7]}) ⟨sCpC_S, trivial⟩ (loopsOK_nil _ _ _) 400 x.c.n (fun j ts ch => ∃ g Oq Cq soq scq, ts = cpSH x O A H C D E so sc bp br bo Aq Hq Dq Ee (.int (j : Int)) g ∧ ch = cpT x O A H C D E so sc bp br bo Aq Hq Dq Ee j Oq Cq soq scq) ?_ ?_ hT hd hs
  · rintro j _ _ ⟨g, Oq, Cq, soq, scq, rfl, rfl⟩ hj
    refine (@Eq.mpr _ _ (cpSB x O A H C D E so sc bp br bo Aq Hq Dq Ee Oq Cq soq scq j g _ _) ?_)
    by_cases hlt : j < x.c.n
    · have hsn : capC (x.c.sn j) := hcap.2.2.2 j hlt
      repeat' (first
        | with_reducible exact rfl
        | exact True.intro
        | with_reducible assumption
        | (refine ⟨hlt, ?_⟩; show Next _ _ _ _; rename_i ro rc bb ao cap; refine Next.mk (fun g => cpSH x O A H C D E so sc bp br bo Aq Hq Dq Ee (.int ((j + 1 : Nat) : Int)) g) (cpT x O A H C D E so sc bp br bo Aq Hq Dq Ee (j + 1) ao cap (fun i => if i < j then soq i else ro) (fun i => if i < j then scq i else rc)) ⟨_, ao, cap, _, _, rfl, rfl⟩ rfl fun w hw => SelS.hs (l := [0, 1, 2, 3, 4, 5, 6, 13, 8, 9, 10]) (by refine ⟨?_, rfl⟩; repeat' (first | exact True.intro | exact symRows_push | exact rfl | refine And.intro ?_ ?_ | (intro i hi; show _ = _; with_reducible rfl) | (intro i hi; show _ = _; rfl) | exact push_hd | exact push_po | (intro i hi; show _ = _; simp only [SC.den]; split <;> rfl))) (hw.nestApp 10 11 rfl rfl rfl (by decide)))
        | refine And.intro ?_ ?_
        | apply Exists.intro
        | (intro h; replace h := of_decide_eq_true h; first | (exfalso; omega) | skip)
        | (intro h; replace h := of_decide_eq_false h; first | (exfalso; omega) | skip)
        | intro _
        | omega
        | (simp; omega))
    · have hjn : j = x.c.n := by omega
      subst hjn
      repeat' (first
        | with_reducible exact rfl
        | exact True.intro
        | with_reducible assumption
        | (refine Next.mk (fun g => cpSH x O A H C D E so sc bp br bo Aq Hq Dq Ee (.int (x.c.n : Int)) g) _ (hk _ _ _ _ _ _) rfl fun w hw => hw)
        | refine And.intro ?_ ?_
        | (intro h; replace h := of_decide_eq_true h; first | (exfalso; omega) | skip)
        | (intro h; replace h := of_decide_eq_false h; first | (exfalso; omega) | skip)
        | intro _
        | omega)
  · exact Next.mk (fun g => cpSH x O A H C D E so sc bp br bo Aq Hq Dq Ee (.int ((0 : Nat) : Int)) g) _ ⟨_, _, _, _, _, rfl, rfl⟩ h1 fun w hw => hch.hs hw
end Go.Proofs.Ytddeinpnadfgmaa

/-
  Shares made.
-/
import Derived.Test.YtlkklplnomecgaaSxShare2
namespace Go.Proofs.Ytlkklplnomecgaa
set_option linter.unusedVariables false
set_option linter.unusedSimpArgs false
open Go.RowKit
set_option maxRecDepth 100000
set_option maxHeartbeats 8000000

def min5 (n : Nat) : Nat := min n 5
theorem min5_ok (n : Nat) : min5 n ≤ n ∧ min5 n ≤ 5 ∧ (n ≤ 5 → min5 n = n) ∧ (5 ≤ n → min5 n = 5) := by
  unfold min5
  omega
def shNewIH (wo : Option Addr) (n wc : Nat) (wg : Nat → Int) (ao : Option Addr) (j cap : Nat) (i : SC) (g : Nat → Value) : List SV := [.a (.c (.sl 0 wo n wc)), .a (.c (.val (g 1))), .a (.c (.val (g 2))), .a (.c (.val (g 3))), .a (.c (.sl 1 ao j cap)), .a (.c (.val (g 5))), .a (.c (.val (g 6))), .a (.c (.val (g 7))), .a (.c (.sl 0 wo n wc)), .a (.c (.int (n : Int))), .a (.c i), .a (.c (.val (g 11))), .a (.c (.val (g 12))), .a (.c (.val (g 13))), .a (.c (.val (g 14))), .a (.c (.val (g 15))), .a (.c (.val (g 16))), .a (.c (.val (g 17))), .a (.c (.val (g 18))), .a (.c (.val (g 19))), .a (.c (.val (g 20))), .a (.c (.val (g 21))), .a (.c (.val (g 22))), .a (.c (.val (g 23))), .a (.c (.val (g 24)))]
def shNewIT (wo : Option Addr) (n wc : Nat) (wg : Nat → Int) (ao : Option Addr) (j cap : Nat) : List Ch := [.row ⟨false, wo, 0, 1, n, 0, [fun i => .int (wg i)]⟩, .row ⟨true, ao, 138, 2, j, cap, [fun i => .int (wg i), fun i => .int (wg i)]⟩]
def sshNewI (wo : Option Addr) (n wc : Nat) (wg : Nat → Int) : LSm := fun ts ch k =>
  ∃ b, (ts.map SV.den = (shNewIH wo n wc wg (some ⟨b, 0, none⟩) 0 0 (.il 0) (fun d => (ts.getD d .undef).den)).map SV.den ∧ selC ch [0, 1] = [.row ⟨false, wo, 0, 1, n, 0, [fun i => .int (wg i)]⟩, .cells b 138 []]) ∧
    ∀ g ao cap, k (.exit 0) (shNewIH wo n wc wg ao n cap (.int ((n : Nat) : Int)) g) (shNewIT wo n wc wg ao n cap)
theorem shNewIB (wo : Option Addr) (n wc : Nat) (wg : Nat → Int) (ao : Option Addr) (j cap : Nat) (g : Nat → Value) (NX : List SV → List Ch → Prop) (kx : Exit → List SV → List Ch → Prop) : (exCode Try.prog {} 400 (theLoop Try.f77 0) (shNewIH wo n wc wg ao j cap (.int (j : Int)) g) (shNewIT wo n wc wg ao j cap) (loopK NX kx)) = (
  (((decide (((j : Nat) : Int) < ((n : Nat) : Int))) = Bool.true →
  (wo = wo ∧
   (n = n ∧
   ((0 ≤ ((j : Nat) : Int) ∧ ((j : Nat) : Int) < ((n : Nat) : Int)) ∧
   (wo = wo ∧
   (j < n ∧
   (∀ b0 : Nat,
   ((ao = ao ∧
   (j = j ∧
   (cap = cap ∧
   (b0 = b0 ∧
   ((∀ i1 : Nat,
   Bool.true = Bool.true) ∧
   (apC j 1 16)))))) ∧
   (∀ ao'2 : (Option Addr),
   (∀ cap'3 : Nat,
   ((rng (((j : Nat) : Int) + (1 : Int))) ∧
   (NX [(SV.a (SA.c (SC.sl 0 wo n wc))), (SV.a (SA.c (SC.val (g 1)))), (SV.a (SA.c (SC.val (g 2)))), (SV.a (SA.c (SC.val (g 3)))), (SV.a (SA.c (SC.sl 3 ao'2 (j + 1) cap'3))), (SV.a (SA.c (SC.val (g 5)))), (SV.a (SA.c (SC.int (wg j)))), (SV.a (SA.c (SC.val (g 7)))), (SV.a (SA.c (SC.sl 0 wo n wc))), (SV.a (SA.c (SC.int ((n : Nat) : Int)))), (SV.a (SA.c (SC.int (((j : Nat) : Int) + (1 : Int))))), (SV.a (SA.c (SC.lit Bool.true))), (SV.a (SA.c (SC.rptr 0 wo 1 j 0))), (SV.a (SA.c (SC.int (wg j)))), (SV.a (SA.c (SC.sl 1 ao j cap))), (SV.a (SA.c (SC.int (wg j)))), (SV.a (SA.c (SC.int (wg j)))), (SV.a (SA.agg [(SC.int (wg j)), (SC.int (wg j))])), (SV.a (SA.c (SC.slc 2 b0 1 1))), (SV.a (SA.c (SC.sl 3 ao'2 (j + 1) cap'3))), (SV.a (SA.c (SC.int (((j : Nat) : Int) + (1 : Int))))), (SV.a (SA.c (SC.val (g 21)))), (SV.a (SA.c (SC.val (g 22)))), (SV.a (SA.c (SC.val (g 23)))), (SV.a (SA.c (SC.val (g 24))))] [(Ch.row (Row.mk Bool.false wo 0 1 n 0 [(fun (i4 : Nat) => (SC.int (wg i4)))])), Ch.dead, (Ch.cells b0 138 [(SC.int (wg j)), (SC.int (wg j))]), (Ch.row (Row.mk Bool.true ao'2 138 2 (j + 1) cap'3 [(fun (i5 : Nat) => (SC.int (if i5 < j then (wg i5) else (wg j)))), (fun (i6 : Nat) => (SC.int (if i6 < j then (wg i6) else (wg j))))]))])))))))))))) ∧
  ((decide (((j : Nat) : Int) < ((n : Nat) : Int))) = Bool.false →
  (kx (Exit.exit 0) [(SV.a (SA.c (SC.sl 0 wo n wc))), (SV.a (SA.c (SC.val (g 1)))), (SV.a (SA.c (SC.val (g 2)))), (SV.a (SA.c (SC.val (g 3)))), (SV.a (SA.c (SC.sl 1 ao j cap))), (SV.a (SA.c (SC.val (g 5)))), (SV.a (SA.c (SC.val (g 6)))), (SV.a (SA.c (SC.val (g 7)))), (SV.a (SA.c (SC.sl 0 wo n wc))), (SV.a (SA.c (SC.int ((n : Nat) : Int)))), (SV.a (SA.c (SC.int ((j : Nat) : Int)))), (SV.a (SA.c (SC.lit Bool.false))), (SV.a (SA.c (SC.val (g 12)))), (SV.a (SA.c (SC.val (g 13)))), (SV.a (SA.c (SC.val (g 14)))), (SV.a (SA.c (SC.val (g 15)))), (SV.a (SA.c (SC.val (g 16)))), (SV.a (SA.c (SC.val (g 17)))), (SV.a (SA.c (SC.val (g 18)))), (SV.a (SA.c (SC.val (g 19)))), (SV.a (SA.c (SC.val (g 20)))), (SV.a (SA.c (SC.val (g 21)))), (SV.a (SA.c (SC.val (g 22)))), (SV.a (SA.c (SC.val (g 23)))), (SV.a (SA.c (SC.val (g 24))))] [(Ch.row (Row.mk Bool.false wo 0 1 n 0 [(fun (i7 : Nat) => (SC.int (wg i7)))])), (Ch.row (Row.mk Bool.true ao 138 2 j cap [(fun (i8 : Nat) => (SC.int (wg i8))), (fun (i9 : Nat) => (SC.int (wg i9)))]))])))) := by kernel_rfl
theorem shNewI_ok (wo : Option Addr) (n wc : Nat) (wg : Nat → Int) (hn : n ≤ 1048576) (X : Cx) : LoopOK Try.prog X (theLoop Try.f77 0) (sshNewI wo n wc wg) := by
  intro ts ch k a w hS hT hd hs
  obtain ⟨b, ⟨h1, hch⟩, hk⟩ := hS
  refine loop_ok mixed (E := {}) trivial (loopsOK_nil _ _ _) 400 n (fun j ts ch => ∃ g ao cap, ts = shNewIH wo n wc wg ao j cap (.int (j : Int)) g ∧ ch = shNewIT wo n wc wg ao j cap) ?_ ?_ hT hd hs
  · rintro j _ _ ⟨g, ao, cap, rfl, rfl⟩ hj
    refine (shNewIB wo n wc wg ao j cap g _ _).mpr ?_
    have hm5 := min5_ok n
    by_cases hlt : j < n
    · have hjn : (0 : Int) ≤ (j : Int) ∧ (j : Int) < (n : Int) ∧ j < n := ⟨by omega, by omega, by omega⟩
      repeat' (first
        | with_reducible exact rfl
        | exact True.intro
        | with_reducible assumption
        | (refine ⟨hlt, ?_⟩; show Next _ _ _ _; refine Next.mk (fun g => shNewIH wo n wc wg _ (j + 1) _ (.int ((j + 1 : Nat) : Int)) g) _ ⟨_, _, _, rfl, rfl⟩ rfl fun w hw => (hw.sel [0, 3] (by simp)).re 1 _ rfl [fun i => .int (wg i), fun i => .int (wg i)] ?_; refine ⟨fun i hi => ?_, fun i hi => ?_, trivial⟩)
        | refine And.intro ?_ ?_
        | omega
        | (intro h; replace h := of_decide_eq_true h; first | (exfalso; omega) | skip)
        | (intro h; replace h := of_decide_eq_false h; first | (exfalso; omega) | skip)
        | intro _
        | omega
        | (simp; omega))
      all_goals
        rename_i i hi
        have hi : i < j + 1 := hi
        simp only [SC.den]
        by_cases e : i < j
        · simp [e]
        · have e2 : i = j := by omega
          subst e2
          simp
    · have hjn : n = j := by omega
      subst hjn
      repeat' (first
        | with_reducible exact rfl
        | exact True.intro
        | (refine Next.mk (fun g => shNewIH wo n wc wg ao n cap (.int ((n : Nat) : Int)) g) _ (hk _ _ _) rfl fun w hw => hw)
        | refine And.intro ?_ ?_
        | omega
        | (intro h; replace h := of_decide_eq_true h; first | (exfalso; omega) | skip)
        | (intro h; replace h := of_decide_eq_false h; first | (exfalso; omega) | skip)
        | intro _
        | omega)
  · refine Next.mk (fun g => shNewIH wo n wc wg (some ⟨b, 0, none⟩) 0 0 (.int ((0 : Nat) : Int)) g) _ ⟨_, _, _, rfl, rfl⟩ h1 fun w hw => ?_
    have h2 := hw.sel [0, 1] (by simp)
    rw [hch] at h2
    exact h2.reL ⟨⟨rfl, rfl, rfl, rfl, rfl, rfl, ⟨fun _ _ => rfl, trivial⟩⟩, ⟨rfl, rfl, rfl, rfl, ⟨rfl, rfl, rfl⟩⟩, trivial⟩
def shNewSH (wo : Option Addr) (n wc : Nat) (wg : Nat → Int) (ao : Option Addr) (j cap : Nat) (i : SC) (g : Nat → Value) : List SV := [.a (.c (.sl 0 wo n wc)), .a (.c (.val (g 1))), .a (.c (.val (g 2))), .a (.c (.val (g 3))), .a (.c (.sl 1 ao j cap)), .a (.c i), .a (.c (.val (g 6))), .a (.c (.val (g 7))), .a (.c (.val (g 8))), .a (.c (.val (g 9))), .a (.c (.val (g 10))), .a (.c (.val (g 11))), .a (.c (.val (g 12))), .a (.c (.val (g 13))), .a (.c (.val (g 14))), .a (.c (.val (g 15))), .a (.c (.val (g 16))), .a (.c (.val (g 17))), .a (.c (.val (g 18))), .a (.c (.val (g 19))), .a (.c (.val (g 20))), .a (.c (.val (g 21))), .a (.c (.val (g 22))), .a (.c (.val (g 23))), .a (.c (.val (g 24))), .a (.c (.val (g 25))), .a (.c (.val (g 26))), .a (.c (.val (g 27))), .a (.c (.val (g 28))), .a (.c (.val (g 29))), .a (.c (.val (g 30))), .a (.c (.val (g 31))), .a (.c (.val (g 32))), .a (.c (.val (g 33)))]
def shNewST (wo : Option Addr) (n wc : Nat) (wg : Nat → Int) (ao : Option Addr) (j cap : Nat) : List Ch := [.row ⟨false, wo, 0, 1, n, 0, [fun i => .int (wg i)]⟩, .row ⟨true, ao, 138, 2, j, cap, [fun i => .int (wg i), fun i => .int (wg i)]⟩]
def sshNewS (wo : Option Addr) (n wc : Nat) (wg : Nat → Int) : LSm := fun ts ch k =>
  ∃ b, (ts.map SV.den = (shNewSH wo n wc wg (some ⟨b, 0, none⟩) 0 0 (.il 0) (fun d => (ts.getD d .undef).den)).map SV.den ∧ selC ch [0, 1] = [.row ⟨false, wo, 0, 1, n, 0, [fun i => .int (wg i)]⟩, .cells b 138 []]) ∧
    ∀ g ao cap, k (.exit 0) (shNewSH wo n wc wg ao (min5 n) cap (.int (((min5 n) : Nat) : Int)) g) (shNewST wo n wc wg ao (min5 n) cap)
theorem shNewSB (wo : Option Addr) (n wc : Nat) (wg : Nat → Int) (ao : Option Addr) (j cap : Nat) (g : Nat → Value) (NX : List SV → List Ch → Prop) (kx : Exit → List SV → List Ch → Prop) : (exCode Try.prog {D := fun _ => [1]} 400 (theLoop Try.f72 0) (shNewSH wo n wc wg ao j cap (.int (j : Int)) g) (shNewST wo n wc wg ao j cap) (loopK NX kx)) = (
  (((decide (((j : Nat) : Int) < ((n : Nat) : Int))) = Bool.true →
  (((decide (((j : Nat) : Int) ≤ (4 : Int))) = Bool.true →
   (wo = wo ∧
    (n = n ∧
    ((0 ≤ ((j : Nat) : Int) ∧ ((j : Nat) : Int) < ((n : Nat) : Int)) ∧
    (wo = wo ∧
    (j < n ∧
    (wo = wo ∧
    (n = n ∧
    ((0 ≤ ((j : Nat) : Int) ∧ ((j : Nat) : Int) < ((n : Nat) : Int)) ∧
    (wo = wo ∧
    (j < n ∧
    (∀ b0 : Nat,
    (True ∧
    ((ao = ao ∧
    (j = j ∧
    (cap = cap ∧
    (b0 = b0 ∧
    ((∀ i1 : Nat,
    Bool.true = Bool.true) ∧
    (apC j 1 16)))))) ∧
    (∀ ao'2 : (Option Addr),
    (∀ cap'3 : Nat,
    (True ∧
    ((rng (((j : Nat) : Int) + (1 : Int))) ∧
    (NX [(SV.a (SA.c (SC.sl 0 wo n wc))), (SV.a (SA.c (SC.val (g 1)))), (SV.a (SA.c (SC.val (g 2)))), (SV.a (SA.c (SC.val (g 3)))), (SV.a (SA.c (SC.sl 3 ao'2 (j + 1) cap'3))), (SV.a (SA.c (SC.int (((j : Nat) : Int) + (1 : Int))))), (SV.a (SA.c (SC.val (g 6)))), (SV.a (SA.c (SC.int ((j : Nat) : Int)))), (SV.a (SA.c (SC.sl 0 wo n wc))), (SV.a (SA.c (SC.int ((n : Nat) : Int)))), (SV.a (SA.c (SC.bool (decide (((j : Nat) : Int) < ((n : Nat) : Int)))))), (SV.a (SA.c (SC.lit Bool.true))), (SV.a (SA.c (SC.int ((j : Nat) : Int)))), (SV.a (SA.c (SC.bool (decide (((j : Nat) : Int) ≤ (4 : Int)))))), (SV.a (SA.c (SC.lit Bool.true))), (SV.a (SA.c (SC.int ((j : Nat) : Int)))), (SV.a (SA.c (SC.int (((j : Nat) : Int) + (1 : Int))))), (SV.a (SA.c (SC.sl 1 ao j cap))), (SV.a (SA.c (SC.sl 0 wo n wc))), (SV.a (SA.c (SC.int ((j : Nat) : Int)))), (SV.a (SA.c (SC.rptr 0 wo 1 j 0))), (SV.a (SA.c (SC.int (wg j)))), (SV.a (SA.c (SC.sl 0 wo n wc))), (SV.a (SA.c (SC.int ((j : Nat) : Int)))), (SV.a (SA.c (SC.rptr 0 wo 1 j 0))), (SV.a (SA.c (SC.int (wg j)))), (SV.a (SA.agg [(SC.int (wg j)), (SC.int (wg j))])), (SV.a (SA.c (SC.slc 2 b0 1 1))), (SV.a (SA.c (SC.sl 3 ao'2 (j + 1) cap'3))), (SV.a (SA.c (SC.val (g 29)))), (SV.a (SA.c (SC.val (g 30)))), (SV.a (SA.c (SC.val (g 31)))), (SV.a (SA.c (SC.val (g 32)))), (SV.a (SA.c (SC.val (g 33))))] [(Ch.row (Row.mk Bool.false wo 0 1 n 0 [(fun (i4 : Nat) => (SC.int (wg i4)))])), Ch.dead, (Ch.cells b0 138 [(SC.int (wg j)), (SC.int (wg j))]), (Ch.row (Row.mk Bool.true ao'2 138 2 (j + 1) cap'3 [(fun (i5 : Nat) => (SC.int (if i5 < j then (wg i5) else (wg j)))), (fun (i6 : Nat) => (SC.int (if i6 < j then (wg i6) else (wg j))))]))]))))))))))))))))))) ∧
   ((decide (((j : Nat) : Int) ≤ (4 : Int))) = Bool.false →
   (kx (Exit.exit 0) [(SV.a (SA.c (SC.sl 0 wo n wc))), (SV.a (SA.c (SC.val (g 1)))), (SV.a (SA.c (SC.val (g 2)))), (SV.a (SA.c (SC.val (g 3)))), (SV.a (SA.c (SC.sl 1 ao j cap))), (SV.a (SA.c (SC.int ((j : Nat) : Int)))), (SV.a (SA.c (SC.val (g 6)))), (SV.a (SA.c (SC.int ((j : Nat) : Int)))), (SV.a (SA.c (SC.sl 0 wo n wc))), (SV.a (SA.c (SC.int ((n : Nat) : Int)))), (SV.a (SA.c (SC.bool (decide (((j : Nat) : Int) < ((n : Nat) : Int)))))), (SV.a (SA.c (SC.lit Bool.true))), (SV.a (SA.c (SC.int ((j : Nat) : Int)))), (SV.a (SA.c (SC.bool (decide (((j : Nat) : Int) ≤ (4 : Int)))))), (SV.a (SA.c (SC.lit Bool.false))), (SV.a (SA.c (SC.val (g 15)))), (SV.a (SA.c (SC.val (g 16)))), (SV.a (SA.c (SC.val (g 17)))), (SV.a (SA.c (SC.val (g 18)))), (SV.a (SA.c (SC.val (g 19)))), (SV.a (SA.c (SC.val (g 20)))), (SV.a (SA.c (SC.val (g 21)))), (SV.a (SA.c (SC.val (g 22)))), (SV.a (SA.c (SC.val (g 23)))), (SV.a (SA.c (SC.val (g 24)))), (SV.a (SA.c (SC.val (g 25)))), (SV.a (SA.c (SC.val (g 26)))), (SV.a (SA.c (SC.val (g 27)))), (SV.a (SA.c (SC.val (g 28)))), (SV.a (SA.c (SC.val (g 29)))), (SV.a (SA.c (SC.val (g 30)))), (SV.a (SA.c (SC.val (g 31)))), (SV.a (SA.c (SC.val (g 32)))), (SV.a (SA.c (SC.val (g 33))))] [(Ch.row (Row.mk Bool.false wo 0 1 n 0 [(fun (i7 : Nat) => (SC.int (wg i7)))])), (Ch.row (Row.mk Bool.true ao 138 2 j cap [(fun (i8 : Nat) => (SC.int (wg i8))), (fun (i9 : Nat) => (SC.int (wg i9)))]))])))) ∧
  ((decide (((j : Nat) : Int) < ((n : Nat) : Int))) = Bool.false →
  (kx (Exit.exit 0) [(SV.a (SA.c (SC.sl 0 wo n wc))), (SV.a (SA.c (SC.val (g 1)))), (SV.a (SA.c (SC.val (g 2)))), (SV.a (SA.c (SC.val (g 3)))), (SV.a (SA.c (SC.sl 1 ao j cap))), (SV.a (SA.c (SC.int ((j : Nat) : Int)))), (SV.a (SA.c (SC.val (g 6)))), (SV.a (SA.c (SC.int ((j : Nat) : Int)))), (SV.a (SA.c (SC.sl 0 wo n wc))), (SV.a (SA.c (SC.int ((n : Nat) : Int)))), (SV.a (SA.c (SC.bool (decide (((j : Nat) : Int) < ((n : Nat) : Int)))))), (SV.a (SA.c (SC.lit Bool.false))), SV.undef, SV.undef, (SV.a (SA.c (SC.lit Bool.false))), (SV.a (SA.c (SC.val (g 15)))), (SV.a (SA.c (SC.val (g 16)))), (SV.a (SA.c (SC.val (g 17)))), (SV.a (SA.c (SC.val (g 18)))), (SV.a (SA.c (SC.val (g 19)))), (SV.a (SA.c (SC.val (g 20)))), (SV.a (SA.c (SC.val (g 21)))), (SV.a (SA.c (SC.val (g 22)))), (SV.a (SA.c (SC.val (g 23)))), (SV.a (SA.c (SC.val (g 24)))), (SV.a (SA.c (SC.val (g 25)))), (SV.a (SA.c (SC.val (g 26)))), (SV.a (SA.c (SC.val (g 27)))), (SV.a (SA.c (SC.val (g 28)))), (SV.a (SA.c (SC.val (g 29)))), (SV.a (SA.c (SC.val (g 30)))), (SV.a (SA.c (SC.val (g 31)))), (SV.a (SA.c (SC.val (g 32)))), (SV.a (SA.c (SC.val (g 33))))] [(Ch.row (Row.mk Bool.false wo 0 1 n 0 [(fun (i10 : Nat) => (SC.int (wg i10)))])), (Ch.row (Row.mk Bool.true ao 138 2 j cap [(fun (i11 : Nat) => (SC.int (wg i11))), (fun (i12 : Nat) => (SC.int (wg i12)))]))])))) := by kernel_rfl
theorem shNewS_ok (wo : Option Addr) (n wc : Nat) (wg : Nat → Int) (hn : n ≤ 1048576) (X : Cx) : LoopOK Try.prog X (theLoop Try.f72 0) (sshNewS wo n wc wg) := by
  intro ts ch k a w hS hT hd hs
  obtain ⟨b, ⟨h1, hch⟩, hk⟩ := hS
  refine loop_ok mixed (E := {D := fun _ => [1]}) trivial (loopsOK_nil _ _ _) 400 (min5 n) (fun j ts ch => ∃ g ao cap, ts = shNewSH wo n wc wg ao j cap (.int (j : Int)) g ∧ ch = shNewST wo n wc wg ao j cap) ?_ ?_ hT hd hs
  · rintro j _ _ ⟨g, ao, cap, rfl, rfl⟩ hj
    refine (shNewSB wo n wc wg ao j cap g _ _).mpr ?_
    have hm5 := min5_ok n
    by_cases hlt : j < (min5 n)
    · have hjn : (0 : Int) ≤ (j : Int) ∧ (j : Int) < (n : Int) ∧ j < n := ⟨by omega, by omega, by omega⟩
      repeat' (first
        | with_reducible exact rfl
        | exact True.intro
        | with_reducible assumption
        | (refine ⟨hlt, ?_⟩; show Next _ _ _ _; refine Next.mk (fun g => shNewSH wo n wc wg _ (j + 1) _ (.int ((j + 1 : Nat) : Int)) g) _ ⟨_, _, _, rfl, rfl⟩ rfl fun w hw => (hw.sel [0, 3] (by simp)).re 1 _ rfl [fun i => .int (wg i), fun i => .int (wg i)] ?_; refine ⟨fun i hi => ?_, fun i hi => ?_, trivial⟩)
        | refine And.intro ?_ ?_
        | omega
        | (intro h; replace h := of_decide_eq_true h; first | (exfalso; omega) | skip)
        | (intro h; replace h := of_decide_eq_false h; first | (exfalso; omega) | skip)
        | intro _
        | omega
        | (simp; omega))
      all_goals
        rename_i i hi
        have hi : i < j + 1 := hi
        simp only [SC.den]
        by_cases e : i < j
        · simp [e]
        · have e2 : i = j := by omega
          subst e2
          simp
    · have hjn : j = (min5 n) := by omega
      subst hjn
      repeat' (first
        | with_reducible exact rfl
        | exact True.intro
        | (refine Next.mk (fun g => shNewSH wo n wc wg ao (min5 n) cap (.int (((min5 n) : Nat) : Int)) g) _ (hk _ _ _) rfl fun w hw => hw)
        | refine And.intro ?_ ?_
        | omega
        | (intro h; replace h := of_decide_eq_true h; first | (exfalso; omega) | skip)
        | (intro h; replace h := of_decide_eq_false h; first | (exfalso; omega) | skip)
        | intro _
        | omega)
  · refine Next.mk (fun g => shNewSH wo n wc wg (some ⟨b, 0, none⟩) 0 0 (.int ((0 : Nat) : Int)) g) _ ⟨_, _, _, rfl, rfl⟩ h1 fun w hw => ?_
    have h2 := hw.sel [0, 1] (by simp)
    rw [hch] at h2
    exact h2.reL ⟨⟨rfl, rfl, rfl, rfl, rfl, rfl, ⟨fun _ _ => rfl, trivial⟩⟩, ⟨rfl, rfl, rfl, rfl, ⟨rfl, rfl, rfl⟩⟩, trivial⟩
end Go.Proofs.Ytlkklplnomecgaa

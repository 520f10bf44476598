/-
  Shares checked.
-/
import Derived.Test.YtlkklplnomecgaaSxBtw
namespace Go.Proofs.Ytlkklplnomecgaa
set_option linter.unusedVariables false
set_option linter.unusedSimpArgs false
open Go.RowKit
set_option maxRecDepth 100000
set_option maxHeartbeats 8000000

theorem dT {p q : Prop} [Decidable p] (h : p → q) : decide p = true → q := fun e => h (of_decide_eq_true e)
theorem dF {p q : Prop} [Decidable p] (h : ¬ p → q) : decide p = false → q := fun e => h (of_decide_eq_false e)
def allB (n : Nat) (p : Nat → Bool) : Bool := (List.range n).all p
theorem allB_zero (p : Nat → Bool) : allB 0 p = true := rfl
theorem allB_succ {n : Nat} {p : Nat → Bool} (h : allB n p = true) (hp : p n = true) : allB (n + 1) p = true := by
  simp only [allB, List.all_eq_true, List.mem_range] at h ⊢
  intro i hi
  by_cases e : i = n
  · rw [e]; exact hp
  · exact h i (by omega)
theorem allB_no {n j : Nat} {p : Nat → Bool} (hj : j < n) (hp : p j = false) : allB n p = false := by
  cases h : allB n p
  · rfl
  · simp only [allB, List.all_eq_true, List.mem_range] at h
    rw [h j hj] at hp
    cases hp
theorem allB_get {n : Nat} {p : Nat → Bool} (h : allB n p = true) {j : Nat} (hj : j < n) : p j = true := by
  simp only [allB, List.all_eq_true, List.mem_range] at h
  exact h j hj
def shOkIH (ao : Option Addr) (n c : Nat) (g0 g1 : Nat → Int) (i : SC) (g : Nat → Value) : List SV := [.a (.c (.sl 0 ao n c)), .a (.c (.val (g 1))), .a (.c (.val (g 2))), .a (.c (.val (g 3))), .a (.c (.val (g 4))), .a (.c (.sl 0 ao n c)), .a (.c (.int (n : Int))), .a (.c i), .a (.c (.val (g 8))), .a (.c (.val (g 9))), .a (.c (.val (g 10))), .a (.c (.val (g 11))), .a (.c (.val (g 12))), .a (.c (.val (g 13))), .a (.c (.val (g 14))), .a (.c (.val (g 15))), .a (.c (.val (g 16))), .a (.c (.val (g 17))), .a (.c (.val (g 18))), .a (.c (.val (g 19))), .a (.c (.val (g 20))), .a (.c (.val (g 21))), .a (.c (.val (g 22))), .a (.c (.val (g 23))), .a (.c (.val (g 24))), .a (.c (.val (g 25))), .a (.c (.val (g 26)))]
def shOkIR (ao : Option Addr) (n c : Nat) (g0 g1 : Nat → Int) (g : Nat → Value) : List SV := [.a (.c (.val (g 0))), .a (.c (.val (g 1))), .a (.c (.lit false)), .a (.c (.val (g 3))), .a (.c (.val (g 4))), .a (.c (.val (g 5))), .a (.c (.val (g 6))), .a (.c (.val (g 7))), .a (.c (.val (g 8))), .a (.c (.val (g 9))), .a (.c (.val (g 10))), .a (.c (.val (g 11))), .a (.c (.val (g 12))), .a (.c (.val (g 13))), .a (.c (.val (g 14))), .a (.c (.val (g 15))), .a (.c (.val (g 16))), .a (.c (.val (g 17))), .a (.c (.val (g 18))), .a (.c (.val (g 19))), .a (.c (.val (g 20))), .a (.c (.val (g 21))), .a (.c (.val (g 22))), .a (.c (.val (g 23))), .a (.c (.val (g 24))), .a (.c (.val (g 25))), .a (.c (.val (g 26)))]
def shOkIT (ao : Option Addr) (n c : Nat) (g0 g1 : Nat → Int) : List Ch := [.row ⟨false, ao, 0, 2, n, 0, [fun i => .int (g0 i), fun i => .int (g1 i)]⟩]
def shOkIP (ao : Option Addr) (n c : Nat) (g0 g1 : Nat → Int) (j : Nat) : Bool := btw (g0 j) 1 9 && btw (g1 j) 0 (g0 j)
def sshOkI (ao : Option Addr) (n c : Nat) (g0 g1 : Nat → Int) : LSm := fun ts ch k =>
  (ts.map SV.den = (shOkIH ao n c g0 g1 (.il 0) (fun d => (ts.getD d .undef).den)).map SV.den ∧ selC ch [0] = shOkIT ao n c g0 g1) ∧
    (∀ g, allB n (shOkIP ao n c g0 g1) = true → k (.exit 0) (shOkIH ao n c g0 g1 (.int (n : Int)) g) (shOkIT ao n c g0 g1)) ∧ (∀ g, allB n (shOkIP ao n c g0 g1) = false → k .ret (shOkIR ao n c g0 g1 g) (shOkIT ao n c g0 g1))
theorem shOkIB (ao : Option Addr) (n c : Nat) (g0 g1 : Nat → Int) (j : Nat) (g : Nat → Value) (NX : List SV → List Ch → Prop) (kx : Exit → List SV → List Ch → Prop) : (exCode Try.prog {tb := [(60, sBtw)]} 400 (theLoop Try.f98 0) (shOkIH ao n c g0 g1 (.int (j : Int)) g) (shOkIT ao n c g0 g1) (loopK NX kx)) = (
  (((decide (((j : Nat) : Int) < ((n : Nat) : Int))) = Bool.true →
  (ao = ao ∧
   (n = n ∧
   ((0 ≤ ((j : Nat) : Int) ∧ ((j : Nat) : Int) < ((n : Nat) : Int)) ∧
   (ao = ao ∧
   (j < n ∧
   (∀ b0 : Nat,
   (b0 = b0 ∧
   (b0 = b0 ∧
   (((!(btw (g0 j) (1 : Int) (9 : Int))) = Bool.false →
   (b0 = b0 ∧
    (b0 = b0 ∧
    (((!(btw (g1 j) (0 : Int) (g0 j))) = Bool.true →
    (kx Exit.ret [(SV.a (SA.c (SC.sl 0 ao n c))), (SV.a (SA.c (SC.val (g 1)))), (SV.a (SA.c (SC.lit Bool.false))), (SV.a (SA.c (SC.val (g 3)))), (SV.a (SA.c (SC.ptr 1 b0 0))), (SV.a (SA.c (SC.sl 0 ao n c))), (SV.a (SA.c (SC.int ((n : Nat) : Int)))), (SV.a (SA.c (SC.int ((j : Nat) : Int)))), (SV.a (SA.c (SC.lit Bool.true))), (SV.a (SA.c (SC.rptr 0 ao 2 j 0))), (SV.a (SA.agg [(SC.int (g0 j)), (SC.int (g1 j))])), (SV.a (SA.c (SC.ptr 1 b0 0))), (SV.a (SA.c (SC.int (g0 j)))), (SV.a (SA.c (SC.bool (btw (g0 j) (1 : Int) (9 : Int))))), (SV.a (SA.c (SC.bool (!(btw (g0 j) (1 : Int) (9 : Int)))))), (SV.a (SA.c (SC.lit Bool.false))), (SV.a (SA.c (SC.ptr 1 b0 1))), (SV.a (SA.c (SC.int (g1 j)))), (SV.a (SA.c (SC.ptr 1 b0 0))), (SV.a (SA.c (SC.int (g0 j)))), (SV.a (SA.c (SC.bool (btw (g1 j) (0 : Int) (g0 j))))), (SV.a (SA.c (SC.bool (!(btw (g1 j) (0 : Int) (g0 j)))))), (SV.a (SA.c (SC.lit Bool.true))), (SV.a (SA.c (SC.val (g 23)))), (SV.a (SA.c (SC.val (g 24)))), (SV.a (SA.c (SC.val (g 25)))), (SV.a (SA.c (SC.val (g 26))))] [(Ch.row (Row.mk Bool.false ao 0 2 n 0 [(fun (i1 : Nat) => (SC.int (g0 i1))), (fun (i2 : Nat) => (SC.int (g1 i2)))])), (Ch.cells b0 138 [(SC.int (g0 j)), (SC.int (g1 j))])])) ∧
    ((!(btw (g1 j) (0 : Int) (g0 j))) = Bool.false →
    ((rng (((j : Nat) : Int) + (1 : Int))) ∧
     (NX [(SV.a (SA.c (SC.sl 0 ao n c))), (SV.a (SA.c (SC.val (g 1)))), (SV.a (SA.c (SC.val (g 2)))), (SV.a (SA.c (SC.val (g 3)))), (SV.a (SA.c (SC.ptr 1 b0 0))), (SV.a (SA.c (SC.sl 0 ao n c))), (SV.a (SA.c (SC.int ((n : Nat) : Int)))), (SV.a (SA.c (SC.int (((j : Nat) : Int) + (1 : Int))))), (SV.a (SA.c (SC.lit Bool.true))), (SV.a (SA.c (SC.rptr 0 ao 2 j 0))), (SV.a (SA.agg [(SC.int (g0 j)), (SC.int (g1 j))])), (SV.a (SA.c (SC.ptr 1 b0 0))), (SV.a (SA.c (SC.int (g0 j)))), (SV.a (SA.c (SC.bool (btw (g0 j) (1 : Int) (9 : Int))))), (SV.a (SA.c (SC.bool (!(btw (g0 j) (1 : Int) (9 : Int)))))), (SV.a (SA.c (SC.lit Bool.false))), (SV.a (SA.c (SC.ptr 1 b0 1))), (SV.a (SA.c (SC.int (g1 j)))), (SV.a (SA.c (SC.ptr 1 b0 0))), (SV.a (SA.c (SC.int (g0 j)))), (SV.a (SA.c (SC.bool (btw (g1 j) (0 : Int) (g0 j))))), (SV.a (SA.c (SC.bool (!(btw (g1 j) (0 : Int) (g0 j)))))), (SV.a (SA.c (SC.lit Bool.false))), (SV.a (SA.c (SC.int (((j : Nat) : Int) + (1 : Int))))), (SV.a (SA.c (SC.val (g 24)))), (SV.a (SA.c (SC.val (g 25)))), (SV.a (SA.c (SC.val (g 26))))] [(Ch.row (Row.mk Bool.false ao 0 2 n 0 [(fun (i3 : Nat) => (SC.int (g0 i3))), (fun (i4 : Nat) => (SC.int (g1 i4)))])), (Ch.cells b0 138 [(SC.int (g0 j)), (SC.int (g1 j))])]))))))) ∧
   ((!(btw (g0 j) (1 : Int) (9 : Int))) = Bool.true →
   (kx Exit.ret [(SV.a (SA.c (SC.sl 0 ao n c))), (SV.a (SA.c (SC.val (g 1)))), (SV.a (SA.c (SC.lit Bool.false))), (SV.a (SA.c (SC.val (g 3)))), (SV.a (SA.c (SC.ptr 1 b0 0))), (SV.a (SA.c (SC.sl 0 ao n c))), (SV.a (SA.c (SC.int ((n : Nat) : Int)))), (SV.a (SA.c (SC.int ((j : Nat) : Int)))), (SV.a (SA.c (SC.lit Bool.true))), (SV.a (SA.c (SC.rptr 0 ao 2 j 0))), (SV.a (SA.agg [(SC.int (g0 j)), (SC.int (g1 j))])), (SV.a (SA.c (SC.ptr 1 b0 0))), (SV.a (SA.c (SC.int (g0 j)))), (SV.a (SA.c (SC.bool (btw (g0 j) (1 : Int) (9 : Int))))), (SV.a (SA.c (SC.bool (!(btw (g0 j) (1 : Int) (9 : Int)))))), (SV.a (SA.c (SC.lit Bool.true))), SV.undef, SV.undef, SV.undef, SV.undef, SV.undef, SV.undef, (SV.a (SA.c (SC.lit Bool.true))), (SV.a (SA.c (SC.val (g 23)))), (SV.a (SA.c (SC.val (g 24)))), (SV.a (SA.c (SC.val (g 25)))), (SV.a (SA.c (SC.val (g 26))))] [(Ch.row (Row.mk Bool.false ao 0 2 n 0 [(fun (i5 : Nat) => (SC.int (g0 i5))), (fun (i6 : Nat) => (SC.int (g1 i6)))])), (Ch.cells b0 138 [(SC.int (g0 j)), (SC.int (g1 j))])])))))))))))) ∧
  ((decide (((j : Nat) : Int) < ((n : Nat) : Int))) = Bool.false →
  (kx (Exit.exit 0) [(SV.a (SA.c (SC.sl 0 ao n c))), (SV.a (SA.c (SC.val (g 1)))), (SV.a (SA.c (SC.val (g 2)))), (SV.a (SA.c (SC.val (g 3)))), (SV.a (SA.c (SC.val (g 4)))), (SV.a (SA.c (SC.sl 0 ao n c))), (SV.a (SA.c (SC.int ((n : Nat) : Int)))), (SV.a (SA.c (SC.int ((j : Nat) : Int)))), (SV.a (SA.c (SC.lit Bool.false))), (SV.a (SA.c (SC.val (g 9)))), (SV.a (SA.c (SC.val (g 10)))), (SV.a (SA.c (SC.val (g 11)))), (SV.a (SA.c (SC.val (g 12)))), (SV.a (SA.c (SC.val (g 13)))), (SV.a (SA.c (SC.val (g 14)))), (SV.a (SA.c (SC.val (g 15)))), (SV.a (SA.c (SC.val (g 16)))), (SV.a (SA.c (SC.val (g 17)))), (SV.a (SA.c (SC.val (g 18)))), (SV.a (SA.c (SC.val (g 19)))), (SV.a (SA.c (SC.val (g 20)))), (SV.a (SA.c (SC.val (g 21)))), (SV.a (SA.c (SC.val (g 22)))), (SV.a (SA.c (SC.val (g 23)))), (SV.a (SA.c (SC.val (g 24)))), (SV.a (SA.c (SC.val (g 25)))), (SV.a (SA.c (SC.val (g 26))))] [(Ch.row (Row.mk Bool.false ao 0 2 n 0 [(fun (i7 : Nat) => (SC.int (g0 i7))), (fun (i8 : Nat) => (SC.int (g1 i8)))]))])))) := by kernel_rfl
theorem shOkI_ok (ao : Option Addr) (n c : Nat) (g0 g1 : Nat → Int) (hn : n ≤ 9223372036854775807) (X : Cx) : LoopOK Try.prog X (theLoop Try.f98 0) (sshOkI ao n c g0 g1) := by
  intro ts ch k a w hS hT hd hs
  obtain ⟨⟨h1, hch⟩, hk, hr⟩ := hS
  refine loop_ok mixed (E := {tb := [(60, sBtw)]}) ⟨sBtwI_ok, trivial⟩ (loopsOK_nil _ _ _) 400 n (fun j ts ch => ∃ g, allB j (shOkIP ao n c g0 g1) = true ∧ ts = shOkIH ao n c g0 g1 (.int (j : Int)) g ∧ ch = shOkIT ao n c g0 g1) ?_ ?_ hT hd hs
  · rintro j _ _ ⟨g, hall, rfl, rfl⟩ hj
    refine (shOkIB ao n c g0 g1 j g _ _).mpr ?_
    by_cases hlt : j < n
    · have hjn : (0 : Int) ≤ (j : Int) ∧ (j : Int) < (n : Int) := ⟨by omega, by omega⟩
      cases hp : shOkIP ao n c g0 g1 j
      all_goals simp only [shOkIP] at hp
      all_goals
        repeat' (first
          | with_reducible exact rfl
          | exact True.intro
          | with_reducible assumption
          | (refine ⟨hlt, ?_⟩; show Next _ _ _ _; refine Next.mk (fun g => shOkIH ao n c g0 g1 (.int ((j + 1 : Nat) : Int)) g) _ ⟨_, allB_succ hall (by simp only [shOkIP]; exact hp), rfl, rfl⟩ rfl fun w hw => hw.sel [0] (by simp))
          | (refine Next.mk (fun g => shOkIR ao n c g0 g1 g) _ (hr _ (allB_no hlt (by simp only [shOkIP]; exact hp))) rfl fun w hw => hw.sel [0] (by simp))
          | refine And.intro ?_ ?_
          | (intro h; exfalso; simp at h; omega)
          | (intro h; exfalso; simp [h] at hp; done)
          | intro _
          | omega)
        all_goals (exfalso; simp_all; done)
    · have hjn : n = j := by omega
      subst hjn
      repeat' (first
        | (refine Next.mk (fun g => shOkIH ao n c g0 g1 (.int (n : Int)) g) _ (hk _ hall) rfl fun w hw => hw.sel [0] (by simp))
        | refine And.intro ?_ ?_
        | (intro h; exfalso; simp at h; done)
        | (intro h; exfalso; simp at h; omega)
        | intro _)
  · refine Next.mk (fun g => shOkIH ao n c g0 g1 (.int ((0 : Nat) : Int)) g) _ ⟨_, allB_zero _, rfl, rfl⟩ h1 fun w hw => ?_
    rw [← hch]
    exact hw.sel [0] (by simp)
def shOkSH (ao : Option Addr) (n c : Nat) (g0 g1 : Nat → Int) (i : SC) (g : Nat → Value) : List SV := [.a (.c (.sl 0 ao n c)), .a (.c (.val (g 1))), .a (.c (.val (g 2))), .a (.c i), .a (.c (.val (g 4))), .a (.c (.val (g 5))), .a (.c (.val (g 6))), .a (.c (.val (g 7))), .a (.c (.val (g 8))), .a (.c (.val (g 9))), .a (.c (.val (g 10))), .a (.c (.val (g 11))), .a (.c (.val (g 12))), .a (.c (.val (g 13))), .a (.c (.val (g 14))), .a (.c (.val (g 15))), .a (.c (.val (g 16))), .a (.c (.val (g 17))), .a (.c (.val (g 18))), .a (.c (.val (g 19))), .a (.c (.val (g 20))), .a (.c (.val (g 21))), .a (.c (.val (g 22))), .a (.c (.val (g 23))), .a (.c (.val (g 24))), .a (.c (.val (g 25))), .a (.c (.val (g 26))), .a (.c (.val (g 27))), .a (.c (.val (g 28))), .a (.c (.val (g 29))), .a (.c (.val (g 30))), .a (.c (.val (g 31))), .a (.c (.val (g 32))), .a (.c (.val (g 33)))]
def shOkSR (ao : Option Addr) (n c : Nat) (g0 g1 : Nat → Int) (g : Nat → Value) : List SV := [.a (.c (.val (g 0))), .a (.c (.val (g 1))), .a (.c (.lit false)), .a (.c (.val (g 3))), .a (.c (.val (g 4))), .a (.c (.val (g 5))), .a (.c (.val (g 6))), .a (.c (.val (g 7))), .a (.c (.val (g 8))), .a (.c (.val (g 9))), .a (.c (.val (g 10))), .a (.c (.val (g 11))), .a (.c (.val (g 12))), .a (.c (.val (g 13))), .a (.c (.val (g 14))), .a (.c (.val (g 15))), .a (.c (.val (g 16))), .a (.c (.val (g 17))), .a (.c (.val (g 18))), .a (.c (.val (g 19))), .a (.c (.val (g 20))), .a (.c (.val (g 21))), .a (.c (.val (g 22))), .a (.c (.val (g 23))), .a (.c (.val (g 24))), .a (.c (.val (g 25))), .a (.c (.val (g 26))), .a (.c (.val (g 27))), .a (.c (.val (g 28))), .a (.c (.val (g 29))), .a (.c (.val (g 30))), .a (.c (.val (g 31))), .a (.c (.val (g 32))), .a (.c (.val (g 33)))]
def shOkST (ao : Option Addr) (n c : Nat) (g0 g1 : Nat → Int) : List Ch := [.row ⟨false, ao, 0, 2, n, 0, [fun i => .int (g0 i), fun i => .int (g1 i)]⟩]
def shOkSP (ao : Option Addr) (n c : Nat) (g0 g1 : Nat → Int) (j : Nat) : Bool := btw (g0 j) 1 9 && btw (g1 j) 0 (g0 j)
def sshOkS (ao : Option Addr) (n c : Nat) (g0 g1 : Nat → Int) : LSm := fun ts ch k =>
  (ts.map SV.den = (shOkSH ao n c g0 g1 (.il 0) (fun d => (ts.getD d .undef).den)).map SV.den ∧ selC ch [0] = shOkST ao n c g0 g1) ∧
    (∀ g, allB n (shOkSP ao n c g0 g1) = true → k (.exit 0) (shOkSH ao n c g0 g1 (.int (n : Int)) g) (shOkST ao n c g0 g1)) ∧ (∀ g, allB n (shOkSP ao n c g0 g1) = false → k .ret (shOkSR ao n c g0 g1 g) (shOkST ao n c g0 g1))
theorem shOkSB (ao : Option Addr) (n c : Nat) (g0 g1 : Nat → Int) (j : Nat) (g : Nat → Value) (NX : List SV → List Ch → Prop) (kx : Exit → List SV → List Ch → Prop) : (exCode Try.prog {tb := [(59, sBtw)]} 400 (theLoop Try.f97 0) (shOkSH ao n c g0 g1 (.int (j : Int)) g) (shOkST ao n c g0 g1) (loopK NX kx)) = (
  (((decide (((j : Nat) : Int) < ((n : Nat) : Int))) = Bool.true →
  (ao = ao ∧
   (n = n ∧
   ((0 ≤ ((j : Nat) : Int) ∧ ((j : Nat) : Int) < ((n : Nat) : Int)) ∧
   (ao = ao ∧
   (j < n ∧
   (ao = ao ∧
   (j < n ∧
   (True ∧
   (((!(btw (g0 j) (1 : Int) (9 : Int))) = Bool.false →
   (ao = ao ∧
    (n = n ∧
    ((0 ≤ ((j : Nat) : Int) ∧ ((j : Nat) : Int) < ((n : Nat) : Int)) ∧
    (ao = ao ∧
    (j < n ∧
    (ao = ao ∧
    (j < n ∧
    (ao = ao ∧
    (n = n ∧
    ((0 ≤ ((j : Nat) : Int) ∧ ((j : Nat) : Int) < ((n : Nat) : Int)) ∧
    (ao = ao ∧
    (j < n ∧
    (ao = ao ∧
    (j < n ∧
    (True ∧
    (((!(btw (g1 j) (0 : Int) (g0 j))) = Bool.true →
    (kx Exit.ret [(SV.a (SA.c (SC.sl 0 ao n c))), (SV.a (SA.c (SC.val (g 1)))), (SV.a (SA.c (SC.lit Bool.false))), (SV.a (SA.c (SC.int ((j : Nat) : Int)))), (SV.a (SA.c (SC.int ((j : Nat) : Int)))), (SV.a (SA.c (SC.sl 0 ao n c))), (SV.a (SA.c (SC.int ((n : Nat) : Int)))), (SV.a (SA.c (SC.lit Bool.true))), (SV.a (SA.c (SC.val (g 8)))), (SV.a (SA.c (SC.val (g 9)))), (SV.a (SA.c (SC.sl 0 ao n c))), (SV.a (SA.c (SC.int ((j : Nat) : Int)))), (SV.a (SA.c (SC.rptr 0 ao 2 j 0))), (SV.a (SA.c (SC.rptr 0 ao 2 j 0))), (SV.a (SA.c (SC.int (g0 j)))), (SV.a (SA.c (SC.bool (btw (g0 j) (1 : Int) (9 : Int))))), (SV.a (SA.c (SC.bool (!(btw (g0 j) (1 : Int) (9 : Int)))))), (SV.a (SA.c (SC.lit Bool.false))), (SV.a (SA.c (SC.sl 0 ao n c))), (SV.a (SA.c (SC.int ((j : Nat) : Int)))), (SV.a (SA.c (SC.rptr 0 ao 2 j 0))), (SV.a (SA.c (SC.rptr 0 ao 2 j 1))), (SV.a (SA.c (SC.int (g1 j)))), (SV.a (SA.c (SC.sl 0 ao n c))), (SV.a (SA.c (SC.int ((j : Nat) : Int)))), (SV.a (SA.c (SC.rptr 0 ao 2 j 0))), (SV.a (SA.c (SC.rptr 0 ao 2 j 0))), (SV.a (SA.c (SC.int (g0 j)))), (SV.a (SA.c (SC.bool (btw (g1 j) (0 : Int) (g0 j))))), (SV.a (SA.c (SC.bool (!(btw (g1 j) (0 : Int) (g0 j)))))), (SV.a (SA.c (SC.lit Bool.true))), (SV.a (SA.c (SC.val (g 31)))), (SV.a (SA.c (SC.val (g 32)))), (SV.a (SA.c (SC.val (g 33))))] [(Ch.row (Row.mk Bool.false ao 0 2 n 0 [(fun (i0 : Nat) => (SC.int (g0 i0))), (fun (i1 : Nat) => (SC.int (g1 i1)))]))])) ∧
    ((!(btw (g1 j) (0 : Int) (g0 j))) = Bool.false →
    ((rng (((j : Nat) : Int) + (1 : Int))) ∧
     (NX [(SV.a (SA.c (SC.sl 0 ao n c))), (SV.a (SA.c (SC.val (g 1)))), (SV.a (SA.c (SC.val (g 2)))), (SV.a (SA.c (SC.int (((j : Nat) : Int) + (1 : Int))))), (SV.a (SA.c (SC.int ((j : Nat) : Int)))), (SV.a (SA.c (SC.sl 0 ao n c))), (SV.a (SA.c (SC.int ((n : Nat) : Int)))), (SV.a (SA.c (SC.lit Bool.true))), (SV.a (SA.c (SC.int ((j : Nat) : Int)))), (SV.a (SA.c (SC.int (((j : Nat) : Int) + (1 : Int))))), (SV.a (SA.c (SC.sl 0 ao n c))), (SV.a (SA.c (SC.int ((j : Nat) : Int)))), (SV.a (SA.c (SC.rptr 0 ao 2 j 0))), (SV.a (SA.c (SC.rptr 0 ao 2 j 0))), (SV.a (SA.c (SC.int (g0 j)))), (SV.a (SA.c (SC.bool (btw (g0 j) (1 : Int) (9 : Int))))), (SV.a (SA.c (SC.bool (!(btw (g0 j) (1 : Int) (9 : Int)))))), (SV.a (SA.c (SC.lit Bool.false))), (SV.a (SA.c (SC.sl 0 ao n c))), (SV.a (SA.c (SC.int ((j : Nat) : Int)))), (SV.a (SA.c (SC.rptr 0 ao 2 j 0))), (SV.a (SA.c (SC.rptr 0 ao 2 j 1))), (SV.a (SA.c (SC.int (g1 j)))), (SV.a (SA.c (SC.sl 0 ao n c))), (SV.a (SA.c (SC.int ((j : Nat) : Int)))), (SV.a (SA.c (SC.rptr 0 ao 2 j 0))), (SV.a (SA.c (SC.rptr 0 ao 2 j 0))), (SV.a (SA.c (SC.int (g0 j)))), (SV.a (SA.c (SC.bool (btw (g1 j) (0 : Int) (g0 j))))), (SV.a (SA.c (SC.bool (!(btw (g1 j) (0 : Int) (g0 j)))))), (SV.a (SA.c (SC.lit Bool.false))), (SV.a (SA.c (SC.val (g 31)))), (SV.a (SA.c (SC.val (g 32)))), (SV.a (SA.c (SC.val (g 33))))] [(Ch.row (Row.mk Bool.false ao 0 2 n 0 [(fun (i2 : Nat) => (SC.int (g0 i2))), (fun (i3 : Nat) => (SC.int (g1 i3)))]))])))))))))))))))))))) ∧
   ((!(btw (g0 j) (1 : Int) (9 : Int))) = Bool.true →
   (kx Exit.ret [(SV.a (SA.c (SC.sl 0 ao n c))), (SV.a (SA.c (SC.val (g 1)))), (SV.a (SA.c (SC.lit Bool.false))), (SV.a (SA.c (SC.int ((j : Nat) : Int)))), (SV.a (SA.c (SC.int ((j : Nat) : Int)))), (SV.a (SA.c (SC.sl 0 ao n c))), (SV.a (SA.c (SC.int ((n : Nat) : Int)))), (SV.a (SA.c (SC.lit Bool.true))), (SV.a (SA.c (SC.val (g 8)))), (SV.a (SA.c (SC.val (g 9)))), (SV.a (SA.c (SC.sl 0 ao n c))), (SV.a (SA.c (SC.int ((j : Nat) : Int)))), (SV.a (SA.c (SC.rptr 0 ao 2 j 0))), (SV.a (SA.c (SC.rptr 0 ao 2 j 0))), (SV.a (SA.c (SC.int (g0 j)))), (SV.a (SA.c (SC.bool (btw (g0 j) (1 : Int) (9 : Int))))), (SV.a (SA.c (SC.bool (!(btw (g0 j) (1 : Int) (9 : Int)))))), (SV.a (SA.c (SC.lit Bool.true))), SV.undef, SV.undef, SV.undef, SV.undef, SV.undef, SV.undef, SV.undef, SV.undef, SV.undef, SV.undef, SV.undef, SV.undef, (SV.a (SA.c (SC.lit Bool.true))), (SV.a (SA.c (SC.val (g 31)))), (SV.a (SA.c (SC.val (g 32)))), (SV.a (SA.c (SC.val (g 33))))] [(Ch.row (Row.mk Bool.false ao 0 2 n 0 [(fun (i4 : Nat) => (SC.int (g0 i4))), (fun (i5 : Nat) => (SC.int (g1 i5)))]))])))))))))))) ∧
  ((decide (((j : Nat) : Int) < ((n : Nat) : Int))) = Bool.false →
  (kx (Exit.exit 0) [(SV.a (SA.c (SC.sl 0 ao n c))), (SV.a (SA.c (SC.val (g 1)))), (SV.a (SA.c (SC.val (g 2)))), (SV.a (SA.c (SC.int ((j : Nat) : Int)))), (SV.a (SA.c (SC.int ((j : Nat) : Int)))), (SV.a (SA.c (SC.sl 0 ao n c))), (SV.a (SA.c (SC.int ((n : Nat) : Int)))), (SV.a (SA.c (SC.lit Bool.false))), (SV.a (SA.c (SC.val (g 8)))), (SV.a (SA.c (SC.val (g 9)))), (SV.a (SA.c (SC.val (g 10)))), (SV.a (SA.c (SC.val (g 11)))), (SV.a (SA.c (SC.val (g 12)))), (SV.a (SA.c (SC.val (g 13)))), (SV.a (SA.c (SC.val (g 14)))), (SV.a (SA.c (SC.val (g 15)))), (SV.a (SA.c (SC.val (g 16)))), (SV.a (SA.c (SC.val (g 17)))), (SV.a (SA.c (SC.val (g 18)))), (SV.a (SA.c (SC.val (g 19)))), (SV.a (SA.c (SC.val (g 20)))), (SV.a (SA.c (SC.val (g 21)))), (SV.a (SA.c (SC.val (g 22)))), (SV.a (SA.c (SC.val (g 23)))), (SV.a (SA.c (SC.val (g 24)))), (SV.a (SA.c (SC.val (g 25)))), (SV.a (SA.c (SC.val (g 26)))), (SV.a (SA.c (SC.val (g 27)))), (SV.a (SA.c (SC.val (g 28)))), (SV.a (SA.c (SC.val (g 29)))), (SV.a (SA.c (SC.val (g 30)))), (SV.a (SA.c (SC.val (g 31)))), (SV.a (SA.c (SC.val (g 32)))), (SV.a (SA.c (SC.val (g 33))))] [(Ch.row (Row.mk Bool.false ao 0 2 n 0 [(fun (i6 : Nat) => (SC.int (g0 i6))), (fun (i7 : Nat) => (SC.int (g1 i7)))]))])))) := by kernel_rfl
theorem shOkS_ok (ao : Option Addr) (n c : Nat) (g0 g1 : Nat → Int) (hn : n ≤ 9223372036854775807) (X : Cx) : LoopOK Try.prog X (theLoop Try.f97 0) (sshOkS ao n c g0 g1) := by
  intro ts ch k a w hS hT hd hs
  obtain ⟨⟨h1, hch⟩, hk, hr⟩ := hS
  refine loop_ok mixed (E := {tb := [(59, sBtw)]}) ⟨sBtwS_ok, trivial⟩ (loopsOK_nil _ _ _) 400 n (fun j ts ch => ∃ g, allB j (shOkSP ao n c g0 g1) = true ∧ ts = shOkSH ao n c g0 g1 (.int (j : Int)) g ∧ ch = shOkST ao n c g0 g1) ?_ ?_ hT hd hs
  · rintro j _ _ ⟨g, hall, rfl, rfl⟩ hj
    refine (shOkSB ao n c g0 g1 j g _ _).mpr ?_
    by_cases hlt : j < n
    · have hjn : (0 : Int) ≤ (j : Int) ∧ (j : Int) < (n : Int) := ⟨by omega, by omega⟩
      cases hp : shOkSP ao n c g0 g1 j
      all_goals simp only [shOkSP] at hp
      all_goals
        repeat' (first
          | with_reducible exact rfl
          | exact True.intro
          | with_reducible assumption
          | (refine ⟨hlt, ?_⟩; show Next _ _ _ _; refine Next.mk (fun g => shOkSH ao n c g0 g1 (.int ((j + 1 : Nat) : Int)) g) _ ⟨_, allB_succ hall (by simp only [shOkSP]; exact hp), rfl, rfl⟩ rfl fun w hw => hw.sel [0] (by simp))
          | (refine Next.mk (fun g => shOkSR ao n c g0 g1 g) _ (hr _ (allB_no hlt (by simp only [shOkSP]; exact hp))) rfl fun w hw => hw.sel [0] (by simp))
          | refine And.intro ?_ ?_
          | (intro h; exfalso; simp at h; omega)
          | (intro h; exfalso; simp [h] at hp; done)
          | intro _
          | omega)
        all_goals (exfalso; simp_all; done)
    · have hjn : n = j := by omega
      subst hjn
      repeat' (first
        | (refine Next.mk (fun g => shOkSH ao n c g0 g1 (.int (n : Int)) g) _ (hk _ hall) rfl fun w hw => hw.sel [0] (by simp))
        | refine And.intro ?_ ?_
        | (intro h; exfalso; simp at h; done)
        | (intro h; exfalso; simp at h; omega)
        | intro _)
  · refine Next.mk (fun g => shOkSH ao n c g0 g1 (.int ((0 : Nat) : Int)) g) _ ⟨_, allB_zero _, rfl, rfl⟩ h1 fun w hw => ?_
    rw [← hch]
    exact hw.sel [0] (by simp)
end Go.Proofs.Ytlkklplnomecgaa

/-
  Senders made: the loops.
-/
import Derived.Test.YtkfinkolllpcgaaSxRead
import Derived.Test.YtkfinkolllpcgaaSxRcv
namespace Go.Proofs.Ytkfinkolllpcgaa
set_option linter.unusedVariables false
set_option linter.unusedSimpArgs false
open Go.RowKit
set_option maxRecDepth 100000
set_option maxHeartbeats 8000000

theorem dT {p q : Prop} [Decidable p] (h : p → q) : decide p = true → q := fun e => h (of_decide_eq_true e)
theorem dF {p q : Prop} [Decidable p] (h : ¬ p → q) : decide p = false → q := fun e => h (of_decide_eq_false e)
def allB (n : Nat) (p : Nat → Bool) : Bool := (List.range n).all p
theorem allB_zero (p : Nat → Bool) : allB 0 p = true := rfl
theorem allB_succ {n : Nat} {p : Nat → Bool} (h : allB n p = true) (hp : p n = true) : allB (n + 1) p = true := by
  simp only [allB, List.all_eq_true, List.mem_range] at h ⊢
  intro i hi
  by_cases e : i = n
  · rw [e]; exact hp
  · exact h i (by omega)
theorem allB_no {n j : Nat} {p : Nat → Bool} (hj : j < n) (hp : p j = false) : allB n p = false := by
  cases h : allB n p
  · rfl
  · simp only [allB, List.all_eq_true, List.mem_range] at h
    rw [h j hj] at hp
    cases hp
theorem allB_get {n : Nat} {p : Nat → Bool} (h : allB n p = true) {j : Nat} (hj : j < n) : p j = true := by
  simp only [allB, List.all_eq_true, List.mem_range] at h
  exact h j hj
def fr (g0 g1 g2 g3 : Nat → Int) (i : Nat) : Int := frameV (g0 i) (g1 i) (g2 i) (g3 i)
def frP (g0 g1 g2 g3 : Nat → Int) (j : Nat) : Bool := !(decide (fr g0 g1 g2 g3 j < 0))
def sndT (lo : Option Addr) (n lc : Nat) (g0 g1 g2 g3 : Nat → Int) (pb pc : Nat) (ao : Option Addr) (j cap : Nat) : List Ch := [.row ⟨false, lo, 0, 4, n, 0, [fun i => .int (g0 i), fun i => .int (g1 i), fun i => .int (g2 i), fun i => .int (g3 i)]⟩, .cells pb 26 [.nil, .il 0], .cells pc 26 [.sl 3 ao j cap, .il 0], .row ⟨true, ao, 3, 1, j, cap, [fun i => .int (fr g0 g1 g2 g3 i)]⟩]
def sndT0 (lo : Option Addr) (n lc : Nat) (g0 g1 g2 g3 : Nat → Int) (pb pc : Nat) : List Ch := [.row ⟨false, lo, 0, 4, n, 0, [fun i => .int (g0 i), fun i => .int (g1 i), fun i => .int (g2 i), fun i => .int (g3 i)]⟩, .cells pb 26 [.nil, .il 0], .cells pc 26 [.nil, .il 0]]
def sndIH (lo : Option Addr) (n lc : Nat) (g0 g1 g2 g3 : Nat → Int) (pb pc : Nat) (i : SC) (g : Nat → Value) : List SV := [.a (.c (.sl 0 lo n lc)), .a (.c (.val (g 1))), .a (.c (.ptr 1 pb 0)), .a (.c (.val (g 3))), .a (.c (.ptr 2 pc 0)), .a (.c (.val (g 5))), .a (.c (.val (g 6))), .a (.c (.val (g 7))), .a (.c (.val (g 8))), .a (.c (.val (g 9))), .a (.c (.val (g 10))), .a (.c (.val (g 11))), .a (.c (.val (g 12))), .a (.c (.sl 0 lo n lc)), .a (.c (.int (n : Int))), .a (.c i), .a (.c (.val (g 16))), .a (.c (.val (g 17))), .a (.c (.val (g 18))), .a (.c (.val (g 19))), .a (.c (.val (g 20))), .a (.c (.val (g 21))), .a (.c (.val (g 22))), .a (.c (.val (g 23))), .a (.c (.val (g 24))), .a (.c (.val (g 25))), .a (.c (.val (g 26))), .a (.c (.val (g 27))), .a (.c (.val (g 28))), .a (.c (.val (g 29))), .a (.c (.val (g 30))), .a (.c (.val (g 31)))]
def sndIR (lo : Option Addr) (n lc : Nat) (g0 g1 g2 g3 : Nat → Int) (pb pc : Nat) (g : Nat → Value) : List SV := [.a (.c (.val (g 0))), .a (.c (.val (g 1))), .a (.c (.ptr 1 pb 0)), .a (.c (.lit false)), .a (.c (.val (g 4))), .a (.c (.val (g 5))), .a (.c (.val (g 6))), .a (.c (.val (g 7))), .a (.c (.val (g 8))), .a (.c (.val (g 9))), .a (.c (.val (g 10))), .a (.c (.val (g 11))), .a (.c (.val (g 12))), .a (.c (.val (g 13))), .a (.c (.val (g 14))), .a (.c (.val (g 15))), .a (.c (.val (g 16))), .a (.c (.val (g 17))), .a (.c (.val (g 18))), .a (.c (.val (g 19))), .a (.c (.val (g 20))), .a (.c (.val (g 21))), .a (.c (.val (g 22))), .a (.c (.val (g 23))), .a (.c (.val (g 24))), .a (.c (.val (g 25))), .a (.c (.val (g 26))), .a (.c (.val (g 27))), .a (.c (.val (g 28))), .a (.c (.val (g 29))), .a (.c (.val (g 30))), .a (.c (.val (g 31)))]
def ssndI (lo : Option Addr) (n lc : Nat) (g0 g1 g2 g3 : Nat → Int) (pb pc : Nat) : LSm := fun ts ch kk =>
  (ts.map SV.den = (sndIH lo n lc g0 g1 g2 g3 pb pc (.il 0) (fun d => (ts.getD d .undef).den)).map SV.den ∧ ch = sndT0 lo n lc g0 g1 g2 g3 pb pc) ∧
    (∀ g ao cap, allB n (frP g0 g1 g2 g3) = true → kk (.exit 0) (sndIH lo n lc g0 g1 g2 g3 pb pc (.int (n : Int)) g) (sndT lo n lc g0 g1 g2 g3 pb pc ao n cap)) ∧ (∀ g ao j cap, allB n (frP g0 g1 g2 g3) = false → kk .ret (sndIR lo n lc g0 g1 g2 g3 pb pc g) (sndT lo n lc g0 g1 g2 g3 pb pc ao j cap))
theorem sndIB (lo : Option Addr) (n lc : Nat) (g0 g1 g2 g3 : Nat → Int) (pb pc : Nat) (ao : Option Addr) (j cap : Nat) (g : Nat → Value) (NX : List SV → List Ch → Prop) (kx : Exit → List SV → List Ch → Prop) : (exCode Try.prog {tb := [(45, sFrame)]} 400 (theLoop Try.f23 0) (sndIH lo n lc g0 g1 g2 g3 pb pc (.int (j : Int)) g) (sndT lo n lc g0 g1 g2 g3 pb pc ao j cap) (loopK NX kx)) = (
  (((decide (((j : Nat) : Int) < ((n : Nat) : Int))) = Bool.true →
  (lo = lo ∧
   (n = n ∧
   ((0 ≤ ((j : Nat) : Int) ∧ ((j : Nat) : Int) < ((n : Nat) : Int)) ∧
   (lo = lo ∧
   (j < n ∧
   (∀ b0 : Nat,
   (b0 = b0 ∧
   (b0 = b0 ∧
   (((decide ((frameV (g0 j) (g1 j) (g2 j) (g3 j)) < (0 : Int))) = Bool.true →
   (pb = pb ∧
    (kx Exit.ret [(SV.a (SA.c (SC.sl 0 lo n lc))), (SV.a (SA.c (SC.val (g 1)))), (SV.a (SA.c (SC.ptr 1 pb 0))), (SV.a (SA.c (SC.lit Bool.false))), (SV.a (SA.c (SC.ptr 2 pc 0))), (SV.a (SA.c (SC.val (g 5)))), (SV.a (SA.c (SC.ptr 4 b0 0))), (SV.a (SA.c (SC.int (frameV (g0 j) (g1 j) (g2 j) (g3 j))))), (SV.a (SA.c (SC.val (g 8)))), (SV.a (SA.c (SC.val (g 9)))), (SV.a (SA.c (SC.val (g 10)))), (SV.a (SA.c (SC.val (g 11)))), (SV.a (SA.c (SC.val (g 12)))), (SV.a (SA.c (SC.sl 0 lo n lc))), (SV.a (SA.c (SC.int ((n : Nat) : Int)))), (SV.a (SA.c (SC.int ((j : Nat) : Int)))), (SV.a (SA.c (SC.lit Bool.true))), (SV.a (SA.c (SC.rptr 0 lo 4 j 0))), (SV.a (SA.agg [(SC.int (g0 j)), (SC.int (g1 j)), (SC.int (g2 j)), (SC.int (g3 j))])), (SV.a (SA.agg [(SC.int (g0 j)), (SC.int (g1 j)), (SC.int (g2 j)), (SC.int (g3 j))])), (SV.a (SA.c (SC.int (frameV (g0 j) (g1 j) (g2 j) (g3 j))))), (SV.a (SA.c (SC.int (frameV (g0 j) (g1 j) (g2 j) (g3 j))))), (SV.a (SA.c (SC.lit Bool.true))), (SV.a (SA.agg [SC.nil, (SC.il (0 : Int))])), (SV.a (SA.c (SC.val (g 24)))), (SV.a (SA.c (SC.val (g 25)))), (SV.a (SA.c (SC.val (g 26)))), (SV.a (SA.c (SC.val (g 27)))), (SV.a (SA.c (SC.val (g 28)))), (SV.a (SA.c (SC.val (g 29)))), (SV.a (SA.c (SC.val (g 30)))), (SV.a (SA.c (SC.val (g 31))))] [(Ch.row (Row.mk Bool.false lo 0 4 n 0 [(fun (i1 : Nat) => (SC.int (g0 i1))), (fun (i2 : Nat) => (SC.int (g1 i2))), (fun (i3 : Nat) => (SC.int (g2 i3))), (fun (i4 : Nat) => (SC.int (g3 i4)))])), (Ch.cells pb 26 [SC.nil, (SC.il (0 : Int))]), (Ch.cells pc 26 [(SC.sl 3 ao j cap), (SC.il (0 : Int))]), (Ch.row (Row.mk Bool.true ao 3 1 j cap [(fun (i5 : Nat) => (SC.int (fr g0 g1 g2 g3 i5)))])), (Ch.cells b0 41 [(SC.int (g0 j)), (SC.int (g1 j)), (SC.int (g2 j)), (SC.int (g3 j))])]))) ∧
   ((decide ((frameV (g0 j) (g1 j) (g2 j) (g3 j)) < (0 : Int))) = Bool.false →
   (pc = pc ∧
    (∀ b6 : Nat,
    ((ao = ao ∧
    (j = j ∧
    (cap = cap ∧
    (b6 = b6 ∧
    ((∀ i7 : Nat,
    Bool.true = Bool.true) ∧
    (apC j 1 8)))))) ∧
    (∀ ao'8 : (Option Addr),
    (∀ cap'9 : Nat,
    (pc = pc ∧
    ((rng (((j : Nat) : Int) + (1 : Int))) ∧
    (NX [(SV.a (SA.c (SC.sl 0 lo n lc))), (SV.a (SA.c (SC.val (g 1)))), (SV.a (SA.c (SC.ptr 1 pb 0))), (SV.a (SA.c (SC.val (g 3)))), (SV.a (SA.c (SC.ptr 2 pc 0))), (SV.a (SA.c (SC.val (g 5)))), (SV.a (SA.c (SC.ptr 4 b0 0))), (SV.a (SA.c (SC.int (frameV (g0 j) (g1 j) (g2 j) (g3 j))))), (SV.a (SA.c (SC.val (g 8)))), (SV.a (SA.c (SC.val (g 9)))), (SV.a (SA.c (SC.val (g 10)))), (SV.a (SA.c (SC.val (g 11)))), (SV.a (SA.c (SC.val (g 12)))), (SV.a (SA.c (SC.sl 0 lo n lc))), (SV.a (SA.c (SC.int ((n : Nat) : Int)))), (SV.a (SA.c (SC.int (((j : Nat) : Int) + (1 : Int))))), (SV.a (SA.c (SC.lit Bool.true))), (SV.a (SA.c (SC.rptr 0 lo 4 j 0))), (SV.a (SA.agg [(SC.int (g0 j)), (SC.int (g1 j)), (SC.int (g2 j)), (SC.int (g3 j))])), (SV.a (SA.agg [(SC.int (g0 j)), (SC.int (g1 j)), (SC.int (g2 j)), (SC.int (g3 j))])), (SV.a (SA.c (SC.int (frameV (g0 j) (g1 j) (g2 j) (g3 j))))), (SV.a (SA.c (SC.int (frameV (g0 j) (g1 j) (g2 j) (g3 j))))), (SV.a (SA.c (SC.lit Bool.false))), (SV.a (SA.c (SC.val (g 23)))), (SV.a (SA.c (SC.ptr 2 pc 0))), (SV.a (SA.c (SC.sl 3 ao j cap))), (SV.a (SA.c (SC.int (frameV (g0 j) (g1 j) (g2 j) (g3 j))))), (SV.a (SA.c (SC.slc 5 b6 1 1))), (SV.a (SA.c (SC.sl 6 ao'8 (j + 1) cap'9))), (SV.a (SA.c (SC.ptr 2 pc 0))), (SV.a (SA.c (SC.int (((j : Nat) : Int) + (1 : Int))))), (SV.a (SA.c (SC.val (g 31))))] [(Ch.row (Row.mk Bool.false lo 0 4 n 0 [(fun (i10 : Nat) => (SC.int (g0 i10))), (fun (i11 : Nat) => (SC.int (g1 i11))), (fun (i12 : Nat) => (SC.int (g2 i12))), (fun (i13 : Nat) => (SC.int (g3 i13)))])), (Ch.cells pb 26 [SC.nil, (SC.il (0 : Int))]), (Ch.cells pc 26 [(SC.sl 6 ao'8 (j + 1) cap'9), (SC.il (0 : Int))]), Ch.dead, (Ch.cells b0 41 [(SC.int (g0 j)), (SC.int (g1 j)), (SC.int (g2 j)), (SC.int (g3 j))]), (Ch.cells b6 3 [(SC.int (frameV (g0 j) (g1 j) (g2 j) (g3 j)))]), (Ch.row (Row.mk Bool.true ao'8 3 1 (j + 1) cap'9 [(fun (i14 : Nat) => (SC.int (if i14 < j then (fr g0 g1 g2 g3 i14) else (frameV (g0 j) (g1 j) (g2 j) (g3 j)))))]))]))))))))))))))))))) ∧
  ((decide (((j : Nat) : Int) < ((n : Nat) : Int))) = Bool.false →
  (kx (Exit.exit 0) [(SV.a (SA.c (SC.sl 0 lo n lc))), (SV.a (SA.c (SC.val (g 1)))), (SV.a (SA.c (SC.ptr 1 pb 0))), (SV.a (SA.c (SC.val (g 3)))), (SV.a (SA.c (SC.ptr 2 pc 0))), (SV.a (SA.c (SC.val (g 5)))), (SV.a (SA.c (SC.val (g 6)))), (SV.a (SA.c (SC.val (g 7)))), (SV.a (SA.c (SC.val (g 8)))), (SV.a (SA.c (SC.val (g 9)))), (SV.a (SA.c (SC.val (g 10)))), (SV.a (SA.c (SC.val (g 11)))), (SV.a (SA.c (SC.val (g 12)))), (SV.a (SA.c (SC.sl 0 lo n lc))), (SV.a (SA.c (SC.int ((n : Nat) : Int)))), (SV.a (SA.c (SC.int ((j : Nat) : Int)))), (SV.a (SA.c (SC.lit Bool.false))), (SV.a (SA.c (SC.val (g 17)))), (SV.a (SA.c (SC.val (g 18)))), (SV.a (SA.c (SC.val (g 19)))), (SV.a (SA.c (SC.val (g 20)))), (SV.a (SA.c (SC.val (g 21)))), (SV.a (SA.c (SC.val (g 22)))), (SV.a (SA.c (SC.val (g 23)))), (SV.a (SA.c (SC.val (g 24)))), (SV.a (SA.c (SC.val (g 25)))), (SV.a (SA.c (SC.val (g 26)))), (SV.a (SA.c (SC.val (g 27)))), (SV.a (SA.c (SC.val (g 28)))), (SV.a (SA.c (SC.val (g 29)))), (SV.a (SA.c (SC.val (g 30)))), (SV.a (SA.c (SC.val (g 31))))] [(Ch.row (Row.mk Bool.false lo 0 4 n 0 [(fun (i15 : Nat) => (SC.int (g0 i15))), (fun (i16 : Nat) => (SC.int (g1 i16))), (fun (i17 : Nat) => (SC.int (g2 i17))), (fun (i18 : Nat) => (SC.int (g3 i18)))])), (Ch.cells pb 26 [SC.nil, (SC.il (0 : Int))]), (Ch.cells pc 26 [(SC.sl 3 ao j cap), (SC.il (0 : Int))]), (Ch.row (Row.mk Bool.true ao 3 1 j cap [(fun (i19 : Nat) => (SC.int (fr g0 g1 g2 g3 i19)))]))])))) := by kernel_rfl
theorem sndI_ok (lo : Option Addr) (n lc : Nat) (g0 g1 g2 g3 : Nat → Int) (pb pc : Nat) (hn : n ≤ 40) (X : Cx) : LoopOK Try.prog X (theLoop Try.f23 0) (ssndI lo n lc g0 g1 g2 g3 pb pc) := by
  intro ts ch kk a w hS hT hd hs
  obtain ⟨⟨h1, rfl⟩, hk, hr⟩ := hS
  refine loop_ok mixed (E := {tb := [(45, sFrame)]}) ⟨sFrame_ok_frameI, trivial⟩ (loopsOK_nil _ _ _) 400 n (fun j ts ch => ∃ g ao cap, allB j (frP g0 g1 g2 g3) = true ∧ ts = sndIH lo n lc g0 g1 g2 g3 pb pc (.int (j : Int)) g ∧ ch = sndT lo n lc g0 g1 g2 g3 pb pc ao j cap) ?_ ?_ hT hd hs
  · rintro j _ _ ⟨g, ao, cap, hall, rfl, rfl⟩ hj
    refine (@Eq.mpr _ _ (sndIB lo n lc g0 g1 g2 g3 pb pc ao j cap g _ _) ?_)
    by_cases hlt : j < n
    · have hp0 : (decide (frameV (g0 j) (g1 j) (g2 j) (g3 j) < 0)) = !(frP g0 g1 g2 g3 j) := (Bool.not_not _).symm
      cases hp : frP g0 g1 g2 g3 j
      all_goals rw [hp] at hp0
      all_goals simp only [Bool.not_true, Bool.not_false] at hp0
      all_goals
        repeat' (first
          | with_reducible exact rfl
          | exact True.intro
          | with_reducible assumption
          | (refine ⟨hlt, ?_⟩; show Next _ _ _ _; refine Next.mk (fun g => sndIH lo n lc g0 g1 g2 g3 pb pc (.int ((j + 1 : Nat) : Int)) g) _ ⟨_, _, _, allB_succ hall hp, rfl, rfl⟩ rfl (fun w hw => ((hw.sel [0, 1, 2, 6] (by simp)).recell 2 rfl [.sl 3 _ (j + 1) _, .il 0] rfl).re 3 _ rfl [fun i => .int (fr g0 g1 g2 g3 i)] ?_); refine ⟨fun i hi => ?_, trivial⟩)
          | (refine Next.mk (fun g => sndIR lo n lc g0 g1 g2 g3 pb pc g) _ (hr _ _ _ _ (allB_no hlt hp)) rfl fun w hw => hw.sel [0, 1, 2, 3] (by simp))
          | refine And.intro ?_ ?_
          | apply Exists.intro
          | (intro h; exfalso; simp [hp0] at h; done)
          | (intro h; replace h := of_decide_eq_true h; first | (exfalso; omega) | skip)
          | (intro h; replace h := of_decide_eq_false h; first | (exfalso; omega) | skip)
          | intro _
          | omega
          | (simp; omega))
      all_goals
        rename_i i hi
        have hi : i < j + 1 := hi
        simp only [SC.den]
        by_cases e : i < j
        · simp [e, fr]
        · have e2 : i = j := by omega
          subst e2
          simp [fr]
    · have hjn : j = n := by omega
      subst hjn
      repeat' (first
        | with_reducible exact rfl
        | exact True.intro
        | with_reducible assumption
        | (refine Next.mk (fun g => sndIH lo j lc g0 g1 g2 g3 pb pc (.int (j : Int)) g) _ (hk _ _ _ hall) rfl fun w hw => hw)
        | refine And.intro ?_ ?_
        | (intro h; exfalso; simp at h; done)
        | (intro h; exfalso; simp at h; omega)
        | intro _)
  · refine Next.mk (fun g => sndIH lo n lc g0 g1 g2 g3 pb pc (.int ((0 : Nat) : Int)) g) _ ⟨_, none, 0, allB_zero _, rfl, rfl⟩ h1 fun w hw => ?_
    exact (hw.addNil ⟨true, none, 3, 1, 0, 0, [fun i => .int (fr g0 g1 g2 g3 i)]⟩ rfl rfl rfl rfl rfl).recell 2 rfl [.sl 3 none 0 0, .il 0] rfl
def sndSH (lo : Option Addr) (n lc : Nat) (g0 g1 g2 g3 : Nat → Int) (pb pc : Nat) (i : SC) (g : Nat → Value) : List SV := [.a (.c (.sl 0 lo n lc)), .a (.c (.val (g 1))), .a (.c (.ptr 1 pb 0)), .a (.c (.val (g 3))), .a (.c (.ptr 2 pc 0)), .a (.c i), .a (.c (.val (g 6))), .a (.c (.val (g 7))), .a (.c (.val (g 8))), .a (.c (.val (g 9))), .a (.c (.val (g 10))), .a (.c (.val (g 11))), .a (.c (.val (g 12))), .a (.c (.val (g 13))), .a (.c (.val (g 14))), .a (.c (.val (g 15))), .a (.c (.val (g 16))), .a (.c (.val (g 17))), .a (.c (.val (g 18))), .a (.c (.val (g 19))), .a (.c (.val (g 20))), .a (.c (.val (g 21))), .a (.c (.val (g 22))), .a (.c (.val (g 23))), .a (.c (.val (g 24))), .a (.c (.val (g 25))), .a (.c (.val (g 26))), .a (.c (.val (g 27))), .a (.c (.val (g 28))), .a (.c (.val (g 29))), .a (.c (.val (g 30))), .a (.c (.val (g 31))), .a (.c (.val (g 32)))]
def sndSR (lo : Option Addr) (n lc : Nat) (g0 g1 g2 g3 : Nat → Int) (pb pc : Nat) (g : Nat → Value) : List SV := [.a (.c (.val (g 0))), .a (.c (.val (g 1))), .a (.c (.ptr 1 pb 0)), .a (.c (.lit false)), .a (.c (.val (g 4))), .a (.c (.val (g 5))), .a (.c (.val (g 6))), .a (.c (.val (g 7))), .a (.c (.val (g 8))), .a (.c (.val (g 9))), .a (.c (.val (g 10))), .a (.c (.val (g 11))), .a (.c (.val (g 12))), .a (.c (.val (g 13))), .a (.c (.val (g 14))), .a (.c (.val (g 15))), .a (.c (.val (g 16))), .a (.c (.val (g 17))), .a (.c (.val (g 18))), .a (.c (.val (g 19))), .a (.c (.val (g 20))), .a (.c (.val (g 21))), .a (.c (.val (g 22))), .a (.c (.val (g 23))), .a (.c (.val (g 24))), .a (.c (.val (g 25))), .a (.c (.val (g 26))), .a (.c (.val (g 27))), .a (.c (.val (g 28))), .a (.c (.val (g 29))), .a (.c (.val (g 30))), .a (.c (.val (g 31))), .a (.c (.val (g 32)))]
def ssndS (lo : Option Addr) (n lc : Nat) (g0 g1 g2 g3 : Nat → Int) (pb pc : Nat) : LSm := fun ts ch kk =>
  (ts.map SV.den = (sndSH lo n lc g0 g1 g2 g3 pb pc (.il 0) (fun d => (ts.getD d .undef).den)).map SV.den ∧ ch = sndT0 lo n lc g0 g1 g2 g3 pb pc) ∧
    (∀ g ao cap, allB n (frP g0 g1 g2 g3) = true → kk (.exit 0) (sndSH lo n lc g0 g1 g2 g3 pb pc (.int (n : Int)) g) (sndT lo n lc g0 g1 g2 g3 pb pc ao n cap)) ∧ (∀ g ao j cap, allB n (frP g0 g1 g2 g3) = false → kk .ret (sndSR lo n lc g0 g1 g2 g3 pb pc g) (sndT lo n lc g0 g1 g2 g3 pb pc ao j cap))
theorem sndSB (lo : Option Addr) (n lc : Nat) (g0 g1 g2 g3 : Nat → Int) (pb pc : Nat) (ao : Option Addr) (j cap : Nat) (g : Nat → Value) (NX : List SV → List Ch → Prop) (kx : Exit → List SV → List Ch → Prop) : (exCode Try.prog {tb := [(57, sFrame)]} 400 (theLoop Try.f27 0) (sndSH lo n lc g0 g1 g2 g3 pb pc (.int (j : Int)) g) (sndT lo n lc g0 g1 g2 g3 pb pc ao j cap) (loopK NX kx)) = (
  (((decide (((j : Nat) : Int) < ((n : Nat) : Int))) = Bool.true →
  (lo = lo ∧
   (n = n ∧
   ((0 ≤ ((j : Nat) : Int) ∧ ((j : Nat) : Int) < ((n : Nat) : Int)) ∧
   (lo = lo ∧
   (j < n ∧
   (((decide ((frameV (g0 j) (g1 j) (g2 j) (g3 j)) < (0 : Int))) = Bool.true →
   (pb = pb ∧
    (kx Exit.ret [(SV.a (SA.c (SC.sl 0 lo n lc))), (SV.a (SA.c (SC.val (g 1)))), (SV.a (SA.c (SC.ptr 1 pb 0))), (SV.a (SA.c (SC.lit Bool.false))), (SV.a (SA.c (SC.ptr 2 pc 0))), (SV.a (SA.c (SC.int ((j : Nat) : Int)))), (SV.a (SA.c (SC.int (frameV (g0 j) (g1 j) (g2 j) (g3 j))))), (SV.a (SA.c (SC.val (g 7)))), (SV.a (SA.c (SC.val (g 8)))), (SV.a (SA.c (SC.val (g 9)))), (SV.a (SA.c (SC.val (g 10)))), (SV.a (SA.c (SC.val (g 11)))), (SV.a (SA.c (SC.int ((j : Nat) : Int)))), (SV.a (SA.c (SC.sl 0 lo n lc))), (SV.a (SA.c (SC.int ((n : Nat) : Int)))), (SV.a (SA.c (SC.lit Bool.true))), (SV.a (SA.c (SC.val (g 16)))), (SV.a (SA.c (SC.val (g 17)))), (SV.a (SA.c (SC.sl 0 lo n lc))), (SV.a (SA.c (SC.int ((j : Nat) : Int)))), (SV.a (SA.c (SC.rptr 0 lo 4 j 0))), (SV.a (SA.agg [(SC.int (g0 j)), (SC.int (g1 j)), (SC.int (g2 j)), (SC.int (g3 j))])), (SV.a (SA.c (SC.int (frameV (g0 j) (g1 j) (g2 j) (g3 j))))), (SV.a (SA.c (SC.int (frameV (g0 j) (g1 j) (g2 j) (g3 j))))), (SV.a (SA.c (SC.lit Bool.true))), (SV.a (SA.agg [SC.nil, (SC.il (0 : Int))])), (SV.a (SA.c (SC.val (g 26)))), (SV.a (SA.c (SC.val (g 27)))), (SV.a (SA.c (SC.val (g 28)))), (SV.a (SA.c (SC.val (g 29)))), (SV.a (SA.c (SC.val (g 30)))), (SV.a (SA.c (SC.val (g 31)))), (SV.a (SA.c (SC.val (g 32))))] [(Ch.row (Row.mk Bool.false lo 0 4 n 0 [(fun (i0 : Nat) => (SC.int (g0 i0))), (fun (i1 : Nat) => (SC.int (g1 i1))), (fun (i2 : Nat) => (SC.int (g2 i2))), (fun (i3 : Nat) => (SC.int (g3 i3)))])), (Ch.cells pb 26 [SC.nil, (SC.il (0 : Int))]), (Ch.cells pc 26 [(SC.sl 3 ao j cap), (SC.il (0 : Int))]), (Ch.row (Row.mk Bool.true ao 3 1 j cap [(fun (i4 : Nat) => (SC.int (fr g0 g1 g2 g3 i4)))]))]))) ∧
   ((decide ((frameV (g0 j) (g1 j) (g2 j) (g3 j)) < (0 : Int))) = Bool.false →
   (pc = pc ∧
    (∀ b5 : Nat,
    ((ao = ao ∧
    (j = j ∧
    (cap = cap ∧
    (b5 = b5 ∧
    ((∀ i6 : Nat,
    Bool.true = Bool.true) ∧
    (apC j 1 8)))))) ∧
    (∀ ao'7 : (Option Addr),
    (∀ cap'8 : Nat,
    (pc = pc ∧
    ((rng (((j : Nat) : Int) + (1 : Int))) ∧
    (NX [(SV.a (SA.c (SC.sl 0 lo n lc))), (SV.a (SA.c (SC.val (g 1)))), (SV.a (SA.c (SC.ptr 1 pb 0))), (SV.a (SA.c (SC.val (g 3)))), (SV.a (SA.c (SC.ptr 2 pc 0))), (SV.a (SA.c (SC.int (((j : Nat) : Int) + (1 : Int))))), (SV.a (SA.c (SC.int (frameV (g0 j) (g1 j) (g2 j) (g3 j))))), (SV.a (SA.c (SC.val (g 7)))), (SV.a (SA.c (SC.val (g 8)))), (SV.a (SA.c (SC.val (g 9)))), (SV.a (SA.c (SC.val (g 10)))), (SV.a (SA.c (SC.val (g 11)))), (SV.a (SA.c (SC.int ((j : Nat) : Int)))), (SV.a (SA.c (SC.sl 0 lo n lc))), (SV.a (SA.c (SC.int ((n : Nat) : Int)))), (SV.a (SA.c (SC.lit Bool.true))), (SV.a (SA.c (SC.int ((j : Nat) : Int)))), (SV.a (SA.c (SC.int (((j : Nat) : Int) + (1 : Int))))), (SV.a (SA.c (SC.sl 0 lo n lc))), (SV.a (SA.c (SC.int ((j : Nat) : Int)))), (SV.a (SA.c (SC.rptr 0 lo 4 j 0))), (SV.a (SA.agg [(SC.int (g0 j)), (SC.int (g1 j)), (SC.int (g2 j)), (SC.int (g3 j))])), (SV.a (SA.c (SC.int (frameV (g0 j) (g1 j) (g2 j) (g3 j))))), (SV.a (SA.c (SC.int (frameV (g0 j) (g1 j) (g2 j) (g3 j))))), (SV.a (SA.c (SC.lit Bool.false))), (SV.a (SA.c (SC.val (g 25)))), (SV.a (SA.c (SC.ptr 2 pc 0))), (SV.a (SA.c (SC.sl 3 ao j cap))), (SV.a (SA.c (SC.int (frameV (g0 j) (g1 j) (g2 j) (g3 j))))), (SV.a (SA.c (SC.slc 4 b5 1 1))), (SV.a (SA.c (SC.sl 5 ao'7 (j + 1) cap'8))), (SV.a (SA.c (SC.ptr 2 pc 0))), (SV.a (SA.c (SC.val (g 32))))] [(Ch.row (Row.mk Bool.false lo 0 4 n 0 [(fun (i9 : Nat) => (SC.int (g0 i9))), (fun (i10 : Nat) => (SC.int (g1 i10))), (fun (i11 : Nat) => (SC.int (g2 i11))), (fun (i12 : Nat) => (SC.int (g3 i12)))])), (Ch.cells pb 26 [SC.nil, (SC.il (0 : Int))]), (Ch.cells pc 26 [(SC.sl 5 ao'7 (j + 1) cap'8), (SC.il (0 : Int))]), Ch.dead, (Ch.cells b5 3 [(SC.int (frameV (g0 j) (g1 j) (g2 j) (g3 j)))]), (Ch.row (Row.mk Bool.true ao'7 3 1 (j + 1) cap'8 [(fun (i13 : Nat) => (SC.int (if i13 < j then (fr g0 g1 g2 g3 i13) else (frameV (g0 j) (g1 j) (g2 j) (g3 j)))))]))])))))))))))))))) ∧
  ((decide (((j : Nat) : Int) < ((n : Nat) : Int))) = Bool.false →
  (kx (Exit.exit 0) [(SV.a (SA.c (SC.sl 0 lo n lc))), (SV.a (SA.c (SC.val (g 1)))), (SV.a (SA.c (SC.ptr 1 pb 0))), (SV.a (SA.c (SC.val (g 3)))), (SV.a (SA.c (SC.ptr 2 pc 0))), (SV.a (SA.c (SC.int ((j : Nat) : Int)))), (SV.a (SA.c (SC.val (g 6)))), (SV.a (SA.c (SC.val (g 7)))), (SV.a (SA.c (SC.val (g 8)))), (SV.a (SA.c (SC.val (g 9)))), (SV.a (SA.c (SC.val (g 10)))), (SV.a (SA.c (SC.val (g 11)))), (SV.a (SA.c (SC.int ((j : Nat) : Int)))), (SV.a (SA.c (SC.sl 0 lo n lc))), (SV.a (SA.c (SC.int ((n : Nat) : Int)))), (SV.a (SA.c (SC.lit Bool.false))), (SV.a (SA.c (SC.val (g 16)))), (SV.a (SA.c (SC.val (g 17)))), (SV.a (SA.c (SC.val (g 18)))), (SV.a (SA.c (SC.val (g 19)))), (SV.a (SA.c (SC.val (g 20)))), (SV.a (SA.c (SC.val (g 21)))), (SV.a (SA.c (SC.val (g 22)))), (SV.a (SA.c (SC.val (g 23)))), (SV.a (SA.c (SC.val (g 24)))), (SV.a (SA.c (SC.val (g 25)))), (SV.a (SA.c (SC.val (g 26)))), (SV.a (SA.c (SC.val (g 27)))), (SV.a (SA.c (SC.val (g 28)))), (SV.a (SA.c (SC.val (g 29)))), (SV.a (SA.c (SC.val (g 30)))), (SV.a (SA.c (SC.val (g 31)))), (SV.a (SA.c (SC.val (g 32))))] [(Ch.row (Row.mk Bool.false lo 0 4 n 0 [(fun (i14 : Nat) => (SC.int (g0 i14))), (fun (i15 : Nat) => (SC.int (g1 i15))), (fun (i16 : Nat) => (SC.int (g2 i16))), (fun (i17 : Nat) => (SC.int (g3 i17)))])), (Ch.cells pb 26 [SC.nil, (SC.il (0 : Int))]), (Ch.cells pc 26 [(SC.sl 3 ao j cap), (SC.il (0 : Int))]), (Ch.row (Row.mk Bool.true ao 3 1 j cap [(fun (i18 : Nat) => (SC.int (fr g0 g1 g2 g3 i18)))]))])))) := by kernel_rfl
theorem sndS_ok (lo : Option Addr) (n lc : Nat) (g0 g1 g2 g3 : Nat → Int) (pb pc : Nat) (hn : n ≤ 40) (X : Cx) : LoopOK Try.prog X (theLoop Try.f27 0) (ssndS lo n lc g0 g1 g2 g3 pb pc) := by
  intro ts ch kk a w hS hT hd hs
  obtain ⟨⟨h1, rfl⟩, hk, hr⟩ := hS
  refine loop_ok mixed (E := {tb := [(57, sFrame)]}) ⟨sFrame_ok_frameS, trivial⟩ (loopsOK_nil _ _ _) 400 n (fun j ts ch => ∃ g ao cap, allB j (frP g0 g1 g2 g3) = true ∧ ts = sndSH lo n lc g0 g1 g2 g3 pb pc (.int (j : Int)) g ∧ ch = sndT lo n lc g0 g1 g2 g3 pb pc ao j cap) ?_ ?_ hT hd hs
  · rintro j _ _ ⟨g, ao, cap, hall, rfl, rfl⟩ hj
    refine (@Eq.mpr _ _ (sndSB lo n lc g0 g1 g2 g3 pb pc ao j cap g _ _) ?_)
    by_cases hlt : j < n
    · have hp0 : (decide (frameV (g0 j) (g1 j) (g2 j) (g3 j) < 0)) = !(frP g0 g1 g2 g3 j) := (Bool.not_not _).symm
      cases hp : frP g0 g1 g2 g3 j
      all_goals rw [hp] at hp0
      all_goals simp only [Bool.not_true, Bool.not_false] at hp0
      all_goals
        repeat' (first
          | with_reducible exact rfl
          | exact True.intro
          | with_reducible assumption
          | (refine ⟨hlt, ?_⟩; show Next _ _ _ _; refine Next.mk (fun g => sndSH lo n lc g0 g1 g2 g3 pb pc (.int ((j + 1 : Nat) : Int)) g) _ ⟨_, _, _, allB_succ hall hp, rfl, rfl⟩ rfl (fun w hw => ((hw.sel [0, 1, 2, 5] (by simp)).recell 2 rfl [.sl 3 _ (j + 1) _, .il 0] rfl).re 3 _ rfl [fun i => .int (fr g0 g1 g2 g3 i)] ?_); refine ⟨fun i hi => ?_, trivial⟩)
          | (refine Next.mk (fun g => sndSR lo n lc g0 g1 g2 g3 pb pc g) _ (hr _ _ _ _ (allB_no hlt hp)) rfl fun w hw => hw.sel [0, 1, 2, 3] (by simp))
          | refine And.intro ?_ ?_
          | apply Exists.intro
          | (intro h; exfalso; simp [hp0] at h; done)
          | (intro h; replace h := of_decide_eq_true h; first | (exfalso; omega) | skip)
          | (intro h; replace h := of_decide_eq_false h; first | (exfalso; omega) | skip)
          | intro _
          | omega
          | (simp; omega))
      all_goals
        rename_i i hi
        have hi : i < j + 1 := hi
        simp only [SC.den]
        by_cases e : i < j
        · simp [e, fr]
        · have e2 : i = j := by omega
          subst e2
          simp [fr]
    · have hjn : j = n := by omega
      subst hjn
      repeat' (first
        | with_reducible exact rfl
        | exact True.intro
        | with_reducible assumption
        | (refine Next.mk (fun g => sndSH lo j lc g0 g1 g2 g3 pb pc (.int (j : Int)) g) _ (hk _ _ _ hall) rfl fun w hw => hw)
        | refine And.intro ?_ ?_
        | (intro h; exfalso; simp at h; done)
        | (intro h; exfalso; simp at h; omega)
        | intro _)
  · refine Next.mk (fun g => sndSH lo n lc g0 g1 g2 g3 pb pc (.int ((0 : Nat) : Int)) g) _ ⟨_, none, 0, allB_zero _, rfl, rfl⟩ h1 fun w hw => ?_
    exact (hw.addNil ⟨true, none, 3, 1, 0, 0, [fun i => .int (fr g0 g1 g2 g3 i)]⟩ rfl rfl rfl rfl rfl).recell 2 rfl [.sl 3 none 0 0, .il 0] rfl
end Go.Proofs.Ytkfinkolllpcgaa

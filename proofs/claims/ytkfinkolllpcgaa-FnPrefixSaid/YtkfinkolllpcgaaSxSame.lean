/-
  Lists of commands compared.
-/
import Derived.Test.YtkfinkolllpcgaaSxSnd
namespace Go.Proofs.Ytkfinkolllpcgaa
set_option linter.unusedVariables false
set_option linter.unusedSimpArgs false
open Go.RowKit
set_option maxRecDepth 100000
set_option maxHeartbeats 8000000

def smcH (ao bo : Option Addr) (n c d : Nat) (g0 g1 g2 g3 q0 q1 q2 q3 : Nat → Int) (i : SC) (g : Nat → Value) : List SV := [.a (.c (.sl 0 ao n c)), .a (.c (.sl 1 bo n d)), .a (.c (.val (g 2))), .a (.c (.val (g 3))), .a (.c (.val (g 4))), .a (.c i), .a (.c (.val (g 6))), .a (.c (.val (g 7))), .a (.c (.val (g 8))), .a (.c (.val (g 9))), .a (.c (.val (g 10))), .a (.c (.val (g 11))), .a (.c (.val (g 12))), .a (.c (.val (g 13))), .a (.c (.val (g 14))), .a (.c (.val (g 15))), .a (.c (.val (g 16))), .a (.c (.val (g 17))), .a (.c (.val (g 18))), .a (.c (.val (g 19))), .a (.c (.val (g 20))), .a (.c (.val (g 21))), .a (.c (.val (g 22))), .a (.c (.val (g 23))), .a (.c (.val (g 24))), .a (.c (.val (g 25)))]
def smcR (ao bo : Option Addr) (n c d : Nat) (g0 g1 g2 g3 q0 q1 q2 q3 : Nat → Int) (g : Nat → Value) : List SV := [.a (.c (.val (g 0))), .a (.c (.val (g 1))), .a (.c (.val (g 2))), .a (.c (.val (g 3))), .a (.c (.lit false)), .a (.c (.val (g 5))), .a (.c (.val (g 6))), .a (.c (.val (g 7))), .a (.c (.val (g 8))), .a (.c (.val (g 9))), .a (.c (.val (g 10))), .a (.c (.val (g 11))), .a (.c (.val (g 12))), .a (.c (.val (g 13))), .a (.c (.val (g 14))), .a (.c (.val (g 15))), .a (.c (.val (g 16))), .a (.c (.val (g 17))), .a (.c (.val (g 18))), .a (.c (.val (g 19))), .a (.c (.val (g 20))), .a (.c (.val (g 21))), .a (.c (.val (g 22))), .a (.c (.val (g 23))), .a (.c (.val (g 24))), .a (.c (.val (g 25)))]
def smcT (ao bo : Option Addr) (n c d : Nat) (g0 g1 g2 g3 q0 q1 q2 q3 : Nat → Int) : List Ch := [.row ⟨false, ao, 0, 4, n, 0, [fun i => .int (g0 i), fun i => .int (g1 i), fun i => .int (g2 i), fun i => .int (g3 i)]⟩, .row ⟨false, bo, 0, 4, n, 0, [fun i => .int (q0 i), fun i => .int (q1 i), fun i => .int (q2 i), fun i => .int (q3 i)]⟩]
def smcP (ao bo : Option Addr) (n c d : Nat) (g0 g1 g2 g3 q0 q1 q2 q3 : Nat → Int) (j : Nat) : Bool := andB (ieq (g0 j) (q0 j)) (andB (ieq (g1 j) (q1 j)) (andB (ieq (g2 j) (q2 j)) (andB (ieq (g3 j) (q3 j)) true)))
def ssmc (ao bo : Option Addr) (n c d : Nat) (g0 g1 g2 g3 q0 q1 q2 q3 : Nat → Int) : LSm := fun ts ch k =>
  (ts.map SV.den = (smcH ao bo n c d g0 g1 g2 g3 q0 q1 q2 q3 (.il 0) (fun d => (ts.getD d .undef).den)).map SV.den ∧ selC ch [0, 1] = smcT ao bo n c d g0 g1 g2 g3 q0 q1 q2 q3) ∧
    (∀ g, allB n (smcP ao bo n c d g0 g1 g2 g3 q0 q1 q2 q3) = true → k (.exit 0) (smcH ao bo n c d g0 g1 g2 g3 q0 q1 q2 q3 (.int (n : Int)) g) (smcT ao bo n c d g0 g1 g2 g3 q0 q1 q2 q3)) ∧ (∀ g, allB n (smcP ao bo n c d g0 g1 g2 g3 q0 q1 q2 q3) = false → k .ret (smcR ao bo n c d g0 g1 g2 g3 q0 q1 q2 q3 g) (smcT ao bo n c d g0 g1 g2 g3 q0 q1 q2 q3))
theorem smcB (ao bo : Option Addr) (n c d : Nat) (g0 g1 g2 g3 q0 q1 q2 q3 : Nat → Int) (j : Nat) (g : Nat → Value) (NX : List SV → List Ch → Prop) (kx : Exit → List SV → List Ch → Prop) : (exCode Try.prog {} 400 (theLoop Try.f25 0) (smcH ao bo n c d g0 g1 g2 g3 q0 q1 q2 q3 (.int (j : Int)) g) (smcT ao bo n c d g0 g1 g2 g3 q0 q1 q2 q3) (loopK NX kx)) = (
  (((decide (((j : Nat) : Int) < ((n : Nat) : Int))) = Bool.true →
  (ao = ao ∧
   (n = n ∧
   ((0 ≤ ((j : Nat) : Int) ∧ ((j : Nat) : Int) < ((n : Nat) : Int)) ∧
   (ao = ao ∧
   (j < n ∧
   (bo = bo ∧
   (n = n ∧
   ((0 ≤ ((j : Nat) : Int) ∧ ((j : Nat) : Int) < ((n : Nat) : Int)) ∧
   (bo = bo ∧
   (j < n ∧
   (((!(andB ((g0 j) == (q0 j)) (andB ((g1 j) == (q1 j)) (andB ((g2 j) == (q2 j)) (andB ((g3 j) == (q3 j)) Bool.true))))) = Bool.true →
   (kx Exit.ret [(SV.a (SA.c (SC.sl 0 ao n c))), (SV.a (SA.c (SC.sl 1 bo n d))), (SV.a (SA.c (SC.val (g 2)))), (SV.a (SA.c (SC.val (g 3)))), (SV.a (SA.c (SC.lit Bool.false))), (SV.a (SA.c (SC.int ((j : Nat) : Int)))), (SV.a (SA.c (SC.val (g 6)))), (SV.a (SA.c (SC.val (g 7)))), (SV.a (SA.c (SC.val (g 8)))), (SV.a (SA.c (SC.val (g 9)))), (SV.a (SA.c (SC.val (g 10)))), (SV.a (SA.c (SC.int ((j : Nat) : Int)))), (SV.a (SA.c (SC.sl 0 ao n c))), (SV.a (SA.c (SC.int ((n : Nat) : Int)))), (SV.a (SA.c (SC.lit Bool.true))), (SV.a (SA.c (SC.val (g 15)))), (SV.a (SA.c (SC.val (g 16)))), (SV.a (SA.c (SC.sl 0 ao n c))), (SV.a (SA.c (SC.int ((j : Nat) : Int)))), (SV.a (SA.c (SC.rptr 0 ao 4 j 0))), (SV.a (SA.agg [(SC.int (g0 j)), (SC.int (g1 j)), (SC.int (g2 j)), (SC.int (g3 j))])), (SV.a (SA.c (SC.sl 1 bo n d))), (SV.a (SA.c (SC.int ((j : Nat) : Int)))), (SV.a (SA.c (SC.rptr 1 bo 4 j 0))), (SV.a (SA.agg [(SC.int (q0 j)), (SC.int (q1 j)), (SC.int (q2 j)), (SC.int (q3 j))])), (SV.a (SA.c (SC.lit Bool.true)))] [(Ch.row (Row.mk Bool.false ao 0 4 n 0 [(fun (i0 : Nat) => (SC.int (g0 i0))), (fun (i1 : Nat) => (SC.int (g1 i1))), (fun (i2 : Nat) => (SC.int (g2 i2))), (fun (i3 : Nat) => (SC.int (g3 i3)))])), (Ch.row (Row.mk Bool.false bo 0 4 n 0 [(fun (i4 : Nat) => (SC.int (q0 i4))), (fun (i5 : Nat) => (SC.int (q1 i5))), (fun (i6 : Nat) => (SC.int (q2 i6))), (fun (i7 : Nat) => (SC.int (q3 i7)))]))])) ∧
   ((!(andB ((g0 j) == (q0 j)) (andB ((g1 j) == (q1 j)) (andB ((g2 j) == (q2 j)) (andB ((g3 j) == (q3 j)) Bool.true))))) = Bool.false →
   ((rng (((j : Nat) : Int) + (1 : Int))) ∧
    (NX [(SV.a (SA.c (SC.sl 0 ao n c))), (SV.a (SA.c (SC.sl 1 bo n d))), (SV.a (SA.c (SC.val (g 2)))), (SV.a (SA.c (SC.val (g 3)))), (SV.a (SA.c (SC.val (g 4)))), (SV.a (SA.c (SC.int (((j : Nat) : Int) + (1 : Int))))), (SV.a (SA.c (SC.val (g 6)))), (SV.a (SA.c (SC.val (g 7)))), (SV.a (SA.c (SC.val (g 8)))), (SV.a (SA.c (SC.val (g 9)))), (SV.a (SA.c (SC.val (g 10)))), (SV.a (SA.c (SC.int ((j : Nat) : Int)))), (SV.a (SA.c (SC.sl 0 ao n c))), (SV.a (SA.c (SC.int ((n : Nat) : Int)))), (SV.a (SA.c (SC.lit Bool.true))), (SV.a (SA.c (SC.int ((j : Nat) : Int)))), (SV.a (SA.c (SC.int (((j : Nat) : Int) + (1 : Int))))), (SV.a (SA.c (SC.sl 0 ao n c))), (SV.a (SA.c (SC.int ((j : Nat) : Int)))), (SV.a (SA.c (SC.rptr 0 ao 4 j 0))), (SV.a (SA.agg [(SC.int (g0 j)), (SC.int (g1 j)), (SC.int (g2 j)), (SC.int (g3 j))])), (SV.a (SA.c (SC.sl 1 bo n d))), (SV.a (SA.c (SC.int ((j : Nat) : Int)))), (SV.a (SA.c (SC.rptr 1 bo 4 j 0))), (SV.a (SA.agg [(SC.int (q0 j)), (SC.int (q1 j)), (SC.int (q2 j)), (SC.int (q3 j))])), (SV.a (SA.c (SC.lit Bool.false)))] [(Ch.row (Row.mk Bool.false ao 0 4 n 0 [(fun (i8 : Nat) => (SC.int (g0 i8))), (fun (i9 : Nat) => (SC.int (g1 i9))), (fun (i10 : Nat) => (SC.int (g2 i10))), (fun (i11 : Nat) => (SC.int (g3 i11)))])), (Ch.row (Row.mk Bool.false bo 0 4 n 0 [(fun (i12 : Nat) => (SC.int (q0 i12))), (fun (i13 : Nat) => (SC.int (q1 i13))), (fun (i14 : Nat) => (SC.int (q2 i14))), (fun (i15 : Nat) => (SC.int (q3 i15)))]))]))))))))))))))) ∧
  ((decide (((j : Nat) : Int) < ((n : Nat) : Int))) = Bool.false →
  (kx (Exit.exit 0) [(SV.a (SA.c (SC.sl 0 ao n c))), (SV.a (SA.c (SC.sl 1 bo n d))), (SV.a (SA.c (SC.val (g 2)))), (SV.a (SA.c (SC.val (g 3)))), (SV.a (SA.c (SC.val (g 4)))), (SV.a (SA.c (SC.int ((j : Nat) : Int)))), (SV.a (SA.c (SC.val (g 6)))), (SV.a (SA.c (SC.val (g 7)))), (SV.a (SA.c (SC.val (g 8)))), (SV.a (SA.c (SC.val (g 9)))), (SV.a (SA.c (SC.val (g 10)))), (SV.a (SA.c (SC.int ((j : Nat) : Int)))), (SV.a (SA.c (SC.sl 0 ao n c))), (SV.a (SA.c (SC.int ((n : Nat) : Int)))), (SV.a (SA.c (SC.lit Bool.false))), (SV.a (SA.c (SC.val (g 15)))), (SV.a (SA.c (SC.val (g 16)))), (SV.a (SA.c (SC.val (g 17)))), (SV.a (SA.c (SC.val (g 18)))), (SV.a (SA.c (SC.val (g 19)))), (SV.a (SA.c (SC.val (g 20)))), (SV.a (SA.c (SC.val (g 21)))), (SV.a (SA.c (SC.val (g 22)))), (SV.a (SA.c (SC.val (g 23)))), (SV.a (SA.c (SC.val (g 24)))), (SV.a (SA.c (SC.val (g 25))))] [(Ch.row (Row.mk Bool.false ao 0 4 n 0 [(fun (i16 : Nat) => (SC.int (g0 i16))), (fun (i17 : Nat) => (SC.int (g1 i17))), (fun (i18 : Nat) => (SC.int (g2 i18))), (fun (i19 : Nat) => (SC.int (g3 i19)))])), (Ch.row (Row.mk Bool.false bo 0 4 n 0 [(fun (i20 : Nat) => (SC.int (q0 i20))), (fun (i21 : Nat) => (SC.int (q1 i21))), (fun (i22 : Nat) => (SC.int (q2 i22))), (fun (i23 : Nat) => (SC.int (q3 i23)))]))])))) := by kernel_rfl
theorem smc_ok (ao bo : Option Addr) (n c d : Nat) (g0 g1 g2 g3 q0 q1 q2 q3 : Nat → Int) (hn : n ≤ 9223372036854775807) (X : Cx) : LoopOK Try.prog X (theLoop Try.f25 0) (ssmc ao bo n c d g0 g1 g2 g3 q0 q1 q2 q3) := by
  intro ts ch k a w hS hT hd hs
  obtain ⟨⟨h1, hch⟩, hk, hr⟩ := hS
  refine loop_ok mixed (E := {}) trivial (loopsOK_nil _ _ _) 400 n (fun j ts ch => ∃ g, allB j (smcP ao bo n c d g0 g1 g2 g3 q0 q1 q2 q3) = true ∧ ts = smcH ao bo n c d g0 g1 g2 g3 q0 q1 q2 q3 (.int (j : Int)) g ∧ ch = smcT ao bo n c d g0 g1 g2 g3 q0 q1 q2 q3) ?_ ?_ hT hd hs
  · rintro j _ _ ⟨g, hall, rfl, rfl⟩ hj
    refine (@Eq.mpr _ _ (smcB ao bo n c d g0 g1 g2 g3 q0 q1 q2 q3 j g _ _) ?_)
    by_cases hlt : j < n
    · have hjn : (0 : Int) ≤ (j : Int) ∧ (j : Int) < (n : Int) := ⟨by omega, by omega⟩
      cases hp : smcP ao bo n c d g0 g1 g2 g3 q0 q1 q2 q3 j
      all_goals simp only [smcP] at hp
      all_goals
        repeat' (first
          | with_reducible exact rfl
          | exact True.intro
          | with_reducible assumption
          | (refine ⟨hlt, ?_⟩; show Next _ _ _ _; refine Next.mk (fun g => smcH ao bo n c d g0 g1 g2 g3 q0 q1 q2 q3 (.int ((j + 1 : Nat) : Int)) g) _ ⟨_, allB_succ hall (by simp only [smcP]; exact hp), rfl, rfl⟩ rfl fun w hw => hw.sel [0, 1] (by simp))
          | (refine Next.mk (fun g => smcR ao bo n c d g0 g1 g2 g3 q0 q1 q2 q3 g) _ (hr _ (allB_no hlt (by simp only [smcP]; exact hp))) rfl fun w hw => hw.sel [0, 1] (by simp))
          | refine And.intro ?_ ?_
          | (intro h; exfalso; simp at h; omega)
          | (intro h; exfalso; simp [h] at hp; done)
          | (intro h; exfalso; rw [hp] at h; simp at h; done)
          | intro _
          | omega)
        all_goals (exfalso; simp_all; done)
    · have hjn : n = j := by omega
      subst hjn
      repeat' (first
        | (refine Next.mk (fun g => smcH ao bo n c d g0 g1 g2 g3 q0 q1 q2 q3 (.int (n : Int)) g) _ (hk _ hall) rfl fun w hw => hw.sel [0, 1] (by simp))
        | refine And.intro ?_ ?_
        | (intro h; exfalso; simp at h; done)
        | (intro h; exfalso; simp at h; omega)
        | intro _)
  · refine Next.mk (fun g => smcH ao bo n c d g0 g1 g2 g3 q0 q1 q2 q3 (.int ((0 : Nat) : Int)) g) _ ⟨_, allB_zero _, rfl, rfl⟩ h1 fun w hw => ?_
    rw [← hch]
    exact hw.sel [0, 1] (by simp)
def sameB (n : Nat) (g0 g1 g2 g3 : Nat → Int) (m : Nat) (q0 q1 q2 q3 : Nat → Int) : Bool := if n = m then allB n (fun j => (g0 j == q0 j) && ((g1 j == q1 j) && ((g2 j == q2 j) && ((g3 j == q3 j) && true)))) else false
theorem same_T (ao bo : Option Addr) (n c d : Nat) (g0 g1 g2 g3 q0 q1 q2 q3 : Nat → Int) : (exFn Try.prog { L := [(4, ssmc ao bo n c d g0 g1 g2 g3 q0 q1 q2 q3)] } 400 Try.f25 ([.a (.c (.sl 0 ao n c)), .a (.c (.sl 1 bo n d))]) ([.row ⟨false, ao, 0, 4, n, 0, [fun i => .int (g0 i), fun i => .int (g1 i), fun i => .int (g2 i), fun i => .int (g3 i)]⟩, .row ⟨false, bo, 0, 4, n, 0, [fun i => .int (q0 i), fun i => .int (q1 i), fun i => .int (q2 i), fun i => .int (q3 i)]⟩]) (fun v _ => v.den = .bool (sameB n g0 g1 g2 g3 n q0 q1 q2 q3))) = (
  (((((n : Nat) : Int) != ((n : Nat) : Int)) = Bool.true →
  (Value.bool Bool.false) = (Value.bool (sameB n g0 g1 g2 g3 n q0 q1 q2 q3))) ∧
  ((((n : Nat) : Int) != ((n : Nat) : Int)) = Bool.false →
  (([(Value.slice ao n c), (Value.slice bo n d), (Value.tuple (List.toArray [])), (Value.tuple (List.toArray [])), (Value.bool Bool.false), (Value.int IntKind.i64 (0 : Int)), (Value.slice ao n c), (Value.int IntKind.i64 ((n : Nat) : Int)), (Value.slice bo n d), (Value.int IntKind.i64 ((n : Nat) : Int)), (Value.bool Bool.false), (Value.tuple (List.toArray [])), (Value.tuple (List.toArray [])), (Value.tuple (List.toArray [])), (Value.tuple (List.toArray [])), (Value.tuple (List.toArray [])), (Value.tuple (List.toArray [])), (Value.tuple (List.toArray [])), (Value.tuple (List.toArray [])), (Value.tuple (List.toArray [])), (Value.tuple (List.toArray [])), (Value.tuple (List.toArray [])), (Value.tuple (List.toArray [])), (Value.tuple (List.toArray [])), (Value.tuple (List.toArray [])), (Value.tuple (List.toArray []))] = [(Value.slice ao n c), (Value.slice bo n d), (Value.tuple (List.toArray [])), (Value.tuple (List.toArray [])), (Value.bool Bool.false), (Value.int IntKind.i64 (0 : Int)), (Value.slice ao n c), (Value.int IntKind.i64 ((n : Nat) : Int)), (Value.slice bo n d), (Value.int IntKind.i64 ((n : Nat) : Int)), (Value.bool Bool.false), (Value.tuple (List.toArray [])), (Value.tuple (List.toArray [])), (Value.tuple (List.toArray [])), (Value.tuple (List.toArray [])), (Value.tuple (List.toArray [])), (Value.tuple (List.toArray [])), (Value.tuple (List.toArray [])), (Value.tuple (List.toArray [])), (Value.tuple (List.toArray [])), (Value.tuple (List.toArray [])), (Value.tuple (List.toArray [])), (Value.tuple (List.toArray [])), (Value.tuple (List.toArray [])), (Value.tuple (List.toArray [])), (Value.tuple (List.toArray []))] ∧
   [(Ch.row (Row.mk Bool.false ao 0 4 n 0 [(fun (i0 : Nat) => (SC.int (g0 i0))), (fun (i1 : Nat) => (SC.int (g1 i1))), (fun (i2 : Nat) => (SC.int (g2 i2))), (fun (i3 : Nat) => (SC.int (g3 i3)))])), (Ch.row (Row.mk Bool.false bo 0 4 n 0 [(fun (i4 : Nat) => (SC.int (q0 i4))), (fun (i5 : Nat) => (SC.int (q1 i5))), (fun (i6 : Nat) => (SC.int (q2 i6))), (fun (i7 : Nat) => (SC.int (q3 i7)))]))] = [(Ch.row (Row.mk Bool.false ao 0 4 n 0 [(fun (i8 : Nat) => (SC.int (g0 i8))), (fun (i9 : Nat) => (SC.int (g1 i9))), (fun (i10 : Nat) => (SC.int (g2 i10))), (fun (i11 : Nat) => (SC.int (g3 i11)))])), (Ch.row (Row.mk Bool.false bo 0 4 n 0 [(fun (i12 : Nat) => (SC.int (q0 i12))), (fun (i13 : Nat) => (SC.int (q1 i13))), (fun (i14 : Nat) => (SC.int (q2 i14))), (fun (i15 : Nat) => (SC.int (q3 i15)))]))]) ∧
   ((∀ g16 : (Nat →
   Value),
   ((allB n (smcP ao bo n c d g0 g1 g2 g3 q0 q1 q2 q3)) = Bool.true →
   (Value.bool Bool.true) = (Value.bool (sameB n g0 g1 g2 g3 n q0 q1 q2 q3)))) ∧
   (∀ g17 : (Nat →
   Value),
   ((allB n (smcP ao bo n c d g0 g1 g2 g3 q0 q1 q2 q3)) = Bool.false →
   (Value.bool Bool.false) = (Value.bool (sameB n g0 g1 g2 g3 n q0 q1 q2 q3))))))))) := by kernel_rfl
theorem same_eq (ao bo : Option Addr) (n c d : Nat) (g0 g1 g2 g3 q0 q1 q2 q3 : Nat → Int) (w : World) (h1 : Row.sat w ⟨false, ao, 0, 4, n, 0, [fun i => .int (g0 i), fun i => .int (g1 i), fun i => .int (g2 i), fun i => .int (g3 i)]⟩) (h2 : Row.sat w ⟨false, bo, 0, 4, n, 0, [fun i => .int (q0 i), fun i => .int (q1 i), fun i => .int (q2 i), fun i => .int (q3 i)]⟩) (hn : n ≤ 9223372036854775807) : Calls Try.prog 25 #[.slice ao n c, .slice bo n d] w fun e w' => e = .returned (.bool (sameB n g0 g1 g2 g3 n q0 q1 q2 q3)) ∧ Below w.heap.size w w' := by
  refine fn_ok mixed (E := { L := [(4, ssmc ao bo n c d g0 g1 g2 g3 q0 q1 q2 q3)] }) trivial Try.func25 (one_loop (by kernel_rfl) (by kernel_rfl) (smc_ok ao bo n c d g0 g1 g2 g3 q0 q1 q2 q3 hn _)) (@Eq.mpr _ _ (same_T ao bo n c d g0 g1 g2 g3 q0 q1 q2 q3) ?_) (HS.rows (fun _ => False) [⟨false, ao, 0, 4, n, 0, [fun i => .int (g0 i), fun i => .int (g1 i), fun i => .int (g2 i), fun i => .int (g3 i)]⟩, ⟨false, bo, 0, 4, n, 0, [fun i => .int (q0 i), fun i => .int (q1 i), fun i => .int (q2 i), fun i => .int (q3 i)]⟩] (by simp; exact ⟨h1, h2⟩)) (fun v ch' w' hv hs => ⟨by rw [hv], hs.below⟩)
  clear h1 h2
  have e : sameB n g0 g1 g2 g3 n q0 q1 q2 q3 = allB n (smcP ao bo n c d g0 g1 g2 g3 q0 q1 q2 q3) := by simp only [sameB, if_pos]; rfl
  rw [e]
  refine ⟨fun h => ?_, fun h => ?_⟩
  all_goals first | (exfalso; simp at h; done) | skip
  all_goals repeat' (first
    | with_reducible exact rfl
    | exact True.intro
    | with_reducible assumption
    | refine And.intro ?_ ?_
    | (intro g h; rw [h])
    | intro _)
abbrev neN (n m : Nat) : Prop := (n : Int) ≠ (m : Int)
theorem samE_T (ao bo : Option Addr) (n c m d : Nat) (g0 g1 g2 g3 q0 q1 q2 q3 : Nat → Int) : (exFn Try.prog { L := [(4, fun _ _ _ => False)] } 400 Try.f25 ([.a (.c (.sl 0 ao n c)), .a (.c (.sl 1 bo m d))]) ([.row ⟨false, ao, 0, 4, n, 0, [fun i => .int (g0 i), fun i => .int (g1 i), fun i => .int (g2 i), fun i => .int (g3 i)]⟩, .row ⟨false, bo, 0, 4, m, 0, [fun i => .int (q0 i), fun i => .int (q1 i), fun i => .int (q2 i), fun i => .int (q3 i)]⟩]) (fun v _ => v.den = .bool false)) = (
  (((((n : Nat) : Int) != ((m : Nat) : Int)) = Bool.true →
  (Value.bool Bool.false) = (Value.bool Bool.false)) ∧
  ((((n : Nat) : Int) != ((m : Nat) : Int)) = Bool.false →
  False))) := by kernel_rfl
theorem same_ne (ao bo : Option Addr) (n c m d : Nat) (g0 g1 g2 g3 q0 q1 q2 q3 : Nat → Int) (w : World) (h1 : Row.sat w ⟨false, ao, 0, 4, n, 0, [fun i => .int (g0 i), fun i => .int (g1 i), fun i => .int (g2 i), fun i => .int (g3 i)]⟩) (h2 : Row.sat w ⟨false, bo, 0, 4, m, 0, [fun i => .int (q0 i), fun i => .int (q1 i), fun i => .int (q2 i), fun i => .int (q3 i)]⟩) (hne : n ≠ m) : Calls Try.prog 25 #[.slice ao n c, .slice bo m d] w fun e w' => e = .returned (.bool false) ∧ Below w.heap.size w w' := by
  refine fn_ok mixed (E := { L := [(4, fun _ _ _ => False)] }) trivial Try.func25 (one_loop (by kernel_rfl) (by kernel_rfl) (fun _ _ _ _ _ h => h.elim)) (@Eq.mpr _ _ (samE_T ao bo n c m d g0 g1 g2 g3 q0 q1 q2 q3) ?_) (HS.rows (fun _ => False) [⟨false, ao, 0, 4, n, 0, [fun i => .int (g0 i), fun i => .int (g1 i), fun i => .int (g2 i), fun i => .int (g3 i)]⟩, ⟨false, bo, 0, 4, m, 0, [fun i => .int (q0 i), fun i => .int (q1 i), fun i => .int (q2 i), fun i => .int (q3 i)]⟩] (by simp; exact ⟨h1, h2⟩)) (fun v ch' w' hv hs => ⟨by rw [hv], hs.below⟩)
  clear h1 h2
  refine ⟨fun h => rfl, fun h => ?_⟩
  simp at h
  omega
theorem same_any (ao bo : Option Addr) (n c m d : Nat) (g0 g1 g2 g3 q0 q1 q2 q3 : Nat → Int) (w : World) (h1 : Row.sat w ⟨false, ao, 0, 4, n, 0, [fun i => .int (g0 i), fun i => .int (g1 i), fun i => .int (g2 i), fun i => .int (g3 i)]⟩) (h2 : Row.sat w ⟨false, bo, 0, 4, m, 0, [fun i => .int (q0 i), fun i => .int (q1 i), fun i => .int (q2 i), fun i => .int (q3 i)]⟩) (hn : n ≤ 9223372036854775807) : Calls Try.prog 25 #[.slice ao n c, .slice bo m d] w fun e w' => e = .returned (.bool (sameB n g0 g1 g2 g3 m q0 q1 q2 q3)) ∧ Below w.heap.size w w' := by
  by_cases h : n = m
  · subst h
    exact same_eq ao bo n c d g0 g1 g2 g3 q0 q1 q2 q3 w h1 h2 hn
  · have e : sameB n g0 g1 g2 g3 m q0 q1 q2 q3 = false := by simp only [sameB, if_neg h]
    rw [e]
    exact same_ne ao bo n c m d g0 g1 g2 g3 q0 q1 q2 q3 w h1 h2 h
def sSameC : Sm := fun args ch k =>
  match args with
  | [.a (.c x), .a (.c y)] => rd4 ch x fun n g0 g1 g2 g3 => rd4 ch y fun m q0 q1 q2 q3 => lenC n ∧ k (.a (.c (.bool (sameB n g0 g1 g2 g3 m q0 q1 q2 q3)))) ch []
  | _ => False
theorem sSameC_ok : SmOK Try.prog 25 sSameC := by
  refine smB Try.call25 fun args ch k w X h0 hs => ?_
  unfold sSameC at h0
  split at h0
  · obtain ⟨ao, n, c, g0, g1, g2, g3, em, hr, h0⟩ := rd4_ok h0 hs
    obtain ⟨bo, m, d, q0, q1, q2, q3, em2, hr2, hn, h0⟩ := rd4_ok h0 hs
    refine ⟨_, h0, ?_⟩
    simp only [List.map_cons, List.map_nil, den_a, den_c, em, em2]
    exact same_any ao bo n c m d g0 g1 g2 g3 q0 q1 q2 q3 w hr hr2 hn
  · exact h0.elim
theorem same_yes {n : Nat} {g0 g1 g2 g3 q0 q1 q2 q3 : Nat → Int} (h : ∀ i, i < n → g0 i = q0 i ∧ g1 i = q1 i ∧ g2 i = q2 i ∧ g3 i = q3 i) : sameB n g0 g1 g2 g3 n q0 q1 q2 q3 = true := by
  simp only [sameB, if_pos, allB, List.all_eq_true, List.mem_range]
  intro i hi
  obtain ⟨h0, h1, h2, h3⟩ := h i hi
  simp [h0, h1, h2, h3]
end Go.Proofs.Ytkfinkolllpcgaa

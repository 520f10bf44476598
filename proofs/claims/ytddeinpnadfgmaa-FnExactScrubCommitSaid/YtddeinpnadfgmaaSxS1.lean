/-
  Lists compared.
-/
import Derived.Test.YtddeinpnadfgmaaSxM1
namespace Go.Proofs.Ytddeinpnadfgmaa
set_option linter.unusedVariables false
set_option linter.unusedSimpArgs false
open Go.RowKit
set_option maxRecDepth 100000
set_option maxHeartbeats 8000000

def eqSB (n : Nat) (f : Nat → Int) (m : Nat) (h : Nat → Int) : Bool := ieq (n : Int) (m : Int) && allB n (fun j => ieq (f j) (h j))
def eqiH (ao bo : Option Addr) (n c d : Nat) (f h : Nat → Int) (i : SC) (g : Nat → Value) : List SV := [.a (.c (.sl 0 ao n c)), .a (.c (.sl 1 bo n d)), .a (.c (.val (g 2))), .a (.c (.val (g 3))), .a (.c (.val (g 4))), .a (.c (.val (g 5))), .a (.c (.val (g 6))), .a (.c (.val (g 7))), .a (.c (.val (g 8))), .a (.c (.val (g 9))), .a (.c (.val (g 10))), .a (.c (.val (g 11))), .a (.c (.int (n : Int))), .a (.c i), .a (.c (.val (g 14))), .a (.c (.val (g 15))), .a (.c (.val (g 16))), .a (.c (.val (g 17))), .a (.c (.val (g 18))), .a (.c (.val (g 19))), .a (.c (.val (g 20))), .a (.c (.val (g 21))), .a (.c (.val (g 22))), .a (.c (.val (g 23))), .a (.c (.val (g 24))), .a (.c (.val (g 25)))]
def eqiR (ao bo : Option Addr) (n c d : Nat) (f h : Nat → Int) (g : Nat → Value) : List SV := [.a (.c (.val (g 0))), .a (.c (.val (g 1))), .a (.c (.val (g 2))), .a (.c (.val (g 3))), .a (.c (.lit false)), .a (.c (.val (g 5))), .a (.c (.val (g 6))), .a (.c (.val (g 7))), .a (.c (.val (g 8))), .a (.c (.val (g 9))), .a (.c (.val (g 10))), .a (.c (.val (g 11))), .a (.c (.val (g 12))), .a (.c (.val (g 13))), .a (.c (.val (g 14))), .a (.c (.val (g 15))), .a (.c (.val (g 16))), .a (.c (.val (g 17))), .a (.c (.val (g 18))), .a (.c (.val (g 19))), .a (.c (.val (g 20))), .a (.c (.val (g 21))), .a (.c (.val (g 22))), .a (.c (.val (g 23))), .a (.c (.val (g 24))), .a (.c (.val (g 25)))]
def eqiT (ao bo : Option Addr) (n c d : Nat) (f h : Nat → Int) : List Ch := [.row ⟨false, ao, 0, 1, n, 0, [fun i => .int (f i)]⟩, .row ⟨false, bo, 0, 1, n, 0, [fun i => .int (h i)]⟩]
def eqiP (ao bo : Option Addr) (n c d : Nat) (f h : Nat → Int) (j : Nat) : Bool := ieq (f j) (h j)
def seqi (ao bo : Option Addr) (n c d : Nat) (f h : Nat → Int) : LSm := fun ts ch k =>
  (ts.map SV.den = (eqiH ao bo n c d f h (.il 0) (fun d => (ts.getD d .undef).den)).map SV.den ∧ selC ch [0, 1] = eqiT ao bo n c d f h) ∧
    (∀ g, allB n (eqiP ao bo n c d f h) = true → k (.exit 0) (eqiH ao bo n c d f h (.int (n : Int)) g) (eqiT ao bo n c d f h)) ∧ (∀ g, allB n (eqiP ao bo n c d f h) = false → k .ret (eqiR ao bo n c d f h g) (eqiT ao bo n c d f h))
theorem eqiB (ao bo : Option Addr) (n c d : Nat) (f h : Nat → Int) (j : Nat) (g : Nat → Value) (NX : List SV → List Ch → Prop) (kx : Exit → List SV → List Ch → Prop) : (exCode Try.prog {} 400 (theLoop Try.f70 0) (eqiH ao bo n c d f h (.int (j : Int)) g) (eqiT ao bo n c d f h) (loopK NX kx)) = (
  (((decide (((j : Nat) : Int) < ((n : Nat) : Int))) = Bool.true →
 (ao = ao ∧
 (n = n ∧
 ((0 ≤ ((j : Nat) : Int) ∧ ((j : Nat) : Int) < ((n : Nat) : Int)) ∧
 (ao = ao ∧
 (j < n ∧
 (bo = bo ∧
 (n = n ∧
 ((0 ≤ ((j : Nat) : Int) ∧ ((j : Nat) : Int) < ((n : Nat) : Int)) ∧
 (bo = bo ∧
 (j < n ∧
 ((((f j) != (h j)) = Bool.true →
 (kx Exit.ret [(SV.a (SA.c (SC.sl 0 ao n c))), (SV.a (SA.c (SC.sl 1 bo n d))), (SV.a (SA.c (SC.val (g 2)))), (SV.a (SA.c (SC.val (g 3)))), (SV.a (SA.c (SC.lit Bool.false))), (SV.a (SA.c (SC.int ((j : Nat) : Int)))), (SV.a (SA.c (SC.val (g 6)))), (SV.a (SA.c (SC.val (g 7)))), (SV.a (SA.c (SC.val (g 8)))), (SV.a (SA.c (SC.val (g 9)))), (SV.a (SA.c (SC.val (g 10)))), (SV.a (SA.c (SC.val (g 11)))), (SV.a (SA.c (SC.int ((n : Nat) : Int)))), (SV.a (SA.c (SC.int ((j : Nat) : Int)))), (SV.a (SA.c (SC.lit Bool.true))), (SV.a (SA.c (SC.int ((j : Nat) : Int)))), (SV.a (SA.c (SC.sl 0 ao n c))), (SV.a (SA.c (SC.int ((j : Nat) : Int)))), (SV.a (SA.c (SC.rptr 0 ao 1 j 0))), (SV.a (SA.c (SC.int (f j)))), (SV.a (SA.c (SC.sl 1 bo n d))), (SV.a (SA.c (SC.int ((j : Nat) : Int)))), (SV.a (SA.c (SC.rptr 1 bo 1 j 0))), (SV.a (SA.c (SC.int (h j)))), (SV.a (SA.c (SC.lit Bool.true))), (SV.a (SA.c (SC.val (g 25))))] [(Ch.row (Row.mk Bool.false ao 0 1 n 0 [(fun (i0 : Nat) => (SC.int (f i0)))])), (Ch.row (Row.mk Bool.false bo 0 1 n 0 [(fun (i1 : Nat) => (SC.int (h i1)))]))])) ∧
 (((f j) != (h j)) = Bool.false →
 ((rng (((j : Nat) : Int) + (1 : Int))) ∧
 (NX [(SV.a (SA.c (SC.sl 0 ao n c))), (SV.a (SA.c (SC.sl 1 bo n d))), (SV.a (SA.c (SC.val (g 2)))), (SV.a (SA.c (SC.val (g 3)))), (SV.a (SA.c (SC.val (g 4)))), (SV.a (SA.c (SC.int ((j : Nat) : Int)))), (SV.a (SA.c (SC.val (g 6)))), (SV.a (SA.c (SC.val (g 7)))), (SV.a (SA.c (SC.val (g 8)))), (SV.a (SA.c (SC.val (g 9)))), (SV.a (SA.c (SC.val (g 10)))), (SV.a (SA.c (SC.val (g 11)))), (SV.a (SA.c (SC.int ((n : Nat) : Int)))), (SV.a (SA.c (SC.int (((j : Nat) : Int) + (1 : Int))))), (SV.a (SA.c (SC.lit Bool.true))), (SV.a (SA.c (SC.int ((j : Nat) : Int)))), (SV.a (SA.c (SC.sl 0 ao n c))), (SV.a (SA.c (SC.int ((j : Nat) : Int)))), (SV.a (SA.c (SC.rptr 0 ao 1 j 0))), (SV.a (SA.c (SC.int (f j)))), (SV.a (SA.c (SC.sl 1 bo n d))), (SV.a (SA.c (SC.int ((j : Nat) : Int)))), (SV.a (SA.c (SC.rptr 1 bo 1 j 0))), (SV.a (SA.c (SC.int (h j)))), (SV.a (SA.c (SC.lit Bool.false))), (SV.a (SA.c (SC.int (((j : Nat) : Int) + (1 : Int)))))] [(Ch.row (Row.mk Bool.false ao 0 1 n 0 [(fun (i2 : Nat) => (SC.int (f i2)))])), (Ch.row (Row.mk Bool.false bo 0 1 n 0 [(fun (i3 : Nat) => (SC.int (h i3)))]))]))))))))))))))) ∧
 ((decide (((j : Nat) : Int) < ((n : Nat) : Int))) = Bool.false →
 (kx (Exit.exit 0) [(SV.a (SA.c (SC.sl 0 ao n c))), (SV.a (SA.c (SC.sl 1 bo n d))), (SV.a (SA.c (SC.val (g 2)))), (SV.a (SA.c (SC.val (g 3)))), (SV.a (SA.c (SC.val (g 4)))), (SV.a (SA.c (SC.val (g 5)))), (SV.a (SA.c (SC.val (g 6)))), (SV.a (SA.c (SC.val (g 7)))), (SV.a (SA.c (SC.val (g 8)))), (SV.a (SA.c (SC.val (g 9)))), (SV.a (SA.c (SC.val (g 10)))), (SV.a (SA.c (SC.val (g 11)))), (SV.a (SA.c (SC.int ((n : Nat) : Int)))), (SV.a (SA.c (SC.int ((j : Nat) : Int)))), (SV.a (SA.c (SC.lit Bool.false))), (SV.a (SA.c (SC.val (g 15)))), (SV.a (SA.c (SC.val (g 16)))), (SV.a (SA.c (SC.val (g 17)))), (SV.a (SA.c (SC.val (g 18)))), (SV.a (SA.c (SC.val (g 19)))), (SV.a (SA.c (SC.val (g 20)))), (SV.a (SA.c (SC.val (g 21)))), (SV.a (SA.c (SC.val (g 22)))), (SV.a (SA.c (SC.val (g 23)))), (SV.a (SA.c (SC.val (g 24)))), (SV.a (SA.c (SC.val (g 25))))] [(Ch.row (Row.mk Bool.false ao 0 1 n 0 [(fun (i4 : Nat) => (SC.int (f i4)))])), (Ch.row (Row.mk Bool.false bo 0 1 n 0 [(fun (i5 : Nat) => (SC.int (h i5)))]))])))) := by kernel_rfl
theorem eqi_ok (ao bo : Option Addr) (n c d : Nat) (f h : Nat → Int) (hn : n ≤ 9223372036854775807) (X : Cx) : LoopOK Try.prog X (theLoop Try.f70 0) (seqi ao bo n c d f h) := by
  intro ts ch k a w hS hT hd hs
  obtain ⟨⟨h1, hch⟩, hk, hr⟩ := hS
  refine loop_ok mixed (E := {}) trivial (loopsOK_nil _ _ _) 400 n (fun j ts ch => ∃ g, allB j (eqiP ao bo n c d f h) = true ∧ ts = eqiH ao bo n c d f h (.int (j : Int)) g ∧ ch = eqiT ao bo n c d f h) ?_ ?_ hT hd hs
  · rintro j _ _ ⟨g, hall, rfl, rfl⟩ hj
    refine (@Eq.mpr _ _ (eqiB ao bo n c d f h j g _ _) ?_)
    by_cases hlt : j < n
    · have hjn : (0 : Int) ≤ (j : Int) ∧ (j : Int) < (n : Int) := ⟨by omega, by omega⟩
      cases hp : eqiP ao bo n c d f h j
      all_goals simp only [eqiP] at hp
      all_goals
        repeat' (first
          | with_reducible exact rfl
          | exact True.intro
          | with_reducible assumption
          | (refine ⟨hlt, ?_⟩; show Next _ _ _ _; refine Next.mk (fun g => eqiH ao bo n c d f h (.int ((j + 1 : Nat) : Int)) g) _ ⟨_, allB_succ hall (by simp only [eqiP]; exact hp), rfl, rfl⟩ rfl fun w hw => hw.sel [0, 1] (by simp))
          | (refine Next.mk (fun g => eqiR ao bo n c d f h g) _ (hr _ (allB_no hlt (by simp only [eqiP]; exact hp))) rfl fun w hw => hw.sel [0, 1] (by simp))
          | refine And.intro ?_ ?_
          | (intro h; exfalso; simp at h; omega)
          | (intro h; exfalso; simp [h] at hp; done)
          | (intro h; exfalso; simp [ieq] at hp; simp [hp] at h; done)
          | intro _
          | omega)
        all_goals (exfalso; simp_all; done)
    · have hjn : n = j := by omega
      subst hjn
      repeat' (first
        | with_reducible exact rfl
        | exact True.intro
        | (refine Next.mk (fun g => eqiH ao bo n c d f h (.int (n : Int)) g) _ (hk _ hall) rfl fun w hw => hw.sel [0, 1] (by simp))
        | refine And.intro ?_ ?_
        | (intro h; exfalso; simp at h; done)
        | (intro h; exfalso; simp at h; omega)
        | intro _)
  · refine Next.mk (fun g => eqiH ao bo n c d f h (.int ((0 : Nat) : Int)) g) _ ⟨_, allB_zero _, rfl, rfl⟩ h1 fun w hw => ?_
    rw [← hch]
    exact hw.sel [0, 1] (by simp)
theorem eqiY_T (ao bo : Option Addr) (n c d : Nat) (f h : Nat → Int) : (exFn Try.prog { L := [(4, seqi ao bo n c d f h)] } 400 Try.f70 ([.a (.c (.sl 0 ao n c)), .a (.c (.sl 1 bo n d))]) ([.row ⟨false, ao, 0, 1, n, 0, [fun i => .int (f i)]⟩, .row ⟨false, bo, 0, 1, n, 0, [fun i => .int (h i)]⟩]) (fun v _ => v.den = .bool (eqSB n f n h))) = (
  (((((n : Nat) : Int) != ((n : Nat) : Int)) = Bool.true →
 (Value.bool Bool.false) = (Value.bool (eqSB n f n h))) ∧
 ((((n : Nat) : Int) != ((n : Nat) : Int)) = Bool.false →
 (([(Value.slice ao n c), (Value.slice bo n d), (Value.tuple (List.toArray [])), (Value.tuple (List.toArray [])), (Value.bool Bool.false), (Value.tuple (List.toArray [])), (Value.slice ao n c), (Value.int IntKind.i64 ((n : Nat) : Int)), (Value.slice bo n d), (Value.int IntKind.i64 ((n : Nat) : Int)), (Value.bool Bool.false), (Value.slice ao n c), (Value.int IntKind.i64 ((n : Nat) : Int)), (Value.int IntKind.i64 (0 : Int)), (Value.tuple (List.toArray [])), (Value.tuple (List.toArray [])), (Value.tuple (List.toArray [])), (Value.tuple (List.toArray [])), (Value.tuple (List.toArray [])), (Value.tuple (List.toArray [])), (Value.tuple (List.toArray [])), (Value.tuple (List.toArray [])), (Value.tuple (List.toArray [])), (Value.tuple (List.toArray [])), (Value.tuple (List.toArray [])), (Value.tuple (List.toArray []))] = [(Value.slice ao n c), (Value.slice bo n d), (Value.tuple (List.toArray [])), (Value.tuple (List.toArray [])), (Value.bool Bool.false), (Value.tuple (List.toArray [])), (Value.slice ao n c), (Value.int IntKind.i64 ((n : Nat) : Int)), (Value.slice bo n d), (Value.int IntKind.i64 ((n : Nat) : Int)), (Value.bool Bool.false), (Value.slice ao n c), (Value.int IntKind.i64 ((n : Nat) : Int)), (Value.int IntKind.i64 (0 : Int)), (Value.tuple (List.toArray [])), (Value.tuple (List.toArray [])), (Value.tuple (List.toArray [])), (Value.tuple (List.toArray [])), (Value.tuple (List.toArray [])), (Value.tuple (List.toArray [])), (Value.tuple (List.toArray [])), (Value.tuple (List.toArray [])), (Value.tuple (List.toArray [])), (Value.tuple (List.toArray [])), (Value.tuple (List.toArray [])), (Value.tuple (List.toArray []))] ∧
 [(Ch.row (Row.mk Bool.false ao 0 1 n 0 [(fun (i0 : Nat) => (SC.int (f i0)))])), (Ch.row (Row.mk Bool.false bo 0 1 n 0 [(fun (i1 : Nat) => (SC.int (h i1)))]))] = [(Ch.row (Row.mk Bool.false ao 0 1 n 0 [(fun (i2 : Nat) => (SC.int (f i2)))])), (Ch.row (Row.mk Bool.false bo 0 1 n 0 [(fun (i3 : Nat) => (SC.int (h i3)))]))]) ∧
 ((∀ g4 : (Nat →
 Value),
 ((allB n (eqiP ao bo n c d f h)) = Bool.true →
 (Value.bool Bool.true) = (Value.bool (eqSB n f n h)))) ∧
 (∀ g5 : (Nat →
 Value),
 ((allB n (eqiP ao bo n c d f h)) = Bool.false →
 (Value.bool Bool.false) = (Value.bool (eqSB n f n h))))))))) := by kernel_rfl
theorem eqiY_any (ao bo : Option Addr) (n c d : Nat) (f h : Nat → Int) (w : World) (h1 : Row.sat w ⟨false, ao, 0, 1, n, 0, [fun i => .int (f i)]⟩) (h2 : Row.sat w ⟨false, bo, 0, 1, n, 0, [fun i => .int (h i)]⟩) (hn : n ≤ 9223372036854775807) : Calls Try.prog 70 #[.slice ao n c, .slice bo n d] w fun e w' => e = .returned (.bool (eqSB n f n h)) ∧ Below w.heap.size w w' := by
  refine fn_ok mixed (E := { L := [(4, seqi ao bo n c d f h)] }) trivial Try.func70 (one_loop (by kernel_rfl) (by kernel_rfl) (eqi_ok ao bo n c d f h hn _)) (@Eq.mpr _ _ (eqiY_T ao bo n c d f h) ?_) (HS.rows (fun _ => False) [⟨false, ao, 0, 1, n, 0, [fun i => .int (f i)]⟩, ⟨false, bo, 0, 1, n, 0, [fun i => .int (h i)]⟩] (by simp; exact ⟨h1, h2⟩)) (fun v ch' w' hv hs => ⟨by rw [hv], hs.below⟩)
  clear h1 h2
  have e : eqSB n f n h = allB n (eqiP ao bo n c d f h) := by simp [eqSB, ieq]; rfl
  rw [e]
  refine ⟨fun h => ?_, fun h => ?_⟩
  all_goals first | (exfalso; simp at h; done) | skip
  all_goals repeat' (first
    | with_reducible exact rfl
    | exact True.intro
    | with_reducible assumption
    | refine And.intro ?_ ?_
    | (intro g h; rw [h])
    | intro _)
theorem eqiN_T (ao bo : Option Addr) (n m c d : Nat) (f h : Nat → Int) : (exFn Try.prog { L := [(4, fun _ _ _ => False)] } 400 Try.f70 ([.a (.c (.sl 0 ao n c)), .a (.c (.sl 1 bo m d))]) ([.row ⟨false, ao, 0, 1, n, 0, [fun i => .int (f i)]⟩, .row ⟨false, bo, 0, 1, m, 0, [fun i => .int (h i)]⟩]) (fun v _ => v.den = .bool false)) = (
  (((((n : Nat) : Int) != ((m : Nat) : Int)) = Bool.true →
 (Value.bool Bool.false) = (Value.bool Bool.false)) ∧
 ((((n : Nat) : Int) != ((m : Nat) : Int)) = Bool.false →
 False))) := by kernel_rfl
theorem eqiN_any (ao bo : Option Addr) (n m c d : Nat) (f h : Nat → Int) (w : World) (h1 : Row.sat w ⟨false, ao, 0, 1, n, 0, [fun i => .int (f i)]⟩) (h2 : Row.sat w ⟨false, bo, 0, 1, m, 0, [fun i => .int (h i)]⟩) (hne : n ≠ m) : Calls Try.prog 70 #[.slice ao n c, .slice bo m d] w fun e w' => e = .returned (.bool false) ∧ Below w.heap.size w w' := by
  refine fn_ok mixed (E := { L := [(4, fun _ _ _ => False)] }) trivial Try.func70 (one_loop (by kernel_rfl) (by kernel_rfl) (fun _ _ _ _ _ h => h.elim)) (@Eq.mpr _ _ (eqiN_T ao bo n m c d f h) ?_) (HS.rows (fun _ => False) [⟨false, ao, 0, 1, n, 0, [fun i => .int (f i)]⟩, ⟨false, bo, 0, 1, m, 0, [fun i => .int (h i)]⟩] (by simp; exact ⟨h1, h2⟩)) (fun v ch' w' hv hs => ⟨by rw [hv], hs.below⟩)
  clear h1 h2
  refine ⟨fun h => rfl, fun h => ?_⟩
  simp at h
  omega
def sEqL : Sm := fun args ch k =>
  match args with
  | [.a (.c x), .a (.c y)] => rdn ch x fun n f => rdn ch y fun m h => lenC n ∧ k (.a (.c (.bool (eqSB n f m h)))) ch []
  | _ => False
theorem sEqL_ok : SmOK Try.prog 70 sEqL := by
  refine smB Try.call70 fun args ch k w X h0 hs => ?_
  unfold sEqL at h0
  split at h0
  · obtain ⟨ao, n, c, f, em, hr, h1⟩ := rdn_ok h0 hs
    obtain ⟨bo, m, d, h, em2, hr2, hn, h2⟩ := rdn_ok h1 hs
    refine ⟨_, h2, ?_⟩
    simp only [List.map_cons, List.map_nil, den_a, den_c, em, em2]
    by_cases e : n = m
    · subst e
      exact eqiY_any ao bo n c d f h w hr hr2 hn
    · have e2 : eqSB n f m h = false := by simp [eqSB, ieq]; intro h3; omega
      simp only [e2]
      exact eqiN_any ao bo n m c d f h w hr hr2 e
  · exact h0.elim
def l32H (ao bo : Option Addr) (n c d : Nat) (f h : Nat → Int) (p q : Bool) (ba bb : Nat) (i : SC) (g : Nat → Value) : List SV := [.a (.c (.val (g 0))), .a (.c (.val (g 1))), .a (.c (.ptr 2 ba 0)), .a (.c (.ptr 3 bb 0)), .a (.c (.val (g 4))), .a (.c i), .a (.c (.val (g 6))), .a (.c (.val (g 7))), .a (.c (.val (g 8))), .a (.c (.val (g 9))), .a (.c (.val (g 10))), .a (.c (.val (g 11))), .a (.c (.val (g 12))), .a (.c (.val (g 13))), .a (.c (.val (g 14))), .a (.c (.val (g 15))), .a (.c (.val (g 16))), .a (.c (.val (g 17))), .a (.c (.val (g 18))), .a (.c (.val (g 19))), .a (.c (.val (g 20))), .a (.c (.val (g 21))), .a (.c (.val (g 22))), .a (.c (.val (g 23))), .a (.c (.val (g 24))), .a (.c (.val (g 25))), .a (.c (.val (g 26))), .a (.c (.val (g 27))), .a (.c (.val (g 28))), .a (.c (.val (g 29))), .a (.c (.val (g 30))), .a (.c (.val (g 31))), .a (.c (.val (g 32))), .a (.c (.val (g 33))), .a (.c (.val (g 34))), .a (.c (.val (g 35))), .a (.c (.val (g 36))), .a (.c (.val (g 37)))]
def l32R (ao bo : Option Addr) (n c d : Nat) (f h : Nat → Int) (p q : Bool) (ba bb : Nat) (g : Nat → Value) : List SV := [.a (.c (.val (g 0))), .a (.c (.val (g 1))), .a (.c (.val (g 2))), .a (.c (.val (g 3))), .a (.c (.lit false)), .a (.c (.val (g 5))), .a (.c (.val (g 6))), .a (.c (.val (g 7))), .a (.c (.val (g 8))), .a (.c (.val (g 9))), .a (.c (.val (g 10))), .a (.c (.val (g 11))), .a (.c (.val (g 12))), .a (.c (.val (g 13))), .a (.c (.val (g 14))), .a (.c (.val (g 15))), .a (.c (.val (g 16))), .a (.c (.val (g 17))), .a (.c (.val (g 18))), .a (.c (.val (g 19))), .a (.c (.val (g 20))), .a (.c (.val (g 21))), .a (.c (.val (g 22))), .a (.c (.val (g 23))), .a (.c (.val (g 24))), .a (.c (.val (g 25))), .a (.c (.val (g 26))), .a (.c (.val (g 27))), .a (.c (.val (g 28))), .a (.c (.val (g 29))), .a (.c (.val (g 30))), .a (.c (.val (g 31))), .a (.c (.val (g 32))), .a (.c (.val (g 33))), .a (.c (.val (g 34))), .a (.c (.val (g 35))), .a (.c (.val (g 36))), .a (.c (.val (g 37)))]
def l32T (ao bo : Option Addr) (n c d : Nat) (f h : Nat → Int) (p q : Bool) (ba bb : Nat) : List Ch := [.row ⟨false, ao, 0, 1, n, 0, [fun i => .int (f i)]⟩, .row ⟨false, bo, 0, 1, n, 0, [fun i => .int (h i)]⟩, .cells ba 52 [.sl 0 ao n c, .bool p], .cells bb 52 [.sl 1 bo n d, .bool q]]
def l32P (ao bo : Option Addr) (n c d : Nat) (f h : Nat → Int) (p q : Bool) (ba bb : Nat) (j : Nat) : Bool := ieq (f j) (h j)
def sl32 (ao bo : Option Addr) (n c d : Nat) (f h : Nat → Int) (p q : Bool) (ba bb : Nat) : LSm := fun ts ch k =>
  (ts.map SV.den = (l32H ao bo n c d f h p q ba bb (.il 0) (fun d => (ts.getD d .undef).den)).map SV.den ∧ selC ch [0, 1, 2, 3] = l32T ao bo n c d f h p q ba bb) ∧
    (∀ g, allB n (l32P ao bo n c d f h p q ba bb) = true → k (.exit 0) (l32H ao bo n c d f h p q ba bb (.int (n : Int)) g) (l32T ao bo n c d f h p q ba bb)) ∧ (∀ g, allB n (l32P ao bo n c d f h p q ba bb) = false → k .ret (l32R ao bo n c d f h p q ba bb g) (l32T ao bo n c d f h p q ba bb))
theorem l32B (ao bo : Option Addr) (n c d : Nat) (f h : Nat → Int) (p q : Bool) (ba bb : Nat) (j : Nat) (g : Nat → Value) (NX : List SV → List Ch → Prop) (kx : Exit → List SV → List Ch → Prop) : (exCode Try.prog {} 400 (theLoop Try.f65 0) (l32H ao bo n c d f h p q ba bb (.int (j : Int)) g) (l32T ao bo n c d f h p q ba bb) (loopK NX kx)) = (
  (ba = ba ∧
 (((decide (((j : Nat) : Int) < ((n : Nat) : Int))) = Bool.true →
 (ba = ba ∧
 (ao = ao ∧
 (n = n ∧
 ((0 ≤ ((j : Nat) : Int) ∧ ((j : Nat) : Int) < ((n : Nat) : Int)) ∧
 (ao = ao ∧
 (j < n ∧
 (bb = bb ∧
 (bo = bo ∧
 (n = n ∧
 ((0 ≤ ((j : Nat) : Int) ∧ ((j : Nat) : Int) < ((n : Nat) : Int)) ∧
 (bo = bo ∧
 (j < n ∧
 ((((f j) != (h j)) = Bool.true →
 (kx Exit.ret [(SV.a (SA.c (SC.val (g 0)))), (SV.a (SA.c (SC.val (g 1)))), (SV.a (SA.c (SC.ptr 2 ba 0))), (SV.a (SA.c (SC.ptr 3 bb 0))), (SV.a (SA.c (SC.lit Bool.false))), (SV.a (SA.c (SC.int ((j : Nat) : Int)))), (SV.a (SA.c (SC.val (g 6)))), (SV.a (SA.c (SC.val (g 7)))), (SV.a (SA.c (SC.val (g 8)))), (SV.a (SA.c (SC.val (g 9)))), (SV.a (SA.c (SC.val (g 10)))), (SV.a (SA.c (SC.val (g 11)))), (SV.a (SA.c (SC.val (g 12)))), (SV.a (SA.c (SC.val (g 13)))), (SV.a (SA.c (SC.val (g 14)))), (SV.a (SA.c (SC.val (g 15)))), (SV.a (SA.c (SC.val (g 16)))), (SV.a (SA.c (SC.val (g 17)))), (SV.a (SA.c (SC.val (g 18)))), (SV.a (SA.c (SC.val (g 19)))), (SV.a (SA.c (SC.int ((j : Nat) : Int)))), (SV.a (SA.c (SC.ptr 2 ba 0))), (SV.a (SA.c (SC.sl 0 ao n c))), (SV.a (SA.c (SC.int ((n : Nat) : Int)))), (SV.a (SA.c (SC.lit Bool.true))), (SV.a (SA.c (SC.val (g 25)))), (SV.a (SA.c (SC.val (g 26)))), (SV.a (SA.c (SC.ptr 2 ba 0))), (SV.a (SA.c (SC.sl 0 ao n c))), (SV.a (SA.c (SC.int ((j : Nat) : Int)))), (SV.a (SA.c (SC.rptr 0 ao 1 j 0))), (SV.a (SA.c (SC.int (f j)))), (SV.a (SA.c (SC.ptr 3 bb 0))), (SV.a (SA.c (SC.sl 1 bo n d))), (SV.a (SA.c (SC.int ((j : Nat) : Int)))), (SV.a (SA.c (SC.rptr 1 bo 1 j 0))), (SV.a (SA.c (SC.int (h j)))), (SV.a (SA.c (SC.lit Bool.true)))] [(Ch.row (Row.mk Bool.false ao 0 1 n 0 [(fun (i0 : Nat) => (SC.int (f i0)))])), (Ch.row (Row.mk Bool.false bo 0 1 n 0 [(fun (i1 : Nat) => (SC.int (h i1)))])), (Ch.cells ba 52 [(SC.sl 0 ao n c), (SC.bool p)]), (Ch.cells bb 52 [(SC.sl 1 bo n d), (SC.bool q)])])) ∧
 (((f j) != (h j)) = Bool.false →
 ((rng (((j : Nat) : Int) + (1 : Int))) ∧
 (NX [(SV.a (SA.c (SC.val (g 0)))), (SV.a (SA.c (SC.val (g 1)))), (SV.a (SA.c (SC.ptr 2 ba 0))), (SV.a (SA.c (SC.ptr 3 bb 0))), (SV.a (SA.c (SC.val (g 4)))), (SV.a (SA.c (SC.int (((j : Nat) : Int) + (1 : Int))))), (SV.a (SA.c (SC.val (g 6)))), (SV.a (SA.c (SC.val (g 7)))), (SV.a (SA.c (SC.val (g 8)))), (SV.a (SA.c (SC.val (g 9)))), (SV.a (SA.c (SC.val (g 10)))), (SV.a (SA.c (SC.val (g 11)))), (SV.a (SA.c (SC.val (g 12)))), (SV.a (SA.c (SC.val (g 13)))), (SV.a (SA.c (SC.val (g 14)))), (SV.a (SA.c (SC.val (g 15)))), (SV.a (SA.c (SC.val (g 16)))), (SV.a (SA.c (SC.val (g 17)))), (SV.a (SA.c (SC.val (g 18)))), (SV.a (SA.c (SC.val (g 19)))), (SV.a (SA.c (SC.int ((j : Nat) : Int)))), (SV.a (SA.c (SC.ptr 2 ba 0))), (SV.a (SA.c (SC.sl 0 ao n c))), (SV.a (SA.c (SC.int ((n : Nat) : Int)))), (SV.a (SA.c (SC.lit Bool.true))), (SV.a (SA.c (SC.int ((j : Nat) : Int)))), (SV.a (SA.c (SC.int (((j : Nat) : Int) + (1 : Int))))), (SV.a (SA.c (SC.ptr 2 ba 0))), (SV.a (SA.c (SC.sl 0 ao n c))), (SV.a (SA.c (SC.int ((j : Nat) : Int)))), (SV.a (SA.c (SC.rptr 0 ao 1 j 0))), (SV.a (SA.c (SC.int (f j)))), (SV.a (SA.c (SC.ptr 3 bb 0))), (SV.a (SA.c (SC.sl 1 bo n d))), (SV.a (SA.c (SC.int ((j : Nat) : Int)))), (SV.a (SA.c (SC.rptr 1 bo 1 j 0))), (SV.a (SA.c (SC.int (h j)))), (SV.a (SA.c (SC.lit Bool.false)))] [(Ch.row (Row.mk Bool.false ao 0 1 n 0 [(fun (i2 : Nat) => (SC.int (f i2)))])), (Ch.row (Row.mk Bool.false bo 0 1 n 0 [(fun (i3 : Nat) => (SC.int (h i3)))])), (Ch.cells ba 52 [(SC.sl 0 ao n c), (SC.bool p)]), (Ch.cells bb 52 [(SC.sl 1 bo n d), (SC.bool q)])]))))))))))))))))) ∧
 ((decide (((j : Nat) : Int) < ((n : Nat) : Int))) = Bool.false →
 (kx (Exit.exit 0) [(SV.a (SA.c (SC.val (g 0)))), (SV.a (SA.c (SC.val (g 1)))), (SV.a (SA.c (SC.ptr 2 ba 0))), (SV.a (SA.c (SC.ptr 3 bb 0))), (SV.a (SA.c (SC.val (g 4)))), (SV.a (SA.c (SC.int ((j : Nat) : Int)))), (SV.a (SA.c (SC.val (g 6)))), (SV.a (SA.c (SC.val (g 7)))), (SV.a (SA.c (SC.val (g 8)))), (SV.a (SA.c (SC.val (g 9)))), (SV.a (SA.c (SC.val (g 10)))), (SV.a (SA.c (SC.val (g 11)))), (SV.a (SA.c (SC.val (g 12)))), (SV.a (SA.c (SC.val (g 13)))), (SV.a (SA.c (SC.val (g 14)))), (SV.a (SA.c (SC.val (g 15)))), (SV.a (SA.c (SC.val (g 16)))), (SV.a (SA.c (SC.val (g 17)))), (SV.a (SA.c (SC.val (g 18)))), (SV.a (SA.c (SC.val (g 19)))), (SV.a (SA.c (SC.int ((j : Nat) : Int)))), (SV.a (SA.c (SC.ptr 2 ba 0))), (SV.a (SA.c (SC.sl 0 ao n c))), (SV.a (SA.c (SC.int ((n : Nat) : Int)))), (SV.a (SA.c (SC.lit Bool.false))), (SV.a (SA.c (SC.val (g 25)))), (SV.a (SA.c (SC.val (g 26)))), (SV.a (SA.c (SC.val (g 27)))), (SV.a (SA.c (SC.val (g 28)))), (SV.a (SA.c (SC.val (g 29)))), (SV.a (SA.c (SC.val (g 30)))), (SV.a (SA.c (SC.val (g 31)))), (SV.a (SA.c (SC.val (g 32)))), (SV.a (SA.c (SC.val (g 33)))), (SV.a (SA.c (SC.val (g 34)))), (SV.a (SA.c (SC.val (g 35)))), (SV.a (SA.c (SC.val (g 36)))), (SV.a (SA.c (SC.val (g 37))))] [(Ch.row (Row.mk Bool.false ao 0 1 n 0 [(fun (i4 : Nat) => (SC.int (f i4)))])), (Ch.row (Row.mk Bool.false bo 0 1 n 0 [(fun (i5 : Nat) => (SC.int (h i5)))])), (Ch.cells ba 52 [(SC.sl 0 ao n c), (SC.bool p)]), (Ch.cells bb 52 [(SC.sl 1 bo n d), (SC.bool q)])]))))) := by kernel_rfl
theorem l32_ok (ao bo : Option Addr) (n c d : Nat) (f h : Nat → Int) (p q : Bool) (ba bb : Nat) (hn : n ≤ 9223372036854775807) (X : Cx) : LoopOK Try.prog X (theLoop Try.f65 0) (sl32 ao bo n c d f h p q ba bb) := by
  intro ts ch k a w hS hT hd hs
  obtain ⟨⟨h1, hch⟩, hk, hr⟩ := hS
  refine loop_ok mixed (E := {}) trivial (loopsOK_nil _ _ _) 400 n (fun j ts ch => ∃ g, allB j (l32P ao bo n c d f h p q ba bb) = true ∧ ts = l32H ao bo n c d f h p q ba bb (.int (j : Int)) g ∧ ch = l32T ao bo n c d f h p q ba bb) ?_ ?_ hT hd hs
  · rintro j _ _ ⟨g, hall, rfl, rfl⟩ hj
    refine (@Eq.mpr _ _ (l32B ao bo n c d f h p q ba bb j g _ _) ?_)
    by_cases hlt : j < n
    · have hjn : (0 : Int) ≤ (j : Int) ∧ (j : Int) < (n : Int) := ⟨by omega, by omega⟩
      cases hp : l32P ao bo n c d f h p q ba bb j
      all_goals simp only [l32P] at hp
      all_goals
        repeat' (first
          | with_reducible exact rfl
          | exact True.intro
          | with_reducible assumption
          | (refine ⟨hlt, ?_⟩; show Next _ _ _ _; refine Next.mk (fun g => l32H ao bo n c d f h p q ba bb (.int ((j + 1 : Nat) : Int)) g) _ ⟨_, allB_succ hall (by simp only [l32P]; exact hp), rfl, rfl⟩ rfl fun w hw => hw.sel [0, 1, 2, 3] (by simp))
          | (refine Next.mk (fun g => l32R ao bo n c d f h p q ba bb g) _ (hr _ (allB_no hlt (by simp only [l32P]; exact hp))) rfl fun w hw => hw.sel [0, 1, 2, 3] (by simp))
          | refine And.intro ?_ ?_
          | (intro h; exfalso; simp at h; omega)
          | (intro h; exfalso; simp [h] at hp; done)
          | (intro h; exfalso; simp [ieq] at hp; simp [hp] at h; done)
          | intro _
          | omega)
        all_goals (exfalso; simp_all; done)
    · have hjn : n = j := by omega
      subst hjn
      repeat' (first
        | with_reducible exact rfl
        | exact True.intro
        | (refine Next.mk (fun g => l32H ao bo n c d f h p q ba bb (.int (n : Int)) g) _ (hk _ hall) rfl fun w hw => hw.sel [0, 1, 2, 3] (by simp))
        | refine And.intro ?_ ?_
        | (intro h; exfalso; simp at h; done)
        | (intro h; exfalso; simp at h; omega)
        | intro _)
  · refine Next.mk (fun g => l32H ao bo n c d f h p q ba bb (.int ((0 : Nat) : Int)) g) _ ⟨_, allB_zero _, rfl, rfl⟩ h1 fun w hw => ?_
    rw [← hch]
    exact hw.sel [0, 1, 2, 3] (by simp)
def sl32w (ao bo : Option Addr) (n c d : Nat) (f h : Nat → Int) (p q : Bool) : LSm := fun ts ch kk => ∃ ba bb, sl32 ao bo n c d f h p q ba bb ts ch kk
theorem l32w_ok (ao bo : Option Addr) (n c d : Nat) (f h : Nat → Int) (p q : Bool) (hn : n ≤ 9223372036854775807) (X : Cx) : LoopOK Try.prog X (theLoop Try.f65 0) (sl32w ao bo n c d f h p q) := by
  rintro ts ch kk a w ⟨ba, bb, hS⟩ hT hd hs
  exact l32_ok ao bo n c d f h p q ba bb hn X ts ch kk a w hS hT hd hs
theorem l32Y_T (ao bo : Option Addr) (n c d : Nat) (f h : Nat → Int) (p q : Bool) : (exFn Try.prog { L := [(4, sl32w ao bo n c d f h p q)] } 400 Try.f65 ([.a (.agg [.sl 0 ao n c, .bool p]), .a (.agg [.sl 1 bo n d, .bool q])]) ([.row ⟨false, ao, 0, 1, n, 0, [fun i => .int (f i)]⟩, .row ⟨false, bo, 0, 1, n, 0, [fun i => .int (h i)]⟩]) (fun v _ => v.den = .bool (andB (beqb p q) (eqSB n f n h)))) = (
  (∀ b0 : Nat,
 (∀ b1 : Nat,
 (b0 = b0 ∧
 (b1 = b1 ∧
 (((((n : Nat) : Int) != ((n : Nat) : Int)) = Bool.false →
 (b0 = b0 ∧
 (b1 = b1 ∧
 (((p != q) = Bool.true →
 (Value.bool Bool.false) = (Value.bool (andB (p == q) (eqSB n f n h)))) ∧
 ((p != q) = Bool.false →
 (Exists (fun (ba2 : Nat) => (Exists (fun (bb3 : Nat) => (([(Value.agg (List.toArray [(Value.slice ao n c), (Value.bool p)])), (Value.agg (List.toArray [(Value.slice bo n d), (Value.bool q)])), (Value.pointer (Option.some (Addr.mk b0 0 (none : Option (Nat))))), (Value.pointer (Option.some (Addr.mk b1 0 (none : Option (Nat))))), (Value.bool Bool.false), (Value.int IntKind.i64 (0 : Int)), (Value.pointer (Option.some (Addr.mk b0 0 (none : Option (Nat))))), (Value.slice ao n c), (Value.int IntKind.i64 ((n : Nat) : Int)), (Value.pointer (Option.some (Addr.mk b1 0 (none : Option (Nat))))), (Value.slice bo n d), (Value.int IntKind.i64 ((n : Nat) : Int)), (Value.bool (((n : Nat) : Int) != ((n : Nat) : Int))), (Value.bool Bool.false), (Value.pointer (Option.some (Addr.mk b0 1 (none : Option (Nat))))), (Value.bool p), (Value.pointer (Option.some (Addr.mk b1 1 (none : Option (Nat))))), (Value.bool q), (Value.bool (p != q)), (Value.bool Bool.false), (Value.tuple (List.toArray [])), (Value.tuple (List.toArray [])), (Value.tuple (List.toArray [])), (Value.tuple (List.toArray [])), (Value.tuple (List.toArray [])), (Value.tuple (List.toArray [])), (Value.tuple (List.toArray [])), (Value.tuple (List.toArray [])), (Value.tuple (List.toArray [])), (Value.tuple (List.toArray [])), (Value.tuple (List.toArray [])), (Value.tuple (List.toArray [])), (Value.tuple (List.toArray [])), (Value.tuple (List.toArray [])), (Value.tuple (List.toArray [])), (Value.tuple (List.toArray [])), (Value.tuple (List.toArray [])), (Value.tuple (List.toArray []))] = [(Value.agg (List.toArray [(Value.slice ao n c), (Value.bool p)])), (Value.agg (List.toArray [(Value.slice bo n d), (Value.bool q)])), (Value.pointer (Option.some (Addr.mk ba2 0 (none : Option (Nat))))), (Value.pointer (Option.some (Addr.mk bb3 0 (none : Option (Nat))))), (Value.bool Bool.false), (Value.int IntKind.i64 (0 : Int)), (Value.pointer (Option.some (Addr.mk b0 0 (none : Option (Nat))))), (Value.slice ao n c), (Value.int IntKind.i64 ((n : Nat) : Int)), (Value.pointer (Option.some (Addr.mk b1 0 (none : Option (Nat))))), (Value.slice bo n d), (Value.int IntKind.i64 ((n : Nat) : Int)), (Value.bool (((n : Nat) : Int) != ((n : Nat) : Int))), (Value.bool Bool.false), (Value.pointer (Option.some (Addr.mk b0 1 (none : Option (Nat))))), (Value.bool p), (Value.pointer (Option.some (Addr.mk b1 1 (none : Option (Nat))))), (Value.bool q), (Value.bool (p != q)), (Value.bool Bool.false), (Value.tuple (List.toArray [])), (Value.tuple (List.toArray [])), (Value.tuple (List.toArray [])), (Value.tuple (List.toArray [])), (Value.tuple (List.toArray [])), (Value.tuple (List.toArray [])), (Value.tuple (List.toArray [])), (Value.tuple (List.toArray [])), (Value.tuple (List.toArray [])), (Value.tuple (List.toArray [])), (Value.tuple (List.toArray [])), (Value.tuple (List.toArray [])), (Value.tuple (List.toArray [])), (Value.tuple (List.toArray [])), (Value.tuple (List.toArray [])), (Value.tuple (List.toArray [])), (Value.tuple (List.toArray [])), (Value.tuple (List.toArray []))] ∧
 [(Ch.row (Row.mk Bool.false ao 0 1 n 0 [(fun (i4 : Nat) => (SC.int (f i4)))])), (Ch.row (Row.mk Bool.false bo 0 1 n 0 [(fun (i5 : Nat) => (SC.int (h i5)))])), (Ch.cells b0 52 [(SC.sl 0 ao n c), (SC.bool p)]), (Ch.cells b1 52 [(SC.sl 1 bo n d), (SC.bool q)])] = [(Ch.row (Row.mk Bool.false ao 0 1 n 0 [(fun (i6 : Nat) => (SC.int (f i6)))])), (Ch.row (Row.mk Bool.false bo 0 1 n 0 [(fun (i7 : Nat) => (SC.int (h i7)))])), (Ch.cells ba2 52 [(SC.sl 0 ao n c), (SC.bool p)]), (Ch.cells bb3 52 [(SC.sl 1 bo n d), (SC.bool q)])]) ∧
 ((∀ g8 : (Nat →
 Value),
 ((allB n (l32P ao bo n c d f h p q ba2 bb3)) = Bool.true →
 (Value.bool Bool.true) = (Value.bool (andB (p == q) (eqSB n f n h))))) ∧
 (∀ g9 : (Nat →
 Value),
 ((allB n (l32P ao bo n c d f h p q ba2 bb3)) = Bool.false →
 (Value.bool Bool.false) = (Value.bool (andB (p == q) (eqSB n f n h)))))))))))))))) ∧
 ((((n : Nat) : Int) != ((n : Nat) : Int)) = Bool.true →
 (Value.bool Bool.false) = (Value.bool (andB (p == q) (eqSB n f n h)))))))))) := by kernel_rfl
theorem l32Y_any (ao bo : Option Addr) (n c d : Nat) (f h : Nat → Int) (p q : Bool) (w : World) (h1 : Row.sat w ⟨false, ao, 0, 1, n, 0, [fun i => .int (f i)]⟩) (h2 : Row.sat w ⟨false, bo, 0, 1, n, 0, [fun i => .int (h i)]⟩) (hn : n ≤ 9223372036854775807) : Calls Try.prog 65 #[.agg #[.slice ao n c, .bool p], .agg #[.slice bo n d, .bool q]] w fun e w' => e = .returned (.bool (andB (beqb p q) (eqSB n f n h))) ∧ Below w.heap.size w w' := by
  refine fn_ok mixed (E := { L := [(4, sl32w ao bo n c d f h p q)] }) trivial Try.func65 (one_loop (by kernel_rfl) (by kernel_rfl) (l32w_ok ao bo n c d f h p q hn _)) (@Eq.mpr _ _ (l32Y_T ao bo n c d f h p q) ?_) (HS.rows (fun _ => False) [⟨false, ao, 0, 1, n, 0, [fun i => .int (f i)]⟩, ⟨false, bo, 0, 1, n, 0, [fun i => .int (h i)]⟩] (by simp; exact ⟨h1, h2⟩)) (fun v ch' w' hv hs => ⟨by rw [hv], hs.below⟩)
  clear h1 h2
  have e : ∀ ba bb, eqSB n f n h = allB n (l32P ao bo n c d f h p q ba bb) := fun ba bb => by simp [eqSB, ieq]; rfl
  cases hpq : (p == q)
  · have hb : ∀ z, andB false z = false := fun _ => rfl
    repeat' (first
      | with_reducible exact rfl
      | exact True.intro
      | (rw [hb]; done)
      | refine And.intro ?_ ?_
      | (intro h; exfalso; simp at h; done)
      | (intro h; exfalso; simp [bne, hpq] at h; done)
      | intro _)
  · have hb : ∀ z, andB true z = z := fun z => by cases z <;> rfl
    repeat' (first
      | with_reducible exact rfl
      | exact True.intro
      | (rw [hb, e]; with_reducible assumption)
      | (rw [hb]; congr 1; rw [e]; with_reducible assumption)
      | refine And.intro ?_ ?_
      | apply Exists.intro
      | (intro h; exfalso; simp at h; done)
      | (intro h; exfalso; simp [bne, hpq] at h; done)
      | intro _)
    all_goals (first | (rw [hb]; rename_i ba bb g hh; rw [e, hh]; done) | (rw [hb]; rename_i hh; rw [e, hh]; done) | skip)
theorem l32N_T (ao bo : Option Addr) (n m c d : Nat) (f h : Nat → Int) (p q : Bool) : (exFn Try.prog { L := [(4, fun _ _ _ => False)] } 400 Try.f65 ([.a (.agg [.sl 0 ao n c, .bool p]), .a (.agg [.sl 1 bo m d, .bool q])]) ([.row ⟨false, ao, 0, 1, n, 0, [fun i => .int (f i)]⟩, .row ⟨false, bo, 0, 1, m, 0, [fun i => .int (h i)]⟩]) (fun v _ => v.den = .bool false)) = (
  (∀ b0 : Nat,
 (∀ b1 : Nat,
 (b0 = b0 ∧
 (b1 = b1 ∧
 (((((n : Nat) : Int) != ((m : Nat) : Int)) = Bool.false →
 (b0 = b0 ∧
 (b1 = b1 ∧
 (((p != q) = Bool.true →
 (Value.bool Bool.false) = (Value.bool Bool.false)) ∧
 ((p != q) = Bool.false →
 False))))) ∧
 ((((n : Nat) : Int) != ((m : Nat) : Int)) = Bool.true →
 (Value.bool Bool.false) = (Value.bool Bool.false)))))))) := by kernel_rfl
theorem l32N_any (ao bo : Option Addr) (n m c d : Nat) (f h : Nat → Int) (p q : Bool) (w : World) (h1 : Row.sat w ⟨false, ao, 0, 1, n, 0, [fun i => .int (f i)]⟩) (h2 : Row.sat w ⟨false, bo, 0, 1, m, 0, [fun i => .int (h i)]⟩) (hne : n ≠ m) : Calls Try.prog 65 #[.agg #[.slice ao n c, .bool p], .agg #[.slice bo m d, .bool q]] w fun e w' => e = .returned (.bool false) ∧ Below w.heap.size w w' := by
  refine fn_ok mixed (E := { L := [(4, fun _ _ _ => False)] }) trivial Try.func65 (one_loop (by kernel_rfl) (by kernel_rfl) (fun _ _ _ _ _ h => h.elim)) (@Eq.mpr _ _ (l32N_T ao bo n m c d f h p q) ?_) (HS.rows (fun _ => False) [⟨false, ao, 0, 1, n, 0, [fun i => .int (f i)]⟩, ⟨false, bo, 0, 1, m, 0, [fun i => .int (h i)]⟩] (by simp; exact ⟨h1, h2⟩)) (fun v ch' w' hv hs => ⟨by rw [hv], hs.below⟩)
  clear h1 h2
  have hc : ((n : Int) != (m : Int)) = true := by simp; omega
  repeat' (first
    | with_reducible exact rfl
    | exact True.intro
    | refine And.intro ?_ ?_
    | (intro h; exfalso; rw [hc] at h; cases h; done)
    | (intro h; exfalso; simp at h; done)
    | intro _)
def sL32 : Sm := fun args ch k =>
  match args with
  | [.a x, .a y] => rdC ch x fun n f p => rdC ch y fun m h q => lenC n ∧ k (.a (.c (.bool (andB (beqb p q) (eqSB n f m h))))) ch []
  | _ => False
theorem sL32_ok : SmOK Try.prog 65 sL32 := by
  refine smB Try.call65 fun args ch k w X h0 hs => ?_
  unfold sL32 at h0
  split at h0
  · obtain ⟨ao, n, c, f, p, em, hr, h1⟩ := rdC_ok h0 hs
    obtain ⟨bo, m, d, h, q, em2, hr2, hn, h2⟩ := rdC_ok h1 hs
    refine ⟨_, h2, ?_⟩
    simp only [List.map_cons, List.map_nil, den_a, em, em2]
    by_cases e : n = m
    · subst e
      exact l32Y_any ao bo n c d f h p q w hr hr2 hn
    · have e2 : eqSB n f m h = false := by simp [eqSB, ieq]; intro h3; omega
      simp only [e2, show andB (beqb p q) false = false by cases (beqb p q) <;> rfl]
      exact l32N_any ao bo n m c d f h p q w hr hr2 e
  · exact h0.elim
end Go.Proofs.Ytddeinpnadfgmaa

/-
  Trees compared.
-/
import Derived.Test.YtppeocfcdeiemaaSxBmp
namespace Go.Proofs.Ytppeocfcdeiemaa
set_option linter.unusedVariables false
set_option linter.unusedSimpArgs false
open Go.RowKit
set_option maxRecDepth 100000
set_option maxHeartbeats 8000000

def allB (n : Nat) (p : Nat → Bool) : Bool := (List.range n).all p
theorem allB_zero (p : Nat → Bool) : allB 0 p = true := rfl
theorem allB_succ {n : Nat} {p : Nat → Bool} (h : allB n p = true) (hp : p n = true) : allB (n + 1) p = true := by
  simp only [allB, List.all_eq_true, List.mem_range] at h ⊢
  intro i hi
  by_cases e : i = n
  · rw [e]; exact hp
  · exact h i (by omega)
theorem allB_no {n j : Nat} {p : Nat → Bool} (hj : j < n) (hp : p j = false) : allB n p = false := by
  cases h : allB n p
  · rfl
  · simp only [allB, List.all_eq_true, List.mem_range] at h
    rw [h j hj] at hp
    cases hp
theorem allB_get {n : Nat} {p : Nat → Bool} (h : allB n p = true) {j : Nat} (hj : j < n) : p j = true := by
  simp only [allB, List.all_eq_true, List.mem_range] at h
  exact h j hj
def smnH (ao bo : Option Addr) (n c d : Nat) (g0 g1 q0 q1 : Nat → Int) (i : SC) (g : Nat → Value) : List SV := [.a (.c (.sl 0 ao n c)), .a (.c (.sl 1 bo n d)), .a (.c (.val (g 2))), .a (.c (.val (g 3))), .a (.c (.val (g 4))), .a (.c i), .a (.c (.val (g 6))), .a (.c (.val (g 7))), .a (.c (.val (g 8))), .a (.c (.val (g 9))), .a (.c (.val (g 10))), .a (.c (.val (g 11))), .a (.c (.val (g 12))), .a (.c (.val (g 13))), .a (.c (.val (g 14))), .a (.c (.val (g 15))), .a (.c (.val (g 16))), .a (.c (.val (g 17))), .a (.c (.val (g 18))), .a (.c (.val (g 19))), .a (.c (.val (g 20))), .a (.c (.val (g 21))), .a (.c (.val (g 22))), .a (.c (.val (g 23))), .a (.c (.val (g 24))), .a (.c (.val (g 25)))]
def smnR (ao bo : Option Addr) (n c d : Nat) (g0 g1 q0 q1 : Nat → Int) (g : Nat → Value) : List SV := [.a (.c (.val (g 0))), .a (.c (.val (g 1))), .a (.c (.val (g 2))), .a (.c (.val (g 3))), .a (.c (.lit false)), .a (.c (.val (g 5))), .a (.c (.val (g 6))), .a (.c (.val (g 7))), .a (.c (.val (g 8))), .a (.c (.val (g 9))), .a (.c (.val (g 10))), .a (.c (.val (g 11))), .a (.c (.val (g 12))), .a (.c (.val (g 13))), .a (.c (.val (g 14))), .a (.c (.val (g 15))), .a (.c (.val (g 16))), .a (.c (.val (g 17))), .a (.c (.val (g 18))), .a (.c (.val (g 19))), .a (.c (.val (g 20))), .a (.c (.val (g 21))), .a (.c (.val (g 22))), .a (.c (.val (g 23))), .a (.c (.val (g 24))), .a (.c (.val (g 25)))]
def smnT (ao bo : Option Addr) (n c d : Nat) (g0 g1 q0 q1 : Nat → Int) : List Ch := [.row ⟨false, ao, 0, 2, n, 0, [fun i => .int (g0 i), fun i => .int (g1 i)]⟩, .row ⟨false, bo, 0, 2, n, 0, [fun i => .int (q0 i), fun i => .int (q1 i)]⟩]
def smnP (ao bo : Option Addr) (n c d : Nat) (g0 g1 q0 q1 : Nat → Int) (j : Nat) : Bool := andB (ieq (g0 j) (q0 j)) (andB (ieq (g1 j) (q1 j)) true)
def ssmn (ao bo : Option Addr) (n c d : Nat) (g0 g1 q0 q1 : Nat → Int) : LSm := fun ts ch k =>
  (ts.map SV.den = (smnH ao bo n c d g0 g1 q0 q1 (.il 0) (fun d => (ts.getD d .undef).den)).map SV.den ∧ selC ch [0, 1] = smnT ao bo n c d g0 g1 q0 q1) ∧
    (∀ g, allB n (smnP ao bo n c d g0 g1 q0 q1) = true → k (.exit 0) (smnH ao bo n c d g0 g1 q0 q1 (.int (n : Int)) g) (smnT ao bo n c d g0 g1 q0 q1)) ∧ (∀ g, allB n (smnP ao bo n c d g0 g1 q0 q1) = false → k .ret (smnR ao bo n c d g0 g1 q0 q1 g) (smnT ao bo n c d g0 g1 q0 q1))
theorem smnB (ao bo : Option Addr) (n c d : Nat) (g0 g1 q0 q1 : Nat → Int) (j : Nat) (g : Nat → Value) (NX : List SV → List Ch → Prop) (kx : Exit → List SV → List Ch → Prop) : (exCode Try.prog {} 400 (theLoop Try.f41 0) (smnH ao bo n c d g0 g1 q0 q1 (.int (j : Int)) g) (smnT ao bo n c d g0 g1 q0 q1) (loopK NX kx)) = (
  (((decide (((j : Nat) : Int) < ((n : Nat) : Int))) = Bool.true →
  (ao = ao ∧
   (n = n ∧
   ((0 ≤ ((j : Nat) : Int) ∧ ((j : Nat) : Int) < ((n : Nat) : Int)) ∧
   (ao = ao ∧
   (j < n ∧
   (bo = bo ∧
   (n = n ∧
   ((0 ≤ ((j : Nat) : Int) ∧ ((j : Nat) : Int) < ((n : Nat) : Int)) ∧
   (bo = bo ∧
   (j < n ∧
   (((!(andB ((g0 j) == (q0 j)) (andB ((g1 j) == (q1 j)) Bool.true))) = Bool.true →
   (kx Exit.ret [(SV.a (SA.c (SC.sl 0 ao n c))), (SV.a (SA.c (SC.sl 1 bo n d))), (SV.a (SA.c (SC.val (g 2)))), (SV.a (SA.c (SC.val (g 3)))), (SV.a (SA.c (SC.lit Bool.false))), (SV.a (SA.c (SC.int ((j : Nat) : Int)))), (SV.a (SA.c (SC.val (g 6)))), (SV.a (SA.c (SC.val (g 7)))), (SV.a (SA.c (SC.val (g 8)))), (SV.a (SA.c (SC.val (g 9)))), (SV.a (SA.c (SC.val (g 10)))), (SV.a (SA.c (SC.int ((j : Nat) : Int)))), (SV.a (SA.c (SC.sl 0 ao n c))), (SV.a (SA.c (SC.int ((n : Nat) : Int)))), (SV.a (SA.c (SC.lit Bool.true))), (SV.a (SA.c (SC.val (g 15)))), (SV.a (SA.c (SC.val (g 16)))), (SV.a (SA.c (SC.sl 0 ao n c))), (SV.a (SA.c (SC.int ((j : Nat) : Int)))), (SV.a (SA.c (SC.rptr 0 ao 2 j 0))), (SV.a (SA.agg [(SC.int (g0 j)), (SC.int (g1 j))])), (SV.a (SA.c (SC.sl 1 bo n d))), (SV.a (SA.c (SC.int ((j : Nat) : Int)))), (SV.a (SA.c (SC.rptr 1 bo 2 j 0))), (SV.a (SA.agg [(SC.int (q0 j)), (SC.int (q1 j))])), (SV.a (SA.c (SC.lit Bool.true)))] [(Ch.row (Row.mk Bool.false ao 0 2 n 0 [(fun (i0 : Nat) => (SC.int (g0 i0))), (fun (i1 : Nat) => (SC.int (g1 i1)))])), (Ch.row (Row.mk Bool.false bo 0 2 n 0 [(fun (i2 : Nat) => (SC.int (q0 i2))), (fun (i3 : Nat) => (SC.int (q1 i3)))]))])) ∧
   ((!(andB ((g0 j) == (q0 j)) (andB ((g1 j) == (q1 j)) Bool.true))) = Bool.false →
   ((rng (((j : Nat) : Int) + (1 : Int))) ∧
    (NX [(SV.a (SA.c (SC.sl 0 ao n c))), (SV.a (SA.c (SC.sl 1 bo n d))), (SV.a (SA.c (SC.val (g 2)))), (SV.a (SA.c (SC.val (g 3)))), (SV.a (SA.c (SC.val (g 4)))), (SV.a (SA.c (SC.int (((j : Nat) : Int) + (1 : Int))))), (SV.a (SA.c (SC.val (g 6)))), (SV.a (SA.c (SC.val (g 7)))), (SV.a (SA.c (SC.val (g 8)))), (SV.a (SA.c (SC.val (g 9)))), (SV.a (SA.c (SC.val (g 10)))), (SV.a (SA.c (SC.int ((j : Nat) : Int)))), (SV.a (SA.c (SC.sl 0 ao n c))), (SV.a (SA.c (SC.int ((n : Nat) : Int)))), (SV.a (SA.c (SC.lit Bool.true))), (SV.a (SA.c (SC.int ((j : Nat) : Int)))), (SV.a (SA.c (SC.int (((j : Nat) : Int) + (1 : Int))))), (SV.a (SA.c (SC.sl 0 ao n c))), (SV.a (SA.c (SC.int ((j : Nat) : Int)))), (SV.a (SA.c (SC.rptr 0 ao 2 j 0))), (SV.a (SA.agg [(SC.int (g0 j)), (SC.int (g1 j))])), (SV.a (SA.c (SC.sl 1 bo n d))), (SV.a (SA.c (SC.int ((j : Nat) : Int)))), (SV.a (SA.c (SC.rptr 1 bo 2 j 0))), (SV.a (SA.agg [(SC.int (q0 j)), (SC.int (q1 j))])), (SV.a (SA.c (SC.lit Bool.false)))] [(Ch.row (Row.mk Bool.false ao 0 2 n 0 [(fun (i4 : Nat) => (SC.int (g0 i4))), (fun (i5 : Nat) => (SC.int (g1 i5)))])), (Ch.row (Row.mk Bool.false bo 0 2 n 0 [(fun (i6 : Nat) => (SC.int (q0 i6))), (fun (i7 : Nat) => (SC.int (q1 i7)))]))]))))))))))))))) ∧
  ((decide (((j : Nat) : Int) < ((n : Nat) : Int))) = Bool.false →
  (kx (Exit.exit 0) [(SV.a (SA.c (SC.sl 0 ao n c))), (SV.a (SA.c (SC.sl 1 bo n d))), (SV.a (SA.c (SC.val (g 2)))), (SV.a (SA.c (SC.val (g 3)))), (SV.a (SA.c (SC.val (g 4)))), (SV.a (SA.c (SC.int ((j : Nat) : Int)))), (SV.a (SA.c (SC.val (g 6)))), (SV.a (SA.c (SC.val (g 7)))), (SV.a (SA.c (SC.val (g 8)))), (SV.a (SA.c (SC.val (g 9)))), (SV.a (SA.c (SC.val (g 10)))), (SV.a (SA.c (SC.int ((j : Nat) : Int)))), (SV.a (SA.c (SC.sl 0 ao n c))), (SV.a (SA.c (SC.int ((n : Nat) : Int)))), (SV.a (SA.c (SC.lit Bool.false))), (SV.a (SA.c (SC.val (g 15)))), (SV.a (SA.c (SC.val (g 16)))), (SV.a (SA.c (SC.val (g 17)))), (SV.a (SA.c (SC.val (g 18)))), (SV.a (SA.c (SC.val (g 19)))), (SV.a (SA.c (SC.val (g 20)))), (SV.a (SA.c (SC.val (g 21)))), (SV.a (SA.c (SC.val (g 22)))), (SV.a (SA.c (SC.val (g 23)))), (SV.a (SA.c (SC.val (g 24)))), (SV.a (SA.c (SC.val (g 25))))] [(Ch.row (Row.mk Bool.false ao 0 2 n 0 [(fun (i8 : Nat) => (SC.int (g0 i8))), (fun (i9 : Nat) => (SC.int (g1 i9)))])), (Ch.row (Row.mk Bool.false bo 0 2 n 0 [(fun (i10 : Nat) => (SC.int (q0 i10))), (fun (i11 : Nat) => (SC.int (q1 i11)))]))])))) := by kernel_rfl
theorem smn_ok (ao bo : Option Addr) (n c d : Nat) (g0 g1 q0 q1 : Nat → Int) (hn : n ≤ 9223372036854775807) (X : Cx) : LoopOK Try.prog X (theLoop Try.f41 0) (ssmn ao bo n c d g0 g1 q0 q1) := by
  intro ts ch k a w hS hT hd hs
  obtain ⟨⟨h1, hch⟩, hk, hr⟩ := hS
  refine loop_ok mixed (E := {}) trivial (loopsOK_nil _ _ _) 400 n (fun j ts ch => ∃ g, allB j (smnP ao bo n c d g0 g1 q0 q1) = true ∧ ts = smnH ao bo n c d g0 g1 q0 q1 (.int (j : Int)) g ∧ ch = smnT ao bo n c d g0 g1 q0 q1) ?_ ?_ hT hd hs
  · rintro j _ _ ⟨g, hall, rfl, rfl⟩ hj
    refine (@Eq.mpr _ _ (smnB ao bo n c d g0 g1 q0 q1 j g _ _) ?_)
    by_cases hlt : j < n
    · have hjn : (0 : Int) ≤ (j : Int) ∧ (j : Int) < (n : Int) := ⟨by omega, by omega⟩
      cases hp : smnP ao bo n c d g0 g1 q0 q1 j
      all_goals simp only [smnP] at hp
      all_goals
        repeat' (first
          | with_reducible exact rfl
          | exact True.intro
          | with_reducible assumption
          | (refine ⟨hlt, ?_⟩; show Next _ _ _ _; refine Next.mk (fun g => smnH ao bo n c d g0 g1 q0 q1 (.int ((j + 1 : Nat) : Int)) g) _ ⟨_, allB_succ hall (by simp only [smnP]; exact hp), rfl, rfl⟩ rfl fun w hw => hw.sel [0, 1] (by simp))
          | (refine Next.mk (fun g => smnR ao bo n c d g0 g1 q0 q1 g) _ (hr _ (allB_no hlt (by simp only [smnP]; exact hp))) rfl fun w hw => hw.sel [0, 1] (by simp))
          | refine And.intro ?_ ?_
          | (intro h; exfalso; simp at h; omega)
          | (intro h; exfalso; simp [h] at hp; done)
          | (intro h; exfalso; rw [hp] at h; simp at h; done)
          | intro _
          | omega)
        all_goals (exfalso; simp_all; done)
    · have hjn : n = j := by omega
      subst hjn
      repeat' (first
        | (refine Next.mk (fun g => smnH ao bo n c d g0 g1 q0 q1 (.int (n : Int)) g) _ (hk _ hall) rfl fun w hw => hw.sel [0, 1] (by simp))
        | refine And.intro ?_ ?_
        | (intro h; exfalso; simp at h; done)
        | (intro h; exfalso; simp at h; omega)
        | intro _)
  · refine Next.mk (fun g => smnH ao bo n c d g0 g1 q0 q1 (.int ((0 : Nat) : Int)) g) _ ⟨_, allB_zero _, rfl, rfl⟩ h1 fun w hw => ?_
    rw [← hch]
    exact hw.sel [0, 1] (by simp)
def sameNB (n : Nat) (g0 g1 q0 q1 : Nat → Int) : Bool := allB n (fun j => (g0 j == q0 j) && ((g1 j == q1 j) && true))
theorem samn_T (ao bo : Option Addr) (n c d : Nat) (g0 g1 q0 q1 : Nat → Int) : (exFn Try.prog { L := [(4, ssmn ao bo n c d g0 g1 q0 q1)] } 400 Try.f41 ([.a (.c (.sl 0 ao n c)), .a (.c (.sl 1 bo n d))]) ([.row ⟨false, ao, 0, 2, n, 0, [fun i => .int (g0 i), fun i => .int (g1 i)]⟩, .row ⟨false, bo, 0, 2, n, 0, [fun i => .int (q0 i), fun i => .int (q1 i)]⟩]) (fun v _ => v.den = .bool (sameNB n g0 g1 q0 q1))) = (
  (((((n : Nat) : Int) != ((n : Nat) : Int)) = Bool.true →
  (Value.bool Bool.false) = (Value.bool (sameNB n g0 g1 q0 q1))) ∧
  ((((n : Nat) : Int) != ((n : Nat) : Int)) = Bool.false →
  (([(Value.slice ao n c), (Value.slice bo n d), (Value.tuple (List.toArray [])), (Value.tuple (List.toArray [])), (Value.bool Bool.false), (Value.int IntKind.i64 (0 : Int)), (Value.slice ao n c), (Value.int IntKind.i64 ((n : Nat) : Int)), (Value.slice bo n d), (Value.int IntKind.i64 ((n : Nat) : Int)), (Value.bool Bool.false), (Value.tuple (List.toArray [])), (Value.tuple (List.toArray [])), (Value.tuple (List.toArray [])), (Value.tuple (List.toArray [])), (Value.tuple (List.toArray [])), (Value.tuple (List.toArray [])), (Value.tuple (List.toArray [])), (Value.tuple (List.toArray [])), (Value.tuple (List.toArray [])), (Value.tuple (List.toArray [])), (Value.tuple (List.toArray [])), (Value.tuple (List.toArray [])), (Value.tuple (List.toArray [])), (Value.tuple (List.toArray [])), (Value.tuple (List.toArray []))] = [(Value.slice ao n c), (Value.slice bo n d), (Value.tuple (List.toArray [])), (Value.tuple (List.toArray [])), (Value.bool Bool.false), (Value.int IntKind.i64 (0 : Int)), (Value.slice ao n c), (Value.int IntKind.i64 ((n : Nat) : Int)), (Value.slice bo n d), (Value.int IntKind.i64 ((n : Nat) : Int)), (Value.bool Bool.false), (Value.tuple (List.toArray [])), (Value.tuple (List.toArray [])), (Value.tuple (List.toArray [])), (Value.tuple (List.toArray [])), (Value.tuple (List.toArray [])), (Value.tuple (List.toArray [])), (Value.tuple (List.toArray [])), (Value.tuple (List.toArray [])), (Value.tuple (List.toArray [])), (Value.tuple (List.toArray [])), (Value.tuple (List.toArray [])), (Value.tuple (List.toArray [])), (Value.tuple (List.toArray [])), (Value.tuple (List.toArray [])), (Value.tuple (List.toArray []))] ∧
   [(Ch.row (Row.mk Bool.false ao 0 2 n 0 [(fun (i0 : Nat) => (SC.int (g0 i0))), (fun (i1 : Nat) => (SC.int (g1 i1)))])), (Ch.row (Row.mk Bool.false bo 0 2 n 0 [(fun (i2 : Nat) => (SC.int (q0 i2))), (fun (i3 : Nat) => (SC.int (q1 i3)))]))] = [(Ch.row (Row.mk Bool.false ao 0 2 n 0 [(fun (i4 : Nat) => (SC.int (g0 i4))), (fun (i5 : Nat) => (SC.int (g1 i5)))])), (Ch.row (Row.mk Bool.false bo 0 2 n 0 [(fun (i6 : Nat) => (SC.int (q0 i6))), (fun (i7 : Nat) => (SC.int (q1 i7)))]))]) ∧
   ((∀ g8 : (Nat →
   Value),
   ((allB n (smnP ao bo n c d g0 g1 q0 q1)) = Bool.true →
   (Value.bool Bool.true) = (Value.bool (sameNB n g0 g1 q0 q1)))) ∧
   (∀ g9 : (Nat →
   Value),
   ((allB n (smnP ao bo n c d g0 g1 q0 q1)) = Bool.false →
   (Value.bool Bool.false) = (Value.bool (sameNB n g0 g1 q0 q1))))))))) := by kernel_rfl
theorem samn_any (ao bo : Option Addr) (n c d : Nat) (g0 g1 q0 q1 : Nat → Int) (w : World) (h1 : Row.sat w ⟨false, ao, 0, 2, n, 0, [fun i => .int (g0 i), fun i => .int (g1 i)]⟩) (h2 : Row.sat w ⟨false, bo, 0, 2, n, 0, [fun i => .int (q0 i), fun i => .int (q1 i)]⟩) (hn : n ≤ 9223372036854775807) : Calls Try.prog 41 #[.slice ao n c, .slice bo n d] w fun e w' => e = .returned (.bool (sameNB n g0 g1 q0 q1)) ∧ Below w.heap.size w w' := by
  refine fn_ok mixed (E := { L := [(4, ssmn ao bo n c d g0 g1 q0 q1)] }) trivial Try.func41 (one_loop (by kernel_rfl) (by kernel_rfl) (smn_ok ao bo n c d g0 g1 q0 q1 hn _)) (@Eq.mpr _ _ (samn_T ao bo n c d g0 g1 q0 q1) ?_) (HS.rows (fun _ => False) [⟨false, ao, 0, 2, n, 0, [fun i => .int (g0 i), fun i => .int (g1 i)]⟩, ⟨false, bo, 0, 2, n, 0, [fun i => .int (q0 i), fun i => .int (q1 i)]⟩] (by simp; exact ⟨h1, h2⟩)) (fun v ch' w' hv hs => ⟨by rw [hv], hs.below⟩)
  clear h1 h2
  have e : sameNB n g0 g1 q0 q1 = allB n (smnP ao bo n c d g0 g1 q0 q1) := by simp only [sameNB]; rfl
  rw [e]
  refine ⟨fun h => ?_, fun h => ?_⟩
  all_goals first | (exfalso; simp at h; done) | skip
  all_goals repeat' (first
    | with_reducible exact rfl
    | exact True.intro
    | with_reducible assumption
    | refine And.intro ?_ ?_
    | (intro g h; rw [h])
    | intro _)
abbrev eqN (a b : Nat) : Prop := a = b
def sSameN : Sm := fun args ch k =>
  match args with
  | [.a (.c x), .a (.c y)] => rd2 ch x fun n g0 g1 => rd2 ch y fun m q0 q1 => (lenC n ∧ eqN m n) ∧ k (.a (.c (.bool (sameNB n g0 g1 q0 q1)))) ch []
  | _ => False
theorem sSameN_ok : SmOK Try.prog 41 sSameN := by
  refine smB Try.call41 fun args ch k w X h0 hs => ?_
  unfold sSameN at h0
  split at h0
  · obtain ⟨ao, n, c, g0, g1, em, hr, h0⟩ := rd2_ok h0 hs
    obtain ⟨bo, m, d, q0, q1, em2, hr2, ⟨hn, rfl⟩, h0⟩ := rd2_ok h0 hs
    refine ⟨_, h0, ?_⟩
    simp only [List.map_cons, List.map_nil, den_a, den_c, em, em2]
    exact samn_any ao bo _ c d g0 g1 q0 q1 w hr hr2 hn
  · exact h0.elim
theorem sameN_yes {n : Nat} {g0 g1 q0 q1 : Nat → Int} (h : ∀ i, i < n → g0 i = q0 i ∧ g1 i = q1 i) : sameNB n g0 g1 q0 q1 = true := by
  simp only [sameNB, allB, List.all_eq_true, List.mem_range]
  intro i hi
  obtain ⟨h0, h1⟩ := h i hi
  simp [h0, h1]
theorem GoodX.forge {key : Int} {x : TrX} (h : GoodX key x) (hb : x.root ≤ 1000) {k q : Int} (hk : inR k 0 7) (hq : inR q 0 9999) :
    lcOk key x.root 2 8 x.mc x.mt (fun i => if i = k.toNat then x.lc k.toNat + 1 + q else x.lc i) x.lt k = false ∧ lcOk key x.root 2 8 x.mc x.mt (fun i => if i = k.toNat then x.lc k.toNat + 1 + q else x.lc i) x.lt ((k + 1) % 8) = true ∧
    bOk key x.root 2 8 x.mc x.mt (fun i => if i = k.toNat then x.lc k.toNat + 1 + q else x.lc i) x.lt 0 = false ∧ (0 ≤ x.lc k.toNat ∧ x.lc k.toNat ≤ 1000) := by
  have hk0 := hk.1
  have hk1 := hk.2
  have hq0 := hq.1
  have hq1 := hq.2
  obtain ⟨n, rfl⟩ : ∃ n : Nat, k = n := ⟨k.toNat, by omega⟩
  have hn : n < 8 := by omega
  simp only [Int.toNat_natCast]
  have f1 := GoodT.forged (d := 1 + q) (lc' := fun i => if i = n then x.lc n + 1 + q else x.lc i) h (by omega) (by omega) hn (by simp; omega)
  obtain ⟨m, hm⟩ : ∃ m : Nat, ((n : Int) + 1) % 8 = m := ⟨(((n : Int) + 1) % 8).toNat, by omega⟩
  have f2 := GoodT.other (lc' := fun i => if i = n then x.lc n + 1 + q else x.lc i) h (by omega) (j := m) (by omega) (by have : ¬ m = n := by omega
                                                                                                                         simp [this])
  have hc := h.cnt hn
  refine ⟨f1, by rw [hm]; exact f2, ?_, by omega, by omega⟩
  cases hbk : bOk key x.root 2 8 x.mc x.mt (fun i => if i = n then x.lc n + 1 + q else x.lc i) x.lt 0
  · rfl
  · have := treeB_get (bOk_facts hbk).2.1 n hn
    rw [this] at f1
    cases f1
def sSameT : Sm := inlM Try.prog {tb := [(41, sSameN)]} 300 Try.f18
theorem sSameT_ok : SmOK Try.prog 18 sSameT := inlM_ok mixed (E := {tb := [(41, sSameN)]}) ⟨sSameN_ok, trivial⟩ Try.func18 Try.call18 (fun _ _ _ => loopsOK_nil _ _ _)
end Go.Proofs.Ytppeocfcdeiemaa

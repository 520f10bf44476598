/-
  Spares made: the loops of the program.
-/
import Derived.Test.YtlkklplnomecgaaSxSpare
namespace Go.Proofs.Ytlkklplnomecgaa
set_option linter.unusedVariables false
set_option linter.unusedSimpArgs false
open Go.RowKit
set_option maxRecDepth 100000
set_option maxHeartbeats 8000000

abbrev mulN (a b : Nat) : Nat := a * b
def spF (m i : Nat) : Int := ((i % m : Nat) : Int)
def spT (G B R C sp : Int) (N m pa pb pc : Nat) (ao : Option Addr) (j cap : Nat) : List Ch := [.cells pa 49 [.int G, .int B, .int R, .int C], .cells pb 120 [.il 0, .nil], .cells pc 120 [.int sp, .sl 3 ao j cap], .row ⟨true, ao, 3, 1, j, cap, [fun i => .int (spF m i)]⟩]
def spT0 (G B R C sp : Int) (N m pa pb pc : Nat) : List Ch := [.cells pa 49 [.int G, .int B, .int R, .int C], .cells pb 120 [.il 0, .nil], .cells pc 120 [.int sp, .nil]]
def spIH (G B R C sp : Int) (N m pa pb pc : Nat) (k : Nat) (i : SC) (g : Nat → Value) : List SV := [.a (.c (.val (g 0))), .a (.c (.int sp)), .a (.c (.ptr 0 pa 0)), .a (.c (.val (g 3))), .a (.c (.ptr 1 pb 0)), .a (.c (.val (g 5))), .a (.c (.ptr 2 pc 0)), .a (.c (.int (k : Int))), .a (.c i), .a (.c (.val (g 9))), .a (.c (.val (g 10))), .a (.c (.val (g 11))), .a (.c (.val (g 12))), .a (.c (.val (g 13))), .a (.c (.val (g 14))), .a (.c (.val (g 15))), .a (.c (.val (g 16))), .a (.c (.val (g 17))), .a (.c (.val (g 18))), .a (.c (.val (g 19))), .a (.c (.val (g 20))), .a (.c (.val (g 21))), .a (.c (.val (g 22))), .a (.c (.val (g 23))), .a (.c (.val (g 24))), .a (.c (.val (g 25))), .a (.c (.val (g 26))), .a (.c (.val (g 27))), .a (.c (.val (g 28))), .a (.c (.val (g 29))), .a (.c (.val (g 30))), .a (.c (.val (g 31))), .a (.c (.val (g 32))), .a (.c (.val (g 33))), .a (.c (.val (g 34))), .a (.c (.val (g 35))), .a (.c (.val (g 36))), .a (.c (.val (g 37))), .a (.c (.val (g 38))), .a (.c (.val (g 39))), .a (.c (.val (g 40))), .a (.c (.val (g 41))), .a (.c (.val (g 42))), .a (.c (.val (g 43))), .a (.c (.val (g 44))), .a (.c (.val (g 45))), .a (.c (.val (g 46))), .a (.c (.val (g 47)))]
def ssp1 (G B R C sp : Int) (N m pa pb pc : Nat) : LSm := fun ts ch kk =>
  ∃ (k : Nat) (ao : Option Addr) (cap : Nat), ((ts.map SV.den = (spIH G B R C sp N m pa pb pc k (.il 0) (fun d => (ts.getD d .undef).den)).map SV.den ∧ ch = spT G B R C sp N m pa pb pc ao (mulN k m) cap) ∧ ltN k N) ∧
    ∀ g ao cap, kk (.exit 2) (spIH G B R C sp N m pa pb pc k (.int (m : Int)) g) (spT G B R C sp N m pa pb pc ao (mulN (addN k 1) m) cap)
theorem sp1B (G B R C sp : Int) (N m pa pb pc : Nat) (k : Nat) (ao : Option Addr) (j r cap : Nat) (g : Nat → Value) (NX : List SV → List Ch → Prop) (kx : Exit → List SV → List Ch → Prop) : (exCode Try.prog {} 400 (theLoop Try.f84 1) (spIH G B R C sp N m pa pb pc k (.int (r : Int)) g) (spT G B R C sp N m pa pb pc ao j cap) (loopK NX kx)) = (
  (pa = pa ∧
  ((rng (R - sp)) ∧
  (((decide (((r : Nat) : Int) < (R - sp))) = Bool.true →
  (pc = pc ∧
   (∀ b0 : Nat,
   ((ao = ao ∧
   (j = j ∧
   (cap = cap ∧
   (b0 = b0 ∧
   ((∀ i1 : Nat,
   Bool.true = Bool.true) ∧
   (apC j 1 8)))))) ∧
   (∀ ao'2 : (Option Addr),
   (∀ cap'3 : Nat,
   (pc = pc ∧
   ((rng (((r : Nat) : Int) + (1 : Int))) ∧
   (NX [(SV.a (SA.c (SC.val (g 0)))), (SV.a (SA.c (SC.int sp))), (SV.a (SA.c (SC.ptr 0 pa 0))), (SV.a (SA.c (SC.val (g 3)))), (SV.a (SA.c (SC.ptr 1 pb 0))), (SV.a (SA.c (SC.val (g 5)))), (SV.a (SA.c (SC.ptr 2 pc 0))), (SV.a (SA.c (SC.int ((k : Nat) : Int)))), (SV.a (SA.c (SC.int (((r : Nat) : Int) + (1 : Int))))), (SV.a (SA.c (SC.val (g 9)))), (SV.a (SA.c (SC.val (g 10)))), (SV.a (SA.c (SC.val (g 11)))), (SV.a (SA.c (SC.val (g 12)))), (SV.a (SA.c (SC.val (g 13)))), (SV.a (SA.c (SC.val (g 14)))), (SV.a (SA.c (SC.val (g 15)))), (SV.a (SA.c (SC.val (g 16)))), (SV.a (SA.c (SC.val (g 17)))), (SV.a (SA.c (SC.val (g 18)))), (SV.a (SA.c (SC.val (g 19)))), (SV.a (SA.c (SC.val (g 20)))), (SV.a (SA.c (SC.val (g 21)))), (SV.a (SA.c (SC.val (g 22)))), (SV.a (SA.c (SC.val (g 23)))), (SV.a (SA.c (SC.val (g 24)))), (SV.a (SA.c (SC.val (g 25)))), (SV.a (SA.c (SC.val (g 26)))), (SV.a (SA.c (SC.val (g 27)))), (SV.a (SA.c (SC.val (g 28)))), (SV.a (SA.c (SC.val (g 29)))), (SV.a (SA.c (SC.val (g 30)))), (SV.a (SA.c (SC.val (g 31)))), (SV.a (SA.c (SC.val (g 32)))), (SV.a (SA.c (SC.int ((r : Nat) : Int)))), (SV.a (SA.c (SC.ptr 0 pa 2))), (SV.a (SA.c (SC.int R))), (SV.a (SA.c (SC.int sp))), (SV.a (SA.c (SC.int (R - sp)))), (SV.a (SA.c (SC.lit Bool.true))), (SV.a (SA.c (SC.int ((r : Nat) : Int)))), (SV.a (SA.c (SC.int (((r : Nat) : Int) + (1 : Int))))), (SV.a (SA.c (SC.ptr 2 pc 1))), (SV.a (SA.c (SC.sl 3 ao j cap))), (SV.a (SA.c (SC.int ((r : Nat) : Int)))), (SV.a (SA.c (SC.slc 4 b0 1 1))), (SV.a (SA.c (SC.sl 5 ao'2 (j + 1) cap'3))), (SV.a (SA.c (SC.ptr 2 pc 1))), (SV.a (SA.c (SC.val (g 47))))] [(Ch.cells pa 49 [(SC.int G), (SC.int B), (SC.int R), (SC.int C)]), (Ch.cells pb 120 [(SC.il (0 : Int)), SC.nil]), (Ch.cells pc 120 [(SC.int sp), (SC.sl 5 ao'2 (j + 1) cap'3)]), Ch.dead, (Ch.cells b0 3 [(SC.int ((r : Nat) : Int))]), (Ch.row (Row.mk Bool.true ao'2 3 1 (j + 1) cap'3 [(fun (i4 : Nat) => (SC.int (if i4 < j then (spF m i4) else ((r : Nat) : Int))))]))]))))))))) ∧
  ((decide (((r : Nat) : Int) < (R - sp))) = Bool.false →
  (kx (Exit.exit 2) [(SV.a (SA.c (SC.val (g 0)))), (SV.a (SA.c (SC.int sp))), (SV.a (SA.c (SC.ptr 0 pa 0))), (SV.a (SA.c (SC.val (g 3)))), (SV.a (SA.c (SC.ptr 1 pb 0))), (SV.a (SA.c (SC.val (g 5)))), (SV.a (SA.c (SC.ptr 2 pc 0))), (SV.a (SA.c (SC.int ((k : Nat) : Int)))), (SV.a (SA.c (SC.int ((r : Nat) : Int)))), (SV.a (SA.c (SC.val (g 9)))), (SV.a (SA.c (SC.val (g 10)))), (SV.a (SA.c (SC.val (g 11)))), (SV.a (SA.c (SC.val (g 12)))), (SV.a (SA.c (SC.val (g 13)))), (SV.a (SA.c (SC.val (g 14)))), (SV.a (SA.c (SC.val (g 15)))), (SV.a (SA.c (SC.val (g 16)))), (SV.a (SA.c (SC.val (g 17)))), (SV.a (SA.c (SC.val (g 18)))), (SV.a (SA.c (SC.val (g 19)))), (SV.a (SA.c (SC.val (g 20)))), (SV.a (SA.c (SC.val (g 21)))), (SV.a (SA.c (SC.val (g 22)))), (SV.a (SA.c (SC.val (g 23)))), (SV.a (SA.c (SC.val (g 24)))), (SV.a (SA.c (SC.val (g 25)))), (SV.a (SA.c (SC.val (g 26)))), (SV.a (SA.c (SC.val (g 27)))), (SV.a (SA.c (SC.val (g 28)))), (SV.a (SA.c (SC.val (g 29)))), (SV.a (SA.c (SC.val (g 30)))), (SV.a (SA.c (SC.val (g 31)))), (SV.a (SA.c (SC.val (g 32)))), (SV.a (SA.c (SC.int ((r : Nat) : Int)))), (SV.a (SA.c (SC.ptr 0 pa 2))), (SV.a (SA.c (SC.int R))), (SV.a (SA.c (SC.int sp))), (SV.a (SA.c (SC.int (R - sp)))), (SV.a (SA.c (SC.lit Bool.false))), (SV.a (SA.c (SC.val (g 39)))), (SV.a (SA.c (SC.val (g 40)))), (SV.a (SA.c (SC.val (g 41)))), (SV.a (SA.c (SC.val (g 42)))), (SV.a (SA.c (SC.val (g 43)))), (SV.a (SA.c (SC.val (g 44)))), (SV.a (SA.c (SC.val (g 45)))), (SV.a (SA.c (SC.val (g 46)))), (SV.a (SA.c (SC.val (g 47))))] [(Ch.cells pa 49 [(SC.int G), (SC.int B), (SC.int R), (SC.int C)]), (Ch.cells pb 120 [(SC.il (0 : Int)), SC.nil]), (Ch.cells pc 120 [(SC.int sp), (SC.sl 3 ao j cap)]), (Ch.row (Row.mk Bool.true ao 3 1 j cap [(fun (i5 : Nat) => (SC.int (spF m i5)))]))])))))) := by kernel_rfl
theorem sp1_ok (G B R C sp : Int) (N m pa pb pc : Nat) (hg : geoB G B R C = true) (hN : bankN G B R C = (N : Int)) (hm : R - sp = (m : Int)) (hb : N ≤ 8 ∧ 2 ≤ m ∧ m ≤ 16 ∧ 0 ≤ sp ∧ sp ≤ 2) (X : Cx) : LoopOK Try.prog X (theLoop Try.f84 1) (ssp1 G B R C sp N m pa pb pc) := by
  intro ts ch kk a w hS hT hd hs
  obtain ⟨k, ao0, cap0, ⟨⟨h1, rfl⟩, hkN⟩, hk⟩ := hS
  have hkm : (k + 1) * m ≤ 128 := Nat.le_trans (Nat.mul_le_mul (show k + 1 ≤ 8 by omega) hb.2.2.1) (by omega)
  have hkm2 : (k + 1) * m = k * m + m := Nat.succ_mul k m
  refine loop_ok mixed (E := {}) trivial (loopsOK_nil _ _ _) 400 m (fun r ts ch => ∃ g ao cap, ts = spIH G B R C sp N m pa pb pc k (.int (r : Int)) g ∧ ch = spT G B R C sp N m pa pb pc ao (k * m + r) cap) ?_ ?_ hT hd hs
  · rintro r _ _ ⟨g, ao, cap, rfl, rfl⟩ hj
    refine (sp1B G B R C sp N m pa pb pc k ao (k * m + r) r cap g _ _).mpr ?_
    by_cases hlt : r < m
    · have hmod : spF m (k * m + r) = (r : Int) := by
        simp only [spF]
        rw [Nat.mul_add_mod_self_right, Nat.mod_eq_of_lt hlt]
      repeat' (first
        | with_reducible exact rfl
        | exact True.intro
        | with_reducible assumption
        | (refine ⟨hlt, ?_⟩; refine Next.mk (fun g => spIH G B R C sp N m pa pb pc k (.int ((r + 1 : Nat) : Int)) g) _ ⟨_, _, _, rfl, rfl⟩ rfl (fun w hw => ((hw.sel [0, 1, 2, 5] (by simp)).recell 2 rfl [.int sp, .sl 3 _ (k * m + r + 1) _] rfl).re 3 _ rfl [fun i => .int (spF m i)] ?_); refine ⟨fun i hi => ?_, trivial⟩)
        | fail
        | refine And.intro ?_ ?_
        | (intro h; replace h := of_decide_eq_true h; first | (exfalso; omega) | skip)
        | (intro h; replace h := of_decide_eq_false h; first | (exfalso; omega) | skip)
        | intro _
        | omega
        | (simp; omega))
      all_goals
        rename_i i hi
        have hi : i < k * m + r + 1 := hi
        simp only [SC.den]
        by_cases e : i < k * m + r
        · simp [e]
        · have e2 : i = k * m + r := by omega
          subst e2
          simp [hmod]
    · have hjn : r = m := by omega
      subst hjn
      repeat' (first
        | with_reducible exact rfl
        | exact True.intro
        | with_reducible assumption
        | fail
        | (refine Next.mk (fun g => spIH G B R C sp N r pa pb pc k (.int (r : Int)) g) _ (by have := hk; rw [show mulN (addN k 1) r = k * r + r from hkm2] at this; exact this _ _ _) rfl fun w hw => hw)
        | refine And.intro ?_ ?_
        | (intro h; replace h := of_decide_eq_true h; first | (exfalso; omega) | skip)
        | (intro h; replace h := of_decide_eq_false h; first | (exfalso; omega) | skip)
        | intro _
        | omega
        | (simp; omega))
  · exact Next.mk (fun g => spIH G B R C sp N m pa pb pc k (.int ((0 : Nat) : Int)) g) _ ⟨_, _, _, rfl, rfl⟩ h1 fun w hw => hw
def sp0H (G B R C sp : Int) (N m pa pb pc : Nat) (i : SC) (g : Nat → Value) : List SV := [.a (.c (.val (g 0))), .a (.c (.int sp)), .a (.c (.ptr 0 pa 0)), .a (.c (.val (g 3))), .a (.c (.ptr 1 pb 0)), .a (.c (.val (g 5))), .a (.c (.ptr 2 pc 0)), .a (.c i), .a (.c (.val (g 8))), .a (.c (.val (g 9))), .a (.c (.val (g 10))), .a (.c (.val (g 11))), .a (.c (.val (g 12))), .a (.c (.val (g 13))), .a (.c (.val (g 14))), .a (.c (.val (g 15))), .a (.c (.val (g 16))), .a (.c (.val (g 17))), .a (.c (.val (g 18))), .a (.c (.val (g 19))), .a (.c (.val (g 20))), .a (.c (.val (g 21))), .a (.c (.val (g 22))), .a (.c (.val (g 23))), .a (.c (.val (g 24))), .a (.c (.val (g 25))), .a (.c (.val (g 26))), .a (.c (.val (g 27))), .a (.c (.val (g 28))), .a (.c (.val (g 29))), .a (.c (.val (g 30))), .a (.c (.val (g 31))), .a (.c (.val (g 32))), .a (.c (.val (g 33))), .a (.c (.val (g 34))), .a (.c (.val (g 35))), .a (.c (.val (g 36))), .a (.c (.val (g 37))), .a (.c (.val (g 38))), .a (.c (.val (g 39))), .a (.c (.val (g 40))), .a (.c (.val (g 41))), .a (.c (.val (g 42))), .a (.c (.val (g 43))), .a (.c (.val (g 44))), .a (.c (.val (g 45))), .a (.c (.val (g 46))), .a (.c (.val (g 47)))]
def ssp0 (G B R C sp : Int) (N m pa pb pc : Nat) : LSm := fun ts ch kk =>
  (ts.map SV.den = (sp0H G B R C sp N m pa pb pc (.il 0) (fun d => (ts.getD d .undef).den)).map SV.den ∧ ch = spT0 G B R C sp N m pa pb pc) ∧
    ∀ g ao cap, kk (.exit 0) (sp0H G B R C sp N m pa pb pc (.int (N : Int)) g) (spT G B R C sp N m pa pb pc ao (mulN N m) cap)
theorem sp0B (G B R C sp : Int) (N m pa pb pc : Nat) (k : Nat) (ao : Option Addr) (cap : Nat) (g : Nat → Value) (NX : List SV → List Ch → Prop) (kx : Exit → List SV → List Ch → Prop) : (exCode Try.prog {tb := [(101, sBank)], L := [(8, ssp1 G B R C sp N m pa pb pc)]} 400 (theLoop Try.f84 0) (sp0H G B R C sp N m pa pb pc (.int (k : Int)) g) (spT G B R C sp N m pa pb pc ao (mulN k m) cap) (loopK NX kx)) = (
  (pa = pa ∧
  (((decide (((k : Nat) : Int) < (bankN G B R C))) = Bool.true →
  (Exists (fun (k0 : Nat) => (Exists (fun (ao1 : (Option Addr)) => (Exists (fun (cap2 : Nat) => ((([(g 0), (Value.int IntKind.i64 sp), (Value.pointer (Option.some (Addr.mk pa 0 Option.none))), (g 3), (Value.pointer (Option.some (Addr.mk pb 0 Option.none))), (g 5), (Value.pointer (Option.some (Addr.mk pc 0 Option.none))), (Value.int IntKind.i64 ((k : Nat) : Int)), (Value.int IntKind.i64 (0 : Int)), (g 9), (g 10), (g 11), (g 12), (g 13), (g 14), (g 15), (g 16), (g 17), (g 18), (g 19), (g 20), (g 21), (g 22), (g 23), (g 24), (g 25), (g 26), (Value.int IntKind.i64 ((k : Nat) : Int)), (Value.agg (List.toArray [(Value.int IntKind.i64 G), (Value.int IntKind.i64 B), (Value.int IntKind.i64 R), (Value.int IntKind.i64 C)])), (Value.int IntKind.i64 (bankN G B R C)), (Value.bool Bool.true), (g 31), (g 32), (g 33), (g 34), (g 35), (g 36), (g 37), (g 38), (g 39), (g 40), (g 41), (g 42), (g 43), (g 44), (g 45), (g 46), (g 47)] = [(g 0), (Value.int IntKind.i64 sp), (Value.pointer (Option.some (Addr.mk pa 0 Option.none))), (g 3), (Value.pointer (Option.some (Addr.mk pb 0 Option.none))), (g 5), (Value.pointer (Option.some (Addr.mk pc 0 Option.none))), (Value.int IntKind.i64 ((k0 : Nat) : Int)), (Value.int IntKind.i64 (0 : Int)), (g 9), (g 10), (g 11), (g 12), (g 13), (g 14), (g 15), (g 16), (g 17), (g 18), (g 19), (g 20), (g 21), (g 22), (g 23), (g 24), (g 25), (g 26), (Value.int IntKind.i64 ((k : Nat) : Int)), (Value.agg (List.toArray [(Value.int IntKind.i64 G), (Value.int IntKind.i64 B), (Value.int IntKind.i64 R), (Value.int IntKind.i64 C)])), (Value.int IntKind.i64 (bankN G B R C)), (Value.bool Bool.true), (g 31), (g 32), (g 33), (g 34), (g 35), (g 36), (g 37), (g 38), (g 39), (g 40), (g 41), (g 42), (g 43), (g 44), (g 45), (g 46), (g 47)] ∧
   [(Ch.cells pa 49 [(SC.int G), (SC.int B), (SC.int R), (SC.int C)]), (Ch.cells pb 120 [(SC.il (0 : Int)), SC.nil]), (Ch.cells pc 120 [(SC.int sp), (SC.sl 3 ao (mulN k m) cap)]), (Ch.row (Row.mk Bool.true ao 3 1 (mulN k m) cap [(fun (i3 : Nat) => (SC.int (spF m i3)))]))] = [(Ch.cells pa 49 [(SC.int G), (SC.int B), (SC.int R), (SC.int C)]), (Ch.cells pb 120 [(SC.il (0 : Int)), SC.nil]), (Ch.cells pc 120 [(SC.int sp), (SC.sl 3 ao1 (mulN k0 m) cap2)]), (Ch.row (Row.mk Bool.true ao1 3 1 (mulN k0 m) cap2 [(fun (i4 : Nat) => (SC.int (spF m i4)))]))]) ∧
   k0 < N) ∧
   (∀ g5 : (Nat →
   Value),
   (∀ ao6 : (Option Addr),
   (∀ cap7 : Nat,
   ((rng (((k0 : Nat) : Int) + (1 : Int))) ∧
   (NX [(SV.a (SA.c (SC.val (g5 0)))), (SV.a (SA.c (SC.int sp))), (SV.a (SA.c (SC.ptr 0 pa 0))), (SV.a (SA.c (SC.val (g5 3)))), (SV.a (SA.c (SC.ptr 1 pb 0))), (SV.a (SA.c (SC.val (g5 5)))), (SV.a (SA.c (SC.ptr 2 pc 0))), (SV.a (SA.c (SC.int (((k0 : Nat) : Int) + (1 : Int))))), (SV.a (SA.c (SC.int ((m : Nat) : Int)))), (SV.a (SA.c (SC.val (g5 9)))), (SV.a (SA.c (SC.val (g5 10)))), (SV.a (SA.c (SC.val (g5 11)))), (SV.a (SA.c (SC.val (g5 12)))), (SV.a (SA.c (SC.val (g5 13)))), (SV.a (SA.c (SC.val (g5 14)))), (SV.a (SA.c (SC.val (g5 15)))), (SV.a (SA.c (SC.val (g5 16)))), (SV.a (SA.c (SC.val (g5 17)))), (SV.a (SA.c (SC.val (g5 18)))), (SV.a (SA.c (SC.val (g5 19)))), (SV.a (SA.c (SC.val (g5 20)))), (SV.a (SA.c (SC.val (g5 21)))), (SV.a (SA.c (SC.val (g5 22)))), (SV.a (SA.c (SC.val (g5 23)))), (SV.a (SA.c (SC.val (g5 24)))), (SV.a (SA.c (SC.val (g5 25)))), (SV.a (SA.c (SC.val (g5 26)))), (SV.a (SA.c (SC.val (g5 27)))), (SV.a (SA.c (SC.val (g5 28)))), (SV.a (SA.c (SC.val (g5 29)))), (SV.a (SA.c (SC.val (g5 30)))), (SV.a (SA.c (SC.int ((k0 : Nat) : Int)))), (SV.a (SA.c (SC.int (((k0 : Nat) : Int) + (1 : Int))))), (SV.a (SA.c (SC.val (g5 33)))), (SV.a (SA.c (SC.val (g5 34)))), (SV.a (SA.c (SC.val (g5 35)))), (SV.a (SA.c (SC.val (g5 36)))), (SV.a (SA.c (SC.val (g5 37)))), (SV.a (SA.c (SC.val (g5 38)))), (SV.a (SA.c (SC.val (g5 39)))), (SV.a (SA.c (SC.val (g5 40)))), (SV.a (SA.c (SC.val (g5 41)))), (SV.a (SA.c (SC.val (g5 42)))), (SV.a (SA.c (SC.val (g5 43)))), (SV.a (SA.c (SC.val (g5 44)))), (SV.a (SA.c (SC.val (g5 45)))), (SV.a (SA.c (SC.val (g5 46)))), (SV.a (SA.c (SC.val (g5 47))))] [(Ch.cells pa 49 [(SC.int G), (SC.int B), (SC.int R), (SC.int C)]), (Ch.cells pb 120 [(SC.il (0 : Int)), SC.nil]), (Ch.cells pc 120 [(SC.int sp), (SC.sl 3 ao6 (mulN (k0 + 1) m) cap7)]), (Ch.row (Row.mk Bool.true ao6 3 1 (mulN (k0 + 1) m) cap7 [(fun (i8 : Nat) => (SC.int (spF m i8)))]))]))))))))))))) ∧
  ((decide (((k : Nat) : Int) < (bankN G B R C))) = Bool.false →
  (kx (Exit.exit 0) [(SV.a (SA.c (SC.val (g 0)))), (SV.a (SA.c (SC.int sp))), (SV.a (SA.c (SC.ptr 0 pa 0))), (SV.a (SA.c (SC.val (g 3)))), (SV.a (SA.c (SC.ptr 1 pb 0))), (SV.a (SA.c (SC.val (g 5)))), (SV.a (SA.c (SC.ptr 2 pc 0))), (SV.a (SA.c (SC.int ((k : Nat) : Int)))), (SV.a (SA.c (SC.val (g 8)))), (SV.a (SA.c (SC.val (g 9)))), (SV.a (SA.c (SC.val (g 10)))), (SV.a (SA.c (SC.val (g 11)))), (SV.a (SA.c (SC.val (g 12)))), (SV.a (SA.c (SC.val (g 13)))), (SV.a (SA.c (SC.val (g 14)))), (SV.a (SA.c (SC.val (g 15)))), (SV.a (SA.c (SC.val (g 16)))), (SV.a (SA.c (SC.val (g 17)))), (SV.a (SA.c (SC.val (g 18)))), (SV.a (SA.c (SC.val (g 19)))), (SV.a (SA.c (SC.val (g 20)))), (SV.a (SA.c (SC.val (g 21)))), (SV.a (SA.c (SC.val (g 22)))), (SV.a (SA.c (SC.val (g 23)))), (SV.a (SA.c (SC.val (g 24)))), (SV.a (SA.c (SC.val (g 25)))), (SV.a (SA.c (SC.val (g 26)))), (SV.a (SA.c (SC.int ((k : Nat) : Int)))), (SV.a (SA.agg [(SC.int G), (SC.int B), (SC.int R), (SC.int C)])), (SV.a (SA.c (SC.int (bankN G B R C)))), (SV.a (SA.c (SC.lit Bool.false))), (SV.a (SA.c (SC.val (g 31)))), (SV.a (SA.c (SC.val (g 32)))), (SV.a (SA.c (SC.val (g 33)))), (SV.a (SA.c (SC.val (g 34)))), (SV.a (SA.c (SC.val (g 35)))), (SV.a (SA.c (SC.val (g 36)))), (SV.a (SA.c (SC.val (g 37)))), (SV.a (SA.c (SC.val (g 38)))), (SV.a (SA.c (SC.val (g 39)))), (SV.a (SA.c (SC.val (g 40)))), (SV.a (SA.c (SC.val (g 41)))), (SV.a (SA.c (SC.val (g 42)))), (SV.a (SA.c (SC.val (g 43)))), (SV.a (SA.c (SC.val (g 44)))), (SV.a (SA.c (SC.val (g 45)))), (SV.a (SA.c (SC.val (g 46)))), (SV.a (SA.c (SC.val (g 47))))] [(Ch.cells pa 49 [(SC.int G), (SC.int B), (SC.int R), (SC.int C)]), (Ch.cells pb 120 [(SC.il (0 : Int)), SC.nil]), (Ch.cells pc 120 [(SC.int sp), (SC.sl 3 ao (mulN k m) cap)]), (Ch.row (Row.mk Bool.true ao 3 1 (mulN k m) cap [(fun (i9 : Nat) => (SC.int (spF m i9)))]))]))))) := by kernel_rfl
theorem sp0_ok (G B R C sp : Int) (N m pa pb pc : Nat) (hg : geoB G B R C = true) (hN : bankN G B R C = (N : Int)) (hm : R - sp = (m : Int)) (hb : N ≤ 8 ∧ 2 ≤ m ∧ m ≤ 16 ∧ 0 ≤ sp ∧ sp ≤ 2) (X : Cx) : LoopOK Try.prog X (theLoop Try.f84 0) (ssp0 G B R C sp N m pa pb pc) := by
  intro ts ch kk a w hS hT hd hs
  obtain ⟨⟨h1, rfl⟩, hk⟩ := hS
  refine loop_ok mixed (E := { tb := [(101, sBank)], L := [(8, ssp1 G B R C sp N m pa pb pc)] }) ⟨sBank_I, trivial⟩ (body_loop (by kernel_rfl) (by kernel_rfl) (sp1_ok G B R C sp N m pa pb pc hg hN hm hb X)) 400 N (fun k ts ch => ∃ g ao cap, ts = sp0H G B R C sp N m pa pb pc (.int (k : Int)) g ∧ ch = spT G B R C sp N m pa pb pc ao (mulN k m) cap) ?_ ?_ hT hd hs
  · rintro k _ _ ⟨g, ao, cap, rfl, rfl⟩ hj
    refine (sp0B G B R C sp N m pa pb pc k ao cap g _ _).mpr ?_
    by_cases hlt : k < N
    · repeat' (first
        | with_reducible exact rfl
        | exact True.intro
        | with_reducible assumption
        | (refine ⟨hlt, ?_⟩; refine Next.mk (fun g => sp0H G B R C sp N m pa pb pc (.int ((k + 1 : Nat) : Int)) g) _ ⟨_, _, _, rfl, rfl⟩ rfl fun w hw => hw)
        | refine And.intro ?_ ?_
        | apply Exists.intro
        | (intro h; replace h := of_decide_eq_true h; first | (exfalso; omega) | skip)
        | (intro h; replace h := of_decide_eq_false h; first | (exfalso; omega) | skip)
        | intro _
        | omega
        | (simp; omega))
    · have hjn : k = N := by omega
      subst hjn
      repeat' (first
        | with_reducible exact rfl
        | exact True.intro
        | with_reducible assumption
        | fail
        | (refine Next.mk (fun g => sp0H G B R C sp k m pa pb pc (.int (k : Int)) g) _ (hk _ _ _) rfl fun w hw => hw)
        | refine And.intro ?_ ?_
        | (intro h; replace h := of_decide_eq_true h; first | (exfalso; omega) | skip)
        | (intro h; replace h := of_decide_eq_false h; first | (exfalso; omega) | skip)
        | intro _
        | omega
        | (simp; omega))
  · refine Next.mk (fun g => sp0H G B R C sp N m pa pb pc (.int ((0 : Nat) : Int)) g) _ ⟨_, none, 0, rfl, rfl⟩ h1 fun w hw => ?_
    have h2 := (hw.addNil ⟨true, none, 3, 1, 0, 0, [fun i => .int (spF m i)]⟩ rfl rfl rfl rfl rfl).recell 2 rfl [.int sp, .sl 3 none 0 0] rfl
    have e : mulN 0 m = 0 := Nat.zero_mul m
    rw [e]
    exact h2
end Go.Proofs.Ytlkklplnomecgaa

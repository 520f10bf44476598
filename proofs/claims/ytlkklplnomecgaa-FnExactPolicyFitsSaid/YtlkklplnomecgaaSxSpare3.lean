/-
  Spares made.
-/
import Derived.Test.YtlkklplnomecgaaSxSpare2
namespace Go.Proofs.Ytlkklplnomecgaa
set_option linter.unusedVariables false
set_option linter.unusedSimpArgs false
open Go.RowKit
set_option maxRecDepth 100000
set_option maxHeartbeats 8000000

def sqH (G B R C sp : Int) (N m pa pb pc : Nat) (i : SC) (g : Nat → Value) : List SV := [.a (.c (.val (g 0))), .a (.c (.int sp)), .a (.c (.ptr 0 pa 0)), .a (.c (.val (g 3))), .a (.c (.ptr 1 pb 0)), .a (.c (.val (g 5))), .a (.c (.ptr 2 pc 0)), .a (.c i), .a (.c (.val (g 8))), .a (.c (.val (g 9))), .a (.c (.val (g 10))), .a (.c (.val (g 11))), .a (.c (.val (g 12))), .a (.c (.val (g 13))), .a (.c (.val (g 14))), .a (.c (.val (g 15))), .a (.c (.val (g 16))), .a (.c (.val (g 17))), .a (.c (.val (g 18))), .a (.c (.val (g 19))), .a (.c (.val (g 20))), .a (.c (.val (g 21))), .a (.c (.val (g 22))), .a (.c (.val (g 23))), .a (.c (.val (g 24))), .a (.c (.val (g 25))), .a (.c (.val (g 26))), .a (.c (.val (g 27))), .a (.c (.val (g 28))), .a (.c (.val (g 29))), .a (.c (.val (g 30))), .a (.c (.val (g 31))), .a (.c (.val (g 32))), .a (.c (.val (g 33))), .a (.c (.val (g 34))), .a (.c (.val (g 35))), .a (.c (.val (g 36))), .a (.c (.val (g 37))), .a (.c (.val (g 38))), .a (.c (.val (g 39))), .a (.c (.val (g 40))), .a (.c (.val (g 41))), .a (.c (.val (g 42))), .a (.c (.val (g 43))), .a (.c (.val (g 44))), .a (.c (.val (g 45))), .a (.c (.val (g 46))), .a (.c (.val (g 47))), .a (.c (.val (g 48)))]
def ssq (G B R C sp : Int) (N m pa pb pc : Nat) (K : Nat) : LSm := fun ts ch kk =>
  (ts.map SV.den = (sqH G B R C sp N m pa pb pc (.il 0) (fun d => (ts.getD d .undef).den)).map SV.den ∧ ch = spT0 G B R C sp N m pa pb pc) ∧
    ∀ g ao cap, kk (.exit 0) (sqH G B R C sp N m pa pb pc (.int (K : Int)) g) (spT G B R C sp N m pa pb pc ao K cap)
theorem sqB (G B R C sp : Int) (N m pa pb pc : Nat) (ao : Option Addr) (j cap : Nat) (g : Nat → Value) (NX : List SV → List Ch → Prop) (kx : Exit → List SV → List Ch → Prop) : (exCode Try.prog {tb := [(100, sBank)], D := fun _ => [3]} 400 (theLoop Try.f80 0) (sqH G B R C sp N m pa pb pc (.int (j : Int)) g) (spT G B R C sp N m pa pb pc ao j cap) (loopK NX kx)) = (
  (pa = pa ∧
  (pa = pa ∧
  ((rng (R - sp)) ∧
  (True ∧
  ((rng ((bankN G B R C) * (R - sp))) ∧
  (((decide (((j : Nat) : Int) < ((bankN G B R C) * (R - sp)))) = Bool.true →
  (pc = pc ∧
   (pa = pa ∧
   ((rng (R - sp)) ∧
   ((divC ((j : Nat) : Int) (R - sp)) ∧
   (∀ b0 : Nat,
   (True ∧
   ((ao = ao ∧
   (j = j ∧
   (cap = cap ∧
   (b0 = b0 ∧
   ((∀ i1 : Nat,
   Bool.true = Bool.true) ∧
   (apC j 1 8)))))) ∧
   (∀ ao'2 : (Option Addr),
   (∀ cap'3 : Nat,
   (True ∧
   (pc = pc ∧
   (True ∧
   ((rng (((j : Nat) : Int) + (1 : Int))) ∧
   (NX [(SV.a (SA.c (SC.val (g 0)))), (SV.a (SA.c (SC.int sp))), (SV.a (SA.c (SC.ptr 0 pa 0))), (SV.a (SA.c (SC.val (g 3)))), (SV.a (SA.c (SC.ptr 1 pb 0))), (SV.a (SA.c (SC.val (g 5)))), (SV.a (SA.c (SC.ptr 2 pc 0))), (SV.a (SA.c (SC.int (((j : Nat) : Int) + (1 : Int))))), (SV.a (SA.c (SC.val (g 8)))), (SV.a (SA.c (SC.val (g 9)))), (SV.a (SA.c (SC.val (g 10)))), (SV.a (SA.c (SC.val (g 11)))), (SV.a (SA.c (SC.val (g 12)))), (SV.a (SA.c (SC.val (g 13)))), (SV.a (SA.c (SC.val (g 14)))), (SV.a (SA.c (SC.val (g 15)))), (SV.a (SA.c (SC.val (g 16)))), (SV.a (SA.c (SC.val (g 17)))), (SV.a (SA.c (SC.val (g 18)))), (SV.a (SA.c (SC.val (g 19)))), (SV.a (SA.c (SC.val (g 20)))), (SV.a (SA.c (SC.val (g 21)))), (SV.a (SA.c (SC.val (g 22)))), (SV.a (SA.c (SC.val (g 23)))), (SV.a (SA.c (SC.val (g 24)))), (SV.a (SA.c (SC.val (g 25)))), (SV.a (SA.c (SC.int ((j : Nat) : Int)))), (SV.a (SA.agg [(SC.int G), (SC.int B), (SC.int R), (SC.int C)])), (SV.a (SA.c (SC.int (bankN G B R C)))), (SV.a (SA.c (SC.ptr 0 pa 2))), (SV.a (SA.c (SC.int R))), (SV.a (SA.c (SC.int sp))), (SV.a (SA.c (SC.int (R - sp)))), (SV.a (SA.c (SC.int ((bankN G B R C) * (R - sp))))), (SV.a (SA.c (SC.lit Bool.true))), (SV.a (SA.c (SC.int ((j : Nat) : Int)))), (SV.a (SA.c (SC.int (((j : Nat) : Int) + (1 : Int))))), (SV.a (SA.c (SC.ptr 2 pc 1))), (SV.a (SA.c (SC.sl 3 ao j cap))), (SV.a (SA.c (SC.int ((j : Nat) : Int)))), (SV.a (SA.c (SC.ptr 0 pa 2))), (SV.a (SA.c (SC.int R))), (SV.a (SA.c (SC.int sp))), (SV.a (SA.c (SC.int (R - sp)))), (SV.a (SA.c (SC.int (((j : Nat) : Int) % (R - sp))))), (SV.a (SA.c (SC.slc 4 b0 1 1))), (SV.a (SA.c (SC.sl 5 ao'2 (j + 1) cap'3))), (SV.a (SA.c (SC.ptr 2 pc 1))), (SV.a (SA.c (SC.val (g 48))))] [(Ch.cells pa 49 [(SC.int G), (SC.int B), (SC.int R), (SC.int C)]), (Ch.cells pb 120 [(SC.il (0 : Int)), SC.nil]), (Ch.cells pc 120 [(SC.int sp), (SC.sl 5 ao'2 (j + 1) cap'3)]), Ch.dead, (Ch.cells b0 3 [(SC.int (((j : Nat) : Int) % (R - sp)))]), (Ch.row (Row.mk Bool.true ao'2 3 1 (j + 1) cap'3 [(fun (i4 : Nat) => (SC.int (if i4 < j then (spF m i4) else (((j : Nat) : Int) % (R - sp)))))]))]))))))))))))))) ∧
  ((decide (((j : Nat) : Int) < ((bankN G B R C) * (R - sp)))) = Bool.false →
  (kx (Exit.exit 0) [(SV.a (SA.c (SC.val (g 0)))), (SV.a (SA.c (SC.int sp))), (SV.a (SA.c (SC.ptr 0 pa 0))), (SV.a (SA.c (SC.val (g 3)))), (SV.a (SA.c (SC.ptr 1 pb 0))), (SV.a (SA.c (SC.val (g 5)))), (SV.a (SA.c (SC.ptr 2 pc 0))), (SV.a (SA.c (SC.int ((j : Nat) : Int)))), (SV.a (SA.c (SC.val (g 8)))), (SV.a (SA.c (SC.val (g 9)))), (SV.a (SA.c (SC.val (g 10)))), (SV.a (SA.c (SC.val (g 11)))), (SV.a (SA.c (SC.val (g 12)))), (SV.a (SA.c (SC.val (g 13)))), (SV.a (SA.c (SC.val (g 14)))), (SV.a (SA.c (SC.val (g 15)))), (SV.a (SA.c (SC.val (g 16)))), (SV.a (SA.c (SC.val (g 17)))), (SV.a (SA.c (SC.val (g 18)))), (SV.a (SA.c (SC.val (g 19)))), (SV.a (SA.c (SC.val (g 20)))), (SV.a (SA.c (SC.val (g 21)))), (SV.a (SA.c (SC.val (g 22)))), (SV.a (SA.c (SC.val (g 23)))), (SV.a (SA.c (SC.val (g 24)))), (SV.a (SA.c (SC.val (g 25)))), (SV.a (SA.c (SC.int ((j : Nat) : Int)))), (SV.a (SA.agg [(SC.int G), (SC.int B), (SC.int R), (SC.int C)])), (SV.a (SA.c (SC.int (bankN G B R C)))), (SV.a (SA.c (SC.ptr 0 pa 2))), (SV.a (SA.c (SC.int R))), (SV.a (SA.c (SC.int sp))), (SV.a (SA.c (SC.int (R - sp)))), (SV.a (SA.c (SC.int ((bankN G B R C) * (R - sp))))), (SV.a (SA.c (SC.lit Bool.false))), (SV.a (SA.c (SC.val (g 35)))), (SV.a (SA.c (SC.val (g 36)))), (SV.a (SA.c (SC.val (g 37)))), (SV.a (SA.c (SC.val (g 38)))), (SV.a (SA.c (SC.val (g 39)))), (SV.a (SA.c (SC.val (g 40)))), (SV.a (SA.c (SC.val (g 41)))), (SV.a (SA.c (SC.val (g 42)))), (SV.a (SA.c (SC.val (g 43)))), (SV.a (SA.c (SC.val (g 44)))), (SV.a (SA.c (SC.val (g 45)))), (SV.a (SA.c (SC.val (g 46)))), (SV.a (SA.c (SC.val (g 47)))), (SV.a (SA.c (SC.val (g 48))))] [(Ch.cells pa 49 [(SC.int G), (SC.int B), (SC.int R), (SC.int C)]), (Ch.cells pb 120 [(SC.il (0 : Int)), SC.nil]), (Ch.cells pc 120 [(SC.int sp), (SC.sl 3 ao j cap)]), (Ch.row (Row.mk Bool.true ao 3 1 j cap [(fun (i5 : Nat) => (SC.int (spF m i5)))]))]))))))))) := by kernel_rfl
theorem sq_ok (G B R C sp : Int) (N m pa pb pc : Nat) (K : Nat) (hg : geoB G B R C = true) (hN : bankN G B R C = (N : Int)) (hm : R - sp = (m : Int)) (hb : N ≤ 8 ∧ 2 ≤ m ∧ m ≤ 16 ∧ 0 ≤ sp ∧ sp ≤ 2) (hK : bankN G B R C * (R - sp) = (K : Int)) (hk128 : K ≤ 128) (X : Cx) : LoopOK Try.prog X (theLoop Try.f80 0) (ssq G B R C sp N m pa pb pc K) := by
  intro ts ch kk a w hS hT hd hs
  obtain ⟨⟨h1, rfl⟩, hk⟩ := hS
  refine loop_ok mixed (E := { tb := [(100, sBank)], D := fun _ => [3] }) ⟨sBank_S, trivial⟩ (loopsOK_nil _ _ _) 400 K (fun j ts ch => ∃ g ao cap, ts = sqH G B R C sp N m pa pb pc (.int (j : Int)) g ∧ ch = spT G B R C sp N m pa pb pc ao j cap) ?_ ?_ hT hd hs
  · rintro j _ _ ⟨g, ao, cap, rfl, rfl⟩ hj
    refine (sqB G B R C sp N m pa pb pc ao j cap g _ _).mpr ?_
    by_cases hlt : j < K
    · have hmod : (j : Int) % (R - sp) = spF m j := by
        simp only [spF, hm]
        rfl
      repeat' (first
        | with_reducible exact rfl
        | exact True.intro
        | with_reducible assumption
        | (refine ⟨hlt, ?_⟩; refine Next.mk (fun g => sqH G B R C sp N m pa pb pc (.int ((j + 1 : Nat) : Int)) g) _ ⟨_, _, _, rfl, rfl⟩ rfl (fun w hw => ((hw.sel [0, 1, 2, 5] (by simp)).recell 2 rfl [.int sp, .sl 3 _ (j + 1) _] rfl).re 3 _ rfl [fun i => .int (spF m i)] ?_); refine ⟨fun i hi => ?_, trivial⟩)
        | fail
        | refine And.intro ?_ ?_
        | (intro h; replace h := of_decide_eq_true h; first | (exfalso; omega) | skip)
        | (intro h; replace h := of_decide_eq_false h; first | (exfalso; omega) | skip)
        | intro _
        | omega
        | (simp; omega))
      all_goals
        rename_i i hi
        have hi : i < j + 1 := hi
        simp only [SC.den]
        by_cases e : i < j
        · simp [e]
        · have e2 : i = j := by omega
          subst e2
          simp [hmod]
    · have hjn : j = K := by omega
      subst hjn
      repeat' (first
        | with_reducible exact rfl
        | exact True.intro
        | with_reducible assumption
        | fail
        | (refine Next.mk (fun g => sqH G B R C sp N m pa pb pc (.int (j : Int)) g) _ (hk _ _ _) rfl fun w hw => hw)
        | refine And.intro ?_ ?_
        | (intro h; replace h := of_decide_eq_true h; first | (exfalso; omega) | skip)
        | (intro h; replace h := of_decide_eq_false h; first | (exfalso; omega) | skip)
        | intro _
        | omega
        | (simp; omega))
  · refine Next.mk (fun g => sqH G B R C sp N m pa pb pc (.int ((0 : Nat) : Int)) g) _ ⟨_, none, 0, rfl, rfl⟩ h1 fun w hw => ?_
    exact (hw.addNil ⟨true, none, 3, 1, 0, 0, [fun i => .int (spF m i)]⟩ rfl rfl rfl rfl rfl).recell 2 rfl [.int sp, .sl 3 none 0 0] rfl
abbrev spC (G B R C sp : Int) (N m : Nat) : Prop := geoB G B R C = true ∧ bankN G B R C = (N : Int) ∧ R - sp = (m : Int) ∧ (N ≤ 8 ∧ 2 ≤ m ∧ m ≤ 16 ∧ 0 ≤ sp ∧ sp ≤ 2)
abbrev sqC (G B R C sp : Int) (N m : Nat) (K : Nat) : Prop := spC G B R C sp N m ∧ bankN G B R C * (R - sp) = (K : Int) ∧ K ≤ 128
def ssp (G B R C sp : Int) (N m : Nat) : LSm := fun ts ch kk => spC G B R C sp N m ∧ ∃ pa pb pc, ssp0 G B R C sp N m pa pb pc ts ch kk
def ssqq (G B R C sp : Int) (N m : Nat) (K : Nat) : LSm := fun ts ch kk => sqC G B R C sp N m K ∧ ∃ pa pb pc, ssq G B R C sp N m pa pb pc K ts ch kk
theorem ssp_ok (G B R C sp : Int) (N m : Nat) (X : Cx) : LoopOK Try.prog X (theLoop Try.f84 0) (ssp G B R C sp N m) := by
  rintro ts ch kk a w ⟨⟨h1, h2, h3, h4⟩, pa, pb, pc, hS⟩ hT hd hs
  exact sp0_ok G B R C sp N m pa pb pc h1 h2 h3 h4 X ts ch kk a w hS hT hd hs
theorem ssqq_ok (G B R C sp : Int) (N m : Nat) (K : Nat) (X : Cx) : LoopOK Try.prog X (theLoop Try.f80 0) (ssqq G B R C sp N m K) := by
  rintro ts ch kk a w ⟨⟨⟨h1, h2, h3, h4⟩, h5, h6⟩, pa, pb, pc, hS⟩ hT hd hs
  exact sq_ok G B R C sp N m pa pb pc K h1 h2 h3 h4 h5 h6 X ts ch kk a w hS hT hd hs
def spOk (G B R C sp : Int) : Bool := geoB G B R C && btw sp 0 2 && decide (2 ≤ R - sp)
def spK (G B R C sp : Int) : Nat := (bankN G B R C).toNat * (R - sp).toNat
def spM (R sp : Int) : Nat := (R - sp).toNat
def spN (G B R C : Int) : Nat := (bankN G B R C).toNat
def ifZ (b : Bool) (n : Int) : Int := if b = true then n else 0
theorem btw_facts' {x lo hi : Int} (h : btw x lo hi = true) : lo ≤ x ∧ x ≤ hi := by simp [btw] at h; omega
theorem sp_facts {G B R C sp : Int} (h : spOk G B R C sp = true) : sqC G B R C sp (spN G B R C) (spM R sp) (spK G B R C sp) := by
  simp only [spOk, Bool.and_eq_true, btw, decide_eq_true_eq] at h
  obtain ⟨⟨hg, hs⟩, h2⟩ := h
  have hf := geo_facts hg
  have hb := geo_bank hg
  have hn : bankN G B R C = G * B := by simp [bankN, hg]
  have e1 : bankN G B R C = ((spN G B R C : Nat) : Int) := by
    show _ = (((bankN G B R C).toNat : Nat) : Int)
    rw [hn]; omega
  have e2 : R - sp = ((spM R sp : Nat) : Int) := by
    show _ = (((R - sp).toNat : Nat) : Int)
    omega
  refine ⟨⟨hg, e1, e2, ?_, ?_, ?_, hs.1, hs.2⟩, ?_, ?_⟩
  · omega
  · omega
  · omega
  · show _ = (((spN G B R C) * (spM R sp) : Nat) : Int)
    rw [e1, e2]
    simp
  · show spN G B R C * spM R sp ≤ 128
    exact Nat.le_trans (Nat.mul_le_mul (show spN G B R C ≤ 8 by omega) (show spM R sp ≤ 16 by omega)) (by omega)
theorem spareI_T (G B R C sp : Int) : (exFn Try.prog { tb := [(85, sGeo), (60, sBtw), (101, sBank)], L := [(5, ssp G B R C sp (spN G B R C) (spM R sp))] } 400 Try.f84 ([.a (.agg [.int G, .int B, .int R, .int C]), .a (.c (.int sp))]) ([]) (fun v ch => ∃ (ro0 : Option Addr) (rc0 : Nat), OutR v ch (.tuple #[.agg #[.int .i64 (ifZ (spOk G B R C sp) sp), .slice ro0 (ifN (spOk G B R C sp) (spK G B R C sp)) rc0], .bool (spOk G B R C sp)]) [.row ⟨true, ro0, 3, 1, ifN (spOk G B R C sp) (spK G B R C sp), rc0, [fun i => .int (spF (spM R sp) i)]⟩])) = (
  (∀ b0 : Nat,
  (∀ b1 : Nat,
  (b0 = b0 ∧
  (((!(geoB G B R C)) = Bool.false →
  (((!(btw sp (0 : Int) (2 : Int))) = Bool.false →
   (b0 = b0 ∧
    ((rng (R - sp)) ∧
    (((decide ((R - sp) < (2 : Int))) = Bool.true →
    (b1 = b1 ∧
     (b1 = b1 ∧
     (Exists (fun (ro02 : (Option Addr)) => (Exists (fun (rc03 : Nat) => ((Value.tuple (List.toArray [(Value.agg (List.toArray [(Value.int IntKind.i64 (0 : Int)), (Value.slice Option.none 0 0)])), (Value.bool Bool.false)])) = (Value.tuple (List.toArray [(Value.agg (List.toArray [(Value.int IntKind.i64 (ifZ (spOk G B R C sp) sp)), (Value.slice ro02 (ifN (spOk G B R C sp) (spK G B R C sp)) rc03)])), (Value.bool (spOk G B R C sp))])) ∧
     (((Bool.true = Bool.true ∧
     (Option.none = ro02 ∧
     (0 = (ifN (spOk G B R C sp) (spK G B R C sp)) ∧
     (0 = rc03 ∧
     Bool.true = Bool.true)))) ∧
     True) ∧
     Bool.true = Bool.true))))))))) ∧
    ((decide ((R - sp) < (2 : Int))) = Bool.false →
    (∀ b4 : Nat,
     (b4 = b4 ∧
     ((spC G B R C sp (spN G B R C) (spM R sp)) ∧
     (Exists (fun (pa5 : Nat) => (Exists (fun (pb6 : Nat) => (Exists (fun (pc7 : Nat) => (([(Value.agg (List.toArray [(Value.int IntKind.i64 G), (Value.int IntKind.i64 B), (Value.int IntKind.i64 R), (Value.int IntKind.i64 C)])), (Value.int IntKind.i64 sp), (Value.pointer (Option.some (Addr.mk b0 0 Option.none))), (Value.tuple (List.toArray [])), (Value.pointer (Option.some (Addr.mk b1 0 Option.none))), (Value.bool Bool.false), (Value.pointer (Option.some (Addr.mk b4 0 Option.none))), (Value.int IntKind.i64 (0 : Int)), (Value.tuple (List.toArray [])), (Value.agg (List.toArray [(Value.int IntKind.i64 G), (Value.int IntKind.i64 B), (Value.int IntKind.i64 R), (Value.int IntKind.i64 C)])), (Value.bool (geoB G B R C)), (Value.bool (!(geoB G B R C))), (Value.bool Bool.false), (Value.int IntKind.i64 sp), (Value.bool (btw sp (0 : Int) (2 : Int))), (Value.bool (!(btw sp (0 : Int) (2 : Int)))), (Value.bool (!(btw sp (0 : Int) (2 : Int)))), (Value.bool Bool.false), (Value.pointer (Option.some (Addr.mk b0 2 Option.none))), (Value.int IntKind.i64 R), (Value.int IntKind.i64 sp), (Value.int IntKind.i64 (R - sp)), (Value.bool (decide ((R - sp) < (2 : Int)))), (Value.bool Bool.false), (Value.tuple (List.toArray [])), (Value.int IntKind.i64 sp), (Value.agg (List.toArray [(Value.int IntKind.i64 sp), (Value.slice Option.none 0 0)])), (Value.tuple (List.toArray [])), (Value.tuple (List.toArray [])), (Value.tuple (List.toArray [])), (Value.tuple (List.toArray [])), (Value.tuple (List.toArray [])), (Value.tuple (List.toArray [])), (Value.tuple (List.toArray [])), (Value.tuple (List.toArray [])), (Value.tuple (List.toArray [])), (Value.tuple (List.toArray [])), (Value.tuple (List.toArray [])), (Value.tuple (List.toArray [])), (Value.tuple (List.toArray [])), (Value.tuple (List.toArray [])), (Value.tuple (List.toArray [])), (Value.tuple (List.toArray [])), (Value.tuple (List.toArray [])), (Value.tuple (List.toArray [])), (Value.tuple (List.toArray [])), (Value.tuple (List.toArray [])), (Value.tuple (List.toArray []))] = [(Value.agg (List.toArray [(Value.int IntKind.i64 G), (Value.int IntKind.i64 B), (Value.int IntKind.i64 R), (Value.int IntKind.i64 C)])), (Value.int IntKind.i64 sp), (Value.pointer (Option.some (Addr.mk pa5 0 Option.none))), (Value.tuple (List.toArray [])), (Value.pointer (Option.some (Addr.mk pb6 0 Option.none))), (Value.bool Bool.false), (Value.pointer (Option.some (Addr.mk pc7 0 Option.none))), (Value.int IntKind.i64 (0 : Int)), (Value.tuple (List.toArray [])), (Value.agg (List.toArray [(Value.int IntKind.i64 G), (Value.int IntKind.i64 B), (Value.int IntKind.i64 R), (Value.int IntKind.i64 C)])), (Value.bool (geoB G B R C)), (Value.bool (!(geoB G B R C))), (Value.bool Bool.false), (Value.int IntKind.i64 sp), (Value.bool (btw sp (0 : Int) (2 : Int))), (Value.bool (!(btw sp (0 : Int) (2 : Int)))), (Value.bool (!(btw sp (0 : Int) (2 : Int)))), (Value.bool Bool.false), (Value.pointer (Option.some (Addr.mk b0 2 Option.none))), (Value.int IntKind.i64 R), (Value.int IntKind.i64 sp), (Value.int IntKind.i64 (R - sp)), (Value.bool (decide ((R - sp) < (2 : Int)))), (Value.bool Bool.false), (Value.tuple (List.toArray [])), (Value.int IntKind.i64 sp), (Value.agg (List.toArray [(Value.int IntKind.i64 sp), (Value.slice Option.none 0 0)])), (Value.tuple (List.toArray [])), (Value.tuple (List.toArray [])), (Value.tuple (List.toArray [])), (Value.tuple (List.toArray [])), (Value.tuple (List.toArray [])), (Value.tuple (List.toArray [])), (Value.tuple (List.toArray [])), (Value.tuple (List.toArray [])), (Value.tuple (List.toArray [])), (Value.tuple (List.toArray [])), (Value.tuple (List.toArray [])), (Value.tuple (List.toArray [])), (Value.tuple (List.toArray [])), (Value.tuple (List.toArray [])), (Value.tuple (List.toArray [])), (Value.tuple (List.toArray [])), (Value.tuple (List.toArray [])), (Value.tuple (List.toArray [])), (Value.tuple (List.toArray [])), (Value.tuple (List.toArray [])), (Value.tuple (List.toArray []))] ∧
     [(Ch.cells b0 49 [(SC.int G), (SC.int B), (SC.int R), (SC.int C)]), (Ch.cells b1 120 [(SC.il (0 : Int)), SC.nil]), (Ch.cells b4 120 [(SC.int sp), SC.nil])] = [(Ch.cells pa5 49 [(SC.int G), (SC.int B), (SC.int R), (SC.int C)]), (Ch.cells pb6 120 [(SC.il (0 : Int)), SC.nil]), (Ch.cells pc7 120 [(SC.int sp), SC.nil])]) ∧
     (∀ g8 : (Nat →
     Value),
     (∀ ao9 : (Option Addr),
     (∀ cap10 : Nat,
     (pc7 = pc7 ∧
     (pb6 = pb6 ∧
     (pb6 = pb6 ∧
     (Exists (fun (ro011 : (Option Addr)) => (Exists (fun (rc012 : Nat) => ((Value.tuple (List.toArray [(Value.agg (List.toArray [(Value.int IntKind.i64 sp), (Value.slice ao9 (mulN (spN G B R C) (spM R sp)) cap10)])), (Value.bool Bool.true)])) = (Value.tuple (List.toArray [(Value.agg (List.toArray [(Value.int IntKind.i64 (ifZ (spOk G B R C sp) sp)), (Value.slice ro011 (ifN (spOk G B R C sp) (spK G B R C sp)) rc012)])), (Value.bool (spOk G B R C sp))])) ∧
     (((Bool.true = Bool.true ∧
     (ao9 = ro011 ∧
     (3 = 3 ∧
     (1 = 1 ∧
     ((mulN (spN G B R C) (spM R sp)) = (ifN (spOk G B R C sp) (spK G B R C sp)) ∧
     (cap10 = rc012 ∧
     ((∀ i13 : Nat,
     (i13 < (mulN (spN G B R C) (spM R sp)) →
     (Value.int IntKind.i64 (spF (spM R sp) i13)) = (Value.int IntKind.i64 (spF (spM R sp) i13)))) ∧
     True))))))) ∧
     True) ∧
     Bool.true = Bool.true))))))))))))))))))))))))))) ∧
   ((!(btw sp (0 : Int) (2 : Int))) = Bool.true →
   (b1 = b1 ∧
    (b1 = b1 ∧
    (Exists (fun (ro014 : (Option Addr)) => (Exists (fun (rc015 : Nat) => ((Value.tuple (List.toArray [(Value.agg (List.toArray [(Value.int IntKind.i64 (0 : Int)), (Value.slice Option.none 0 0)])), (Value.bool Bool.false)])) = (Value.tuple (List.toArray [(Value.agg (List.toArray [(Value.int IntKind.i64 (ifZ (spOk G B R C sp) sp)), (Value.slice ro014 (ifN (spOk G B R C sp) (spK G B R C sp)) rc015)])), (Value.bool (spOk G B R C sp))])) ∧
    (((Bool.true = Bool.true ∧
    (Option.none = ro014 ∧
    (0 = (ifN (spOk G B R C sp) (spK G B R C sp)) ∧
    (0 = rc015 ∧
    Bool.true = Bool.true)))) ∧
    True) ∧
    Bool.true = Bool.true))))))))))) ∧
  ((!(geoB G B R C)) = Bool.true →
  (b1 = b1 ∧
   (b1 = b1 ∧
   (Exists (fun (ro016 : (Option Addr)) => (Exists (fun (rc017 : Nat) => ((Value.tuple (List.toArray [(Value.agg (List.toArray [(Value.int IntKind.i64 (0 : Int)), (Value.slice Option.none 0 0)])), (Value.bool Bool.false)])) = (Value.tuple (List.toArray [(Value.agg (List.toArray [(Value.int IntKind.i64 (ifZ (spOk G B R C sp) sp)), (Value.slice ro016 (ifN (spOk G B R C sp) (spK G B R C sp)) rc017)])), (Value.bool (spOk G B R C sp))])) ∧
   (((Bool.true = Bool.true ∧
   (Option.none = ro016 ∧
   (0 = (ifN (spOk G B R C sp) (spK G B R C sp)) ∧
   (0 = rc017 ∧
   Bool.true = Bool.true)))) ∧
   True) ∧
   Bool.true = Bool.true)))))))))))))) := by kernel_rfl
theorem spareI_any (G B R C sp : Int) (w : World) (hr : -9223372036854775808 ≤ R ∧ R ≤ 9223372036854775807) : Calls Try.prog 84 #[.agg #[.int .i64 G, .int .i64 B, .int .i64 R, .int .i64 C], .int .i64 sp] w fun e w' => ∃ (ro0 : Option Addr) (rc0 : Nat), e = .returned (.tuple #[.agg #[.int .i64 (ifZ (spOk G B R C sp) sp), .slice ro0 (ifN (spOk G B R C sp) (spK G B R C sp)) rc0], .bool (spOk G B R C sp)]) ∧ HS ⟨w, fun _ => False⟩ [.row ⟨true, ro0, 3, 1, ifN (spOk G B R C sp) (spK G B R C sp), rc0, [fun i => .int (spF (spM R sp) i)]⟩] w' := by
  refine fn_ok mixed (E := { tb := [(85, sGeo), (60, sBtw), (101, sBank)], L := [(5, ssp G B R C sp (spN G B R C) (spM R sp))] }) ⟨sGeo_I, sBtwI_ok, sBank_I, trivial⟩ Try.func84 (first_loop (rest := [8]) (by kernel_rfl) (by simp) (ssp_ok G B R C sp _ _ _)) ((spareI_T G B R C sp).mpr ?_) (HS.start w (fun _ => False)) (fun v ch' w' ⟨ro, rc, hk⟩ hs => ⟨ro, rc, by rw [hk.1], hk.hs hs⟩)
  cases hg : geoB G B R C
  · have hok : spOk G B R C sp = false := by simp [spOk, hg]
    repeat' (first
      | with_reducible exact rfl
      | exact True.intro
      | with_reducible assumption
      | refine And.intro ?_ ?_
      | apply Exists.intro
      | (intro h; exfalso; simp [hg] at h; done)
      | (intro h; exfalso; simp [hg] at h; omega)
      | intro _
      | omega
      | (simp; omega))
    all_goals simp_all [ifN, ifZ]
  · have hf := geo_facts hg
    cases hb : btw sp 0 2
    · have hok : spOk G B R C sp = false := by simp [spOk, hb]
      repeat' (first
        | with_reducible exact rfl
        | exact True.intro
        | with_reducible assumption
        | refine And.intro ?_ ?_
        | apply Exists.intro
        | (intro h; exfalso; simp [hg, hb] at h; done)
        | (intro h; exfalso; simp [hg, hb] at h; omega)
        | intro _
        | omega
        | (simp; omega))
      all_goals simp_all [ifN, ifZ]
    · have hsp := btw_facts' hb
      by_cases h2 : 2 ≤ R - sp
      · have hok : spOk G B R C sp = true := by simp [spOk, hg, hb, h2]
        have hc := sp_facts hok
        have hc2 := hc.1
        have hK : ifN (spOk G B R C sp) (spK G B R C sp) = mulN (spN G B R C) (spM R sp) := by simp only [hok, ifN]; rfl
        have hK2 : ifN (spOk G B R C sp) (spK G B R C sp) = spK G B R C sp := by simp only [hok, ifN]; rfl
        repeat' (first
          | with_reducible exact rfl
          | exact True.intro
          | with_reducible assumption
          | refine And.intro ?_ ?_
          | apply Exists.intro
          | (intro h; exfalso; simp [hg, hb] at h; done)
          | (intro h; exfalso; simp [hg, hb] at h; omega)
          | intro _
          | omega
          | (simp; omega))
        all_goals (first | (simp only [hK]; done) | (simp only [hK2]; done) | (simp_all [ifN, ifZ]; done) | (simp only [hok, hK2, ifZ]; done) | (simp only [hok, hK, ifZ]; rfl) | (simp only [hok, hK2, ifZ]; rfl))
      · have hok : spOk G B R C sp = false := by simp [spOk, h2]
        repeat' (first
          | with_reducible exact rfl
          | exact True.intro
          | with_reducible assumption
          | refine And.intro ?_ ?_
          | apply Exists.intro
          | (intro h; exfalso; simp [hg, hb] at h; done)
          | (intro h; exfalso; simp [hg, hb] at h; omega)
          | intro _
          | omega
          | (simp; omega))
        all_goals simp_all [ifN, ifZ]
theorem spareS_T (G B R C sp : Int) : (exFn Try.prog { tb := [(99, sGeo), (59, sBtw), (100, sBank)], L := [(5, ssqq G B R C sp (spN G B R C) (spM R sp) (spK G B R C sp))] } 400 Try.f80 ([.a (.agg [.int G, .int B, .int R, .int C]), .a (.c (.int sp))]) ([]) (fun v ch => ∃ (ro0 : Option Addr) (rc0 : Nat), OutR v ch (.tuple #[.agg #[.int .i64 (ifZ (spOk G B R C sp) sp), .slice ro0 (ifN (spOk G B R C sp) (spK G B R C sp)) rc0], .bool (spOk G B R C sp)]) [.row ⟨true, ro0, 3, 1, ifN (spOk G B R C sp) (spK G B R C sp), rc0, [fun i => .int (spF (spM R sp) i)]⟩])) = (
  (∀ b0 : Nat,
  (∀ b1 : Nat,
  (b0 = b0 ∧
  (((!(geoB G B R C)) = Bool.false →
  (((!(btw sp (0 : Int) (2 : Int))) = Bool.false →
   (b0 = b0 ∧
    ((rng (R - sp)) ∧
    (((decide ((R - sp) < (2 : Int))) = Bool.true →
    (b1 = b1 ∧
     (b1 = b1 ∧
     (Exists (fun (ro02 : (Option Addr)) => (Exists (fun (rc03 : Nat) => ((Value.tuple (List.toArray [(Value.agg (List.toArray [(Value.int IntKind.i64 (0 : Int)), (Value.slice Option.none 0 0)])), (Value.bool Bool.false)])) = (Value.tuple (List.toArray [(Value.agg (List.toArray [(Value.int IntKind.i64 (ifZ (spOk G B R C sp) sp)), (Value.slice ro02 (ifN (spOk G B R C sp) (spK G B R C sp)) rc03)])), (Value.bool (spOk G B R C sp))])) ∧
     (((Bool.true = Bool.true ∧
     (Option.none = ro02 ∧
     (0 = (ifN (spOk G B R C sp) (spK G B R C sp)) ∧
     (0 = rc03 ∧
     Bool.true = Bool.true)))) ∧
     True) ∧
     Bool.true = Bool.true))))))))) ∧
    ((decide ((R - sp) < (2 : Int))) = Bool.false →
    (∀ b4 : Nat,
     (b4 = b4 ∧
     ((sqC G B R C sp (spN G B R C) (spM R sp) (spK G B R C sp)) ∧
     (Exists (fun (pa5 : Nat) => (Exists (fun (pb6 : Nat) => (Exists (fun (pc7 : Nat) => (([(Value.agg (List.toArray [(Value.int IntKind.i64 G), (Value.int IntKind.i64 B), (Value.int IntKind.i64 R), (Value.int IntKind.i64 C)])), (Value.int IntKind.i64 sp), (Value.pointer (Option.some (Addr.mk b0 0 Option.none))), (Value.tuple (List.toArray [])), (Value.pointer (Option.some (Addr.mk b1 0 Option.none))), (Value.bool Bool.false), (Value.pointer (Option.some (Addr.mk b4 0 Option.none))), (Value.int IntKind.i64 (0 : Int)), (Value.agg (List.toArray [(Value.int IntKind.i64 G), (Value.int IntKind.i64 B), (Value.int IntKind.i64 R), (Value.int IntKind.i64 C)])), (Value.bool (geoB G B R C)), (Value.bool (!(geoB G B R C))), (Value.bool Bool.false), (Value.int IntKind.i64 sp), (Value.bool (btw sp (0 : Int) (2 : Int))), (Value.bool (!(btw sp (0 : Int) (2 : Int)))), (Value.bool (!(btw sp (0 : Int) (2 : Int)))), (Value.bool Bool.false), (Value.pointer (Option.some (Addr.mk b0 2 Option.none))), (Value.int IntKind.i64 R), (Value.int IntKind.i64 sp), (Value.int IntKind.i64 (R - sp)), (Value.bool (decide ((R - sp) < (2 : Int)))), (Value.bool Bool.false), (Value.tuple (List.toArray [])), (Value.int IntKind.i64 sp), (Value.agg (List.toArray [(Value.int IntKind.i64 sp), (Value.slice Option.none 0 0)])), (Value.tuple (List.toArray [])), (Value.tuple (List.toArray [])), (Value.tuple (List.toArray [])), (Value.tuple (List.toArray [])), (Value.tuple (List.toArray [])), (Value.tuple (List.toArray [])), (Value.tuple (List.toArray [])), (Value.tuple (List.toArray [])), (Value.tuple (List.toArray [])), (Value.tuple (List.toArray [])), (Value.tuple (List.toArray [])), (Value.tuple (List.toArray [])), (Value.tuple (List.toArray [])), (Value.tuple (List.toArray [])), (Value.tuple (List.toArray [])), (Value.tuple (List.toArray [])), (Value.tuple (List.toArray [])), (Value.tuple (List.toArray [])), (Value.tuple (List.toArray [])), (Value.tuple (List.toArray [])), (Value.tuple (List.toArray [])), (Value.tuple (List.toArray [])), (Value.tuple (List.toArray []))] = [(Value.agg (List.toArray [(Value.int IntKind.i64 G), (Value.int IntKind.i64 B), (Value.int IntKind.i64 R), (Value.int IntKind.i64 C)])), (Value.int IntKind.i64 sp), (Value.pointer (Option.some (Addr.mk pa5 0 Option.none))), (Value.tuple (List.toArray [])), (Value.pointer (Option.some (Addr.mk pb6 0 Option.none))), (Value.bool Bool.false), (Value.pointer (Option.some (Addr.mk pc7 0 Option.none))), (Value.int IntKind.i64 (0 : Int)), (Value.agg (List.toArray [(Value.int IntKind.i64 G), (Value.int IntKind.i64 B), (Value.int IntKind.i64 R), (Value.int IntKind.i64 C)])), (Value.bool (geoB G B R C)), (Value.bool (!(geoB G B R C))), (Value.bool Bool.false), (Value.int IntKind.i64 sp), (Value.bool (btw sp (0 : Int) (2 : Int))), (Value.bool (!(btw sp (0 : Int) (2 : Int)))), (Value.bool (!(btw sp (0 : Int) (2 : Int)))), (Value.bool Bool.false), (Value.pointer (Option.some (Addr.mk b0 2 Option.none))), (Value.int IntKind.i64 R), (Value.int IntKind.i64 sp), (Value.int IntKind.i64 (R - sp)), (Value.bool (decide ((R - sp) < (2 : Int)))), (Value.bool Bool.false), (Value.tuple (List.toArray [])), (Value.int IntKind.i64 sp), (Value.agg (List.toArray [(Value.int IntKind.i64 sp), (Value.slice Option.none 0 0)])), (Value.tuple (List.toArray [])), (Value.tuple (List.toArray [])), (Value.tuple (List.toArray [])), (Value.tuple (List.toArray [])), (Value.tuple (List.toArray [])), (Value.tuple (List.toArray [])), (Value.tuple (List.toArray [])), (Value.tuple (List.toArray [])), (Value.tuple (List.toArray [])), (Value.tuple (List.toArray [])), (Value.tuple (List.toArray [])), (Value.tuple (List.toArray [])), (Value.tuple (List.toArray [])), (Value.tuple (List.toArray [])), (Value.tuple (List.toArray [])), (Value.tuple (List.toArray [])), (Value.tuple (List.toArray [])), (Value.tuple (List.toArray [])), (Value.tuple (List.toArray [])), (Value.tuple (List.toArray [])), (Value.tuple (List.toArray [])), (Value.tuple (List.toArray [])), (Value.tuple (List.toArray []))] ∧
     [(Ch.cells b0 49 [(SC.int G), (SC.int B), (SC.int R), (SC.int C)]), (Ch.cells b1 120 [(SC.il (0 : Int)), SC.nil]), (Ch.cells b4 120 [(SC.int sp), SC.nil])] = [(Ch.cells pa5 49 [(SC.int G), (SC.int B), (SC.int R), (SC.int C)]), (Ch.cells pb6 120 [(SC.il (0 : Int)), SC.nil]), (Ch.cells pc7 120 [(SC.int sp), SC.nil])]) ∧
     (∀ g8 : (Nat →
     Value),
     (∀ ao9 : (Option Addr),
     (∀ cap10 : Nat,
     (pc7 = pc7 ∧
     (pb6 = pb6 ∧
     (pb6 = pb6 ∧
     (Exists (fun (ro011 : (Option Addr)) => (Exists (fun (rc012 : Nat) => ((Value.tuple (List.toArray [(Value.agg (List.toArray [(Value.int IntKind.i64 sp), (Value.slice ao9 (spK G B R C sp) cap10)])), (Value.bool Bool.true)])) = (Value.tuple (List.toArray [(Value.agg (List.toArray [(Value.int IntKind.i64 (ifZ (spOk G B R C sp) sp)), (Value.slice ro011 (ifN (spOk G B R C sp) (spK G B R C sp)) rc012)])), (Value.bool (spOk G B R C sp))])) ∧
     (((Bool.true = Bool.true ∧
     (ao9 = ro011 ∧
     (3 = 3 ∧
     (1 = 1 ∧
     ((spK G B R C sp) = (ifN (spOk G B R C sp) (spK G B R C sp)) ∧
     (cap10 = rc012 ∧
     ((∀ i13 : Nat,
     (i13 < (spK G B R C sp) →
     (Value.int IntKind.i64 (spF (spM R sp) i13)) = (Value.int IntKind.i64 (spF (spM R sp) i13)))) ∧
     True))))))) ∧
     True) ∧
     Bool.true = Bool.true))))))))))))))))))))))))))) ∧
   ((!(btw sp (0 : Int) (2 : Int))) = Bool.true →
   (b1 = b1 ∧
    (b1 = b1 ∧
    (Exists (fun (ro014 : (Option Addr)) => (Exists (fun (rc015 : Nat) => ((Value.tuple (List.toArray [(Value.agg (List.toArray [(Value.int IntKind.i64 (0 : Int)), (Value.slice Option.none 0 0)])), (Value.bool Bool.false)])) = (Value.tuple (List.toArray [(Value.agg (List.toArray [(Value.int IntKind.i64 (ifZ (spOk G B R C sp) sp)), (Value.slice ro014 (ifN (spOk G B R C sp) (spK G B R C sp)) rc015)])), (Value.bool (spOk G B R C sp))])) ∧
    (((Bool.true = Bool.true ∧
    (Option.none = ro014 ∧
    (0 = (ifN (spOk G B R C sp) (spK G B R C sp)) ∧
    (0 = rc015 ∧
    Bool.true = Bool.true)))) ∧
    True) ∧
    Bool.true = Bool.true))))))))))) ∧
  ((!(geoB G B R C)) = Bool.true →
  (b1 = b1 ∧
   (b1 = b1 ∧
   (Exists (fun (ro016 : (Option Addr)) => (Exists (fun (rc017 : Nat) => ((Value.tuple (List.toArray [(Value.agg (List.toArray [(Value.int IntKind.i64 (0 : Int)), (Value.slice Option.none 0 0)])), (Value.bool Bool.false)])) = (Value.tuple (List.toArray [(Value.agg (List.toArray [(Value.int IntKind.i64 (ifZ (spOk G B R C sp) sp)), (Value.slice ro016 (ifN (spOk G B R C sp) (spK G B R C sp)) rc017)])), (Value.bool (spOk G B R C sp))])) ∧
   (((Bool.true = Bool.true ∧
   (Option.none = ro016 ∧
   (0 = (ifN (spOk G B R C sp) (spK G B R C sp)) ∧
   (0 = rc017 ∧
   Bool.true = Bool.true)))) ∧
   True) ∧
   Bool.true = Bool.true)))))))))))))) := by kernel_rfl
theorem spareS_any (G B R C sp : Int) (w : World) (hr : -9223372036854775808 ≤ R ∧ R ≤ 9223372036854775807) : Calls Try.prog 80 #[.agg #[.int .i64 G, .int .i64 B, .int .i64 R, .int .i64 C], .int .i64 sp] w fun e w' => ∃ (ro0 : Option Addr) (rc0 : Nat), e = .returned (.tuple #[.agg #[.int .i64 (ifZ (spOk G B R C sp) sp), .slice ro0 (ifN (spOk G B R C sp) (spK G B R C sp)) rc0], .bool (spOk G B R C sp)]) ∧ HS ⟨w, fun _ => False⟩ [.row ⟨true, ro0, 3, 1, ifN (spOk G B R C sp) (spK G B R C sp), rc0, [fun i => .int (spF (spM R sp) i)]⟩] w' := by
  refine fn_ok mixed (E := { tb := [(99, sGeo), (59, sBtw), (100, sBank)], L := [(5, ssqq G B R C sp (spN G B R C) (spM R sp) (spK G B R C sp))] }) ⟨sGeo_S, sBtwS_ok, sBank_S, trivial⟩ Try.func80 (first_loop (rest := []) (by kernel_rfl) (by simp) (ssqq_ok G B R C sp _ _ _ _)) ((spareS_T G B R C sp).mpr ?_) (HS.start w (fun _ => False)) (fun v ch' w' ⟨ro, rc, hk⟩ hs => ⟨ro, rc, by rw [hk.1], hk.hs hs⟩)
  cases hg : geoB G B R C
  · have hok : spOk G B R C sp = false := by simp [spOk, hg]
    repeat' (first
      | with_reducible exact rfl
      | exact True.intro
      | with_reducible assumption
      | refine And.intro ?_ ?_
      | apply Exists.intro
      | (intro h; exfalso; simp [hg] at h; done)
      | (intro h; exfalso; simp [hg] at h; omega)
      | intro _
      | omega
      | (simp; omega))
    all_goals simp_all [ifN, ifZ]
  · have hf := geo_facts hg
    cases hb : btw sp 0 2
    · have hok : spOk G B R C sp = false := by simp [spOk, hb]
      repeat' (first
        | with_reducible exact rfl
        | exact True.intro
        | with_reducible assumption
        | refine And.intro ?_ ?_
        | apply Exists.intro
        | (intro h; exfalso; simp [hg, hb] at h; done)
        | (intro h; exfalso; simp [hg, hb] at h; omega)
        | intro _
        | omega
        | (simp; omega))
      all_goals simp_all [ifN, ifZ]
    · have hsp := btw_facts' hb
      by_cases h2 : 2 ≤ R - sp
      · have hok : spOk G B R C sp = true := by simp [spOk, hg, hb, h2]
        have hc := sp_facts hok
        have hc2 := hc.1
        have hK : ifN (spOk G B R C sp) (spK G B R C sp) = mulN (spN G B R C) (spM R sp) := by simp only [hok, ifN]; rfl
        have hK2 : ifN (spOk G B R C sp) (spK G B R C sp) = spK G B R C sp := by simp only [hok, ifN]; rfl
        repeat' (first
          | with_reducible exact rfl
          | exact True.intro
          | with_reducible assumption
          | refine And.intro ?_ ?_
          | apply Exists.intro
          | (intro h; exfalso; simp [hg, hb] at h; done)
          | (intro h; exfalso; simp [hg, hb] at h; omega)
          | intro _
          | omega
          | (simp; omega))
        all_goals (first | (simp only [hK]; done) | (simp only [hK2]; done) | (simp_all [ifN, ifZ]; done) | (simp only [hok, hK2, ifZ]; done) | (simp only [hok, hK, ifZ]; rfl) | (simp only [hok, hK2, ifZ]; rfl))
      · have hok : spOk G B R C sp = false := by simp [spOk, h2]
        repeat' (first
          | with_reducible exact rfl
          | exact True.intro
          | with_reducible assumption
          | refine And.intro ?_ ?_
          | apply Exists.intro
          | (intro h; exfalso; simp [hg, hb] at h; done)
          | (intro h; exfalso; simp [hg, hb] at h; omega)
          | intro _
          | omega
          | (simp; omega))
        all_goals simp_all [ifN, ifZ]
end Go.Proofs.Ytlkklplnomecgaa

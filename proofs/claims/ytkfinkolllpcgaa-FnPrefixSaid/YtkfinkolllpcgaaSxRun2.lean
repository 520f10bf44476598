/-
  Runs of the link.
-/
import Derived.Test.YtkfinkolllpcgaaSxRun1
namespace Go.Proofs.Ytkfinkolllpcgaa
set_option linter.unusedVariables false
set_option linter.unusedSimpArgs false
open Go.RowKit
set_option maxRecDepth 100000
set_option maxHeartbeats 8000000

def runOk (n : Nat) (g0 g1 g2 g3 : Nat → Int) (m : Nat) (q : Nat → Int) : Bool := nzB (sndOkB n g0 g1 g2 g3) q m
def runS (n : Nat) (g0 g1 g2 g3 : Nat → Int) (m : Nat) (q : Nat → Int) : LkD := if runOk n g0 g1 g2 g3 m q = true then lkS (sndN n g0 g1 g2 g3) (fr g0 g1 g2 g3) m q else lk0
def runW (n : Nat) (g0 g1 g2 g3 : Nat → Int) (m : Nat) (q : Nat → Int) : Int := if runOk n g0 g1 g2 g3 m q = true then (lkN (sndN n g0 g1 g2 g3) (fr g0 g1 g2 g3) m q : Int) else 0
def runB (n : Nat) (g0 g1 g2 g3 : Nat → Int) (m : Nat) (q : Nat → Int) : Bool := runOk n g0 g1 g2 g3 m q && ((runS n g0 g1 g2 g3 m q).cnt == (n : Int))
def snzIL (lo : Option Addr) (n lc : Nat) (g0 g1 g2 g3 : Nat → Int) (no : Option Addr) (m nc : Nat) (q : Nat → Int) (fN : Nat) (f : Nat → Int) : LSm := fun ts ch kk => ∃ so sc pd pb, snzI lo n lc g0 g1 g2 g3 no m nc q fN f so sc pd pb ts ch kk
theorem snzIL_ok (lo : Option Addr) (n lc : Nat) (g0 g1 g2 g3 : Nat → Int) (no : Option Addr) (m nc : Nat) (q : Nat → Int) (fN : Nat) (f : Nat → Int) (hm : m ≤ 9223372036854775807) (X : Cx) : LoopOK Try.prog X (theLoop Try.f33 0) (snzIL lo n lc g0 g1 g2 g3 no m nc q fN f) := by
  rintro ts ch kk a w ⟨so, sc, pd, pb, hS⟩ hT hd hs
  exact nzI_ok lo n lc g0 g1 g2 g3 no m nc q fN f so sc pd pb hm X ts ch kk a w hS hT hd hs
def slkIL (lo : Option Addr) (n lc : Nat) (g0 g1 g2 g3 : Nat → Int) (no : Option Addr) (m nc : Nat) (q : Nat → Int) (fN : Nat) (f : Nat → Int) : LSm := fun ts ch kk => len40 fN ∧ ∃ pd pb pc, slkI lo n lc g0 g1 g2 g3 no m nc q fN f pd pb pc ts ch kk
theorem slkIL_ok (lo : Option Addr) (n lc : Nat) (g0 g1 g2 g3 : Nat → Int) (no : Option Addr) (m nc : Nat) (q : Nat → Int) (fN : Nat) (f : Nat → Int) (X : Cx) : LoopOK Try.prog X (theLoop Try.f33 1) (slkIL lo n lc g0 g1 g2 g3 no m nc q fN f) := by
  rintro ts ch kk a w ⟨hn, pd, pb, pc, hS⟩ hT hd hs
  exact lkI_ok lo n lc g0 g1 g2 g3 no m nc q fN f pd pb pc hn X ts ch kk a w hS hT hd hs
theorem runI_T (lo : Option Addr) (n lc : Nat) (g0 g1 g2 g3 : Nat → Int) (no : Option Addr) (m nc : Nat) (q : Nat → Int) : (exFn Try.prog { tb := [(23, sSnd), (50, sBtw)], D := fun _ => [2], L := [(3, snzIL lo n lc g0 g1 g2 g3 no m nc q (sndN n g0 g1 g2 g3) (fr g0 g1 g2 g3)), (11, slkIL lo n lc g0 g1 g2 g3 no m nc q (sndN n g0 g1 g2 g3) (fr g0 g1 g2 g3))] } 400 Try.f33 ([.a (.c (.sl 0 lo n lc)), .a (.c (.sl 1 no m nc))]) ([.row ⟨false, lo, 0, 4, n, 0, [fun i => .int (g0 i), fun i => .int (g1 i), fun i => .int (g2 i), fun i => .int (g3 i)]⟩, .row ⟨false, no, 0, 1, m, 0, [fun i => .int (q i)]⟩]) (fun v ch => ∃ (ro0 : Option Addr) (rc0 : Nat), OutR v ch (.tuple #[.agg #[.int .i64 (runS n g0 g1 g2 g3 m q).cnt, .slice ro0 (runS n g0 g1 g2 g3 m q).rn rc0], .int .i64 (runW n g0 g1 g2 g3 m q), .bool (runB n g0 g1 g2 g3 m q)]) [.row ⟨true, ro0, 41, 4, (runS n g0 g1 g2 g3 m q).rn, rc0, [fun i => .int ((runS n g0 g1 g2 g3 m q).c0 i), fun i => .int ((runS n g0 g1 g2 g3 m q).c1 i), fun i => .int ((runS n g0 g1 g2 g3 m q).c2 i), fun i => .int ((runS n g0 g1 g2 g3 m q).c3 i)]⟩])) = (
  (∀ b0 : Nat,
  (Exists (fun (g01 : (Nat →
  Int)) => (Exists (fun (g12 : (Nat →
  Int)) => (Exists (fun (g23 : (Nat →
  Int)) => (Exists (fun (g34 : (Nat →
  Int)) => ((lo = lo ∧
  (n = n ∧
  [(fun (i5 : Nat) => (SC.int (g0 i5))), (fun (i6 : Nat) => (SC.int (g1 i6))), (fun (i7 : Nat) => (SC.int (g2 i7))), (fun (i8 : Nat) => (SC.int (g3 i8)))] = [(fun (i9 : Nat) => (SC.int (g01 i9))), (fun (i10 : Nat) => (SC.int (g12 i10))), (fun (i11 : Nat) => (SC.int (g23 i11))), (fun (i12 : Nat) => (SC.int (g34 i12)))])) ∧
  ((lenC n) ∧
  (∀ ro13 : (Option Addr),
  (∀ rc14 : Nat,
  (∀ b15 : Nat,
  (b15 = b15 ∧
  (Exists (fun (so16 : (Option Addr)) => (Exists (fun (sc17 : Nat) => (Exists (fun (pd18 : Nat) => (Exists (fun (pb19 : Nat) => (Exists (fun (b20 : Bool) => (([(Value.slice lo n lc), (Value.slice no m nc), (Value.tuple (List.toArray [])), (Value.tuple (List.toArray [])), (Value.pointer (Option.some (Addr.mk b0 0 Option.none))), (Value.int IntKind.i64 (0 : Int)), (Value.bool Bool.false), (Value.pointer (Option.some (Addr.mk b15 0 Option.none))), (Value.bool (sndOkB n g01 g12 g23 g34)), (Value.tuple (List.toArray [])), (Value.tuple (List.toArray [])), (Value.tuple (List.toArray [])), (Value.tuple (List.toArray [])), (Value.tuple (List.toArray [])), (Value.tuple (List.toArray [])), (Value.tuple (List.toArray [])), (Value.tuple (List.toArray [])), (Value.tuple (List.toArray [])), (Value.tuple (List.toArray [(Value.agg (List.toArray [(Value.slice ro13 (sndN n g01 g12 g23 g34) rc14), (Value.int IntKind.i64 (0 : Int))])), (Value.bool (sndOkB n g01 g12 g23 g34))])), (Value.slice lo n lc), (Value.tuple (List.toArray [(Value.agg (List.toArray [(Value.slice ro13 (sndN n g01 g12 g23 g34) rc14), (Value.int IntKind.i64 (0 : Int))])), (Value.bool (sndOkB n g01 g12 g23 g34))])), (Value.agg (List.toArray [(Value.slice ro13 (sndN n g01 g12 g23 g34) rc14), (Value.int IntKind.i64 (0 : Int))])), (Value.bool (sndOkB n g01 g12 g23 g34)), (Value.slice no m nc), (Value.int IntKind.i64 ((m : Nat) : Int)), (Value.int IntKind.i64 (0 : Int)), (Value.tuple (List.toArray [])), (Value.tuple (List.toArray [])), (Value.tuple (List.toArray [])), (Value.tuple (List.toArray [])), (Value.tuple (List.toArray [])), (Value.tuple (List.toArray [])), (Value.tuple (List.toArray [])), (Value.tuple (List.toArray [])), (Value.tuple (List.toArray [])), (Value.tuple (List.toArray [])), (Value.tuple (List.toArray [])), (Value.tuple (List.toArray [])), (Value.tuple (List.toArray [])), (Value.tuple (List.toArray [])), (Value.tuple (List.toArray [])), (Value.tuple (List.toArray [])), (Value.tuple (List.toArray [])), (Value.tuple (List.toArray [])), (Value.tuple (List.toArray [])), (Value.tuple (List.toArray [])), (Value.tuple (List.toArray [])), (Value.tuple (List.toArray [])), (Value.tuple (List.toArray [])), (Value.tuple (List.toArray [])), (Value.tuple (List.toArray [])), (Value.tuple (List.toArray [])), (Value.tuple (List.toArray [])), (Value.tuple (List.toArray [])), (Value.tuple (List.toArray [])), (Value.tuple (List.toArray [])), (Value.tuple (List.toArray [])), (Value.tuple (List.toArray [])), (Value.tuple (List.toArray [])), (Value.tuple (List.toArray [])), (Value.tuple (List.toArray [])), (Value.tuple (List.toArray [])), (Value.tuple (List.toArray [])), (Value.tuple (List.toArray [])), (Value.tuple (List.toArray [])), (Value.tuple (List.toArray [])), (Value.tuple (List.toArray [])), (Value.tuple (List.toArray [])), (Value.tuple (List.toArray [])), (Value.tuple (List.toArray [])), (Value.tuple (List.toArray [])), (Value.tuple (List.toArray [])), (Value.tuple (List.toArray [])), (Value.tuple (List.toArray [])), (Value.tuple (List.toArray [])), (Value.tuple (List.toArray [])), (Value.tuple (List.toArray [])), (Value.tuple (List.toArray [])), (Value.tuple (List.toArray [])), (Value.tuple (List.toArray [])), (Value.tuple (List.toArray [])), (Value.tuple (List.toArray [])), (Value.tuple (List.toArray [])), (Value.tuple (List.toArray [])), (Value.tuple (List.toArray []))] = [(Value.slice lo n lc), (Value.slice no m nc), (Value.tuple (List.toArray [])), (Value.tuple (List.toArray [])), (Value.pointer (Option.some (Addr.mk pd18 0 Option.none))), (Value.int IntKind.i64 (0 : Int)), (Value.bool Bool.false), (Value.pointer (Option.some (Addr.mk pb19 0 Option.none))), (Value.bool b20), (Value.tuple (List.toArray [])), (Value.tuple (List.toArray [])), (Value.tuple (List.toArray [])), (Value.tuple (List.toArray [])), (Value.tuple (List.toArray [])), (Value.tuple (List.toArray [])), (Value.tuple (List.toArray [])), (Value.tuple (List.toArray [])), (Value.tuple (List.toArray [])), (Value.tuple (List.toArray [(Value.agg (List.toArray [(Value.slice ro13 (sndN n g01 g12 g23 g34) rc14), (Value.int IntKind.i64 (0 : Int))])), (Value.bool (sndOkB n g01 g12 g23 g34))])), (Value.slice lo n lc), (Value.tuple (List.toArray [(Value.agg (List.toArray [(Value.slice ro13 (sndN n g01 g12 g23 g34) rc14), (Value.int IntKind.i64 (0 : Int))])), (Value.bool (sndOkB n g01 g12 g23 g34))])), (Value.agg (List.toArray [(Value.slice ro13 (sndN n g01 g12 g23 g34) rc14), (Value.int IntKind.i64 (0 : Int))])), (Value.bool (sndOkB n g01 g12 g23 g34)), (Value.slice no m nc), (Value.int IntKind.i64 ((m : Nat) : Int)), (Value.int IntKind.i64 (0 : Int)), (Value.tuple (List.toArray [])), (Value.tuple (List.toArray [])), (Value.tuple (List.toArray [])), (Value.tuple (List.toArray [])), (Value.tuple (List.toArray [])), (Value.tuple (List.toArray [])), (Value.tuple (List.toArray [])), (Value.tuple (List.toArray [])), (Value.tuple (List.toArray [])), (Value.tuple (List.toArray [])), (Value.tuple (List.toArray [])), (Value.tuple (List.toArray [])), (Value.tuple (List.toArray [])), (Value.tuple (List.toArray [])), (Value.tuple (List.toArray [])), (Value.tuple (List.toArray [])), (Value.tuple (List.toArray [])), (Value.tuple (List.toArray [])), (Value.tuple (List.toArray [])), (Value.tuple (List.toArray [])), (Value.tuple (List.toArray [])), (Value.tuple (List.toArray [])), (Value.tuple (List.toArray [])), (Value.tuple (List.toArray [])), (Value.tuple (List.toArray [])), (Value.tuple (List.toArray [])), (Value.tuple (List.toArray [])), (Value.tuple (List.toArray [])), (Value.tuple (List.toArray [])), (Value.tuple (List.toArray [])), (Value.tuple (List.toArray [])), (Value.tuple (List.toArray [])), (Value.tuple (List.toArray [])), (Value.tuple (List.toArray [])), (Value.tuple (List.toArray [])), (Value.tuple (List.toArray [])), (Value.tuple (List.toArray [])), (Value.tuple (List.toArray [])), (Value.tuple (List.toArray [])), (Value.tuple (List.toArray [])), (Value.tuple (List.toArray [])), (Value.tuple (List.toArray [])), (Value.tuple (List.toArray [])), (Value.tuple (List.toArray [])), (Value.tuple (List.toArray [])), (Value.tuple (List.toArray [])), (Value.tuple (List.toArray [])), (Value.tuple (List.toArray [])), (Value.tuple (List.toArray [])), (Value.tuple (List.toArray [])), (Value.tuple (List.toArray [])), (Value.tuple (List.toArray [])), (Value.tuple (List.toArray [])), (Value.tuple (List.toArray [])), (Value.tuple (List.toArray [])), (Value.tuple (List.toArray [])), (Value.tuple (List.toArray [])), (Value.tuple (List.toArray [])), (Value.tuple (List.toArray []))] ∧
  [(Ch.row (Row.mk Bool.false lo 0 4 n 0 [(fun (i21 : Nat) => (SC.int (g0 i21))), (fun (i22 : Nat) => (SC.int (g1 i22))), (fun (i23 : Nat) => (SC.int (g2 i23))), (fun (i24 : Nat) => (SC.int (g3 i24)))])), (Ch.row (Row.mk Bool.false no 0 1 m 0 [(fun (i25 : Nat) => (SC.int (q i25)))])), (Ch.cells b0 48 [(SC.il (0 : Int)), SC.nil]), (Ch.row (Row.mk Bool.true ro13 3 1 (sndN n g01 g12 g23 g34) rc14 [(fun (i26 : Nat) => (SC.int (fr g01 g12 g23 g34 i26)))])), (Ch.cells b15 26 [(SC.sl 3 ro13 (sndN n g01 g12 g23 g34) rc14), (SC.il (0 : Int))])] = [(Ch.row (Row.mk Bool.false lo 0 4 n 0 [(fun (i27 : Nat) => (SC.int (g0 i27))), (fun (i28 : Nat) => (SC.int (g1 i28))), (fun (i29 : Nat) => (SC.int (g2 i29))), (fun (i30 : Nat) => (SC.int (g3 i30)))])), (Ch.row (Row.mk Bool.false no 0 1 m 0 [(fun (i31 : Nat) => (SC.int (q i31)))])), (Ch.cells pd18 48 [(SC.il (0 : Int)), SC.nil]), (Ch.row (Row.mk Bool.true so16 3 1 (sndN n g0 g1 g2 g3) sc17 [(fun (i32 : Nat) => (SC.int (fr g0 g1 g2 g3 i32)))])), (Ch.cells pb19 26 [(SC.sl 3 so16 (sndN n g0 g1 g2 g3) sc17), (SC.il (0 : Int))])]) ∧
  (∀ g33 : (Nat →
  Value),
  (((!(nzB b20 q m)) = Bool.true →
  (pd18 = pd18 ∧
   (pd18 = pd18 ∧
   (Exists (fun (ro034 : (Option Addr)) => (Exists (fun (rc035 : Nat) => ((Value.tuple (List.toArray [(Value.agg (List.toArray [(Value.int IntKind.i64 (0 : Int)), (Value.slice Option.none 0 0)])), (Value.int IntKind.i64 (0 : Int)), (Value.bool Bool.false)])) = (Value.tuple (List.toArray [(Value.agg (List.toArray [(Value.int IntKind.i64 ((runS n g0 g1 g2 g3 m q)).2), (Value.slice ro034 ((runS n g0 g1 g2 g3 m q)).3 rc035)])), (Value.int IntKind.i64 (runW n g0 g1 g2 g3 m q)), (Value.bool (runB n g0 g1 g2 g3 m q))])) ∧
   (((Bool.true = Bool.true ∧
   (Option.none = ro034 ∧
   (0 = ((runS n g0 g1 g2 g3 m q)).3 ∧
   (0 = rc035 ∧
   Bool.true = Bool.true)))) ∧
   True) ∧
   Bool.true = Bool.true))))))))) ∧
  ((!(nzB b20 q m)) = Bool.false →
  (∀ b36 : Nat,
   (b36 = b36 ∧
   ((len40 (sndN n g0 g1 g2 g3)) ∧
   (Exists (fun (pd37 : Nat) => (Exists (fun (pb38 : Nat) => (Exists (fun (pc39 : Nat) => (Exists (fun (so40 : (Option Addr)) => (Exists (fun (sc41 : Nat) => (([(Value.slice lo n lc), (Value.slice no m nc), (g33 2), (g33 3), (Value.pointer (Option.some (Addr.mk pd18 0 Option.none))), (g33 5), (g33 6), (Value.pointer (Option.some (Addr.mk pb19 0 Option.none))), (Value.bool (nzB b20 q m)), (g33 9), (g33 10), (Value.pointer (Option.some (Addr.mk b36 0 Option.none))), (Value.int IntKind.i64 (0 : Int)), (g33 13), (g33 14), (g33 15), (g33 16), (g33 17), (g33 18), (g33 19), (g33 20), (g33 21), (g33 22), (Value.slice no m nc), (Value.int IntKind.i64 ((m : Nat) : Int)), (Value.int IntKind.i64 ((m : Nat) : Int)), (g33 26), (g33 27), (g33 28), (g33 29), (g33 30), (g33 31), (g33 32), (g33 33), (g33 34), (Value.bool (nzB b20 q m)), (Value.bool Bool.false), (g33 37), (Value.agg (List.toArray [(Value.int IntKind.i64 (0 : Int)), (Value.slice Option.none 0 0)])), (g33 39), (g33 40), (g33 41), (g33 42), (g33 43), (g33 44), (g33 45), (g33 46), (g33 47), (g33 48), (g33 49), (g33 50), (g33 51), (g33 52), (g33 53), (g33 54), (g33 55), (g33 56), (g33 57), (g33 58), (g33 59), (g33 60), (g33 61), (g33 62), (g33 63), (g33 64), (g33 65), (g33 66), (g33 67), (g33 68), (g33 69), (g33 70), (g33 71), (g33 72), (g33 73), (g33 74), (g33 75), (g33 76), (g33 77), (g33 78), (g33 79), (g33 80), (g33 81), (g33 82), (g33 83), (g33 84)] = [(Value.slice lo n lc), (Value.slice no m nc), (g33 2), (g33 3), (Value.pointer (Option.some (Addr.mk pd37 0 Option.none))), (g33 5), (g33 6), (Value.pointer (Option.some (Addr.mk pb38 0 Option.none))), (Value.bool (nzB b20 q m)), (g33 9), (g33 10), (Value.pointer (Option.some (Addr.mk pc39 0 Option.none))), (Value.int IntKind.i64 (0 : Int)), (g33 13), (g33 14), (g33 15), (g33 16), (g33 17), (g33 18), (g33 19), (g33 20), (g33 21), (g33 22), (Value.slice no m nc), (Value.int IntKind.i64 ((m : Nat) : Int)), (Value.int IntKind.i64 ((m : Nat) : Int)), (g33 26), (g33 27), (g33 28), (g33 29), (g33 30), (g33 31), (g33 32), (g33 33), (g33 34), (Value.bool (nzB b20 q m)), (Value.bool Bool.false), (g33 37), (Value.agg (List.toArray [(Value.int IntKind.i64 (0 : Int)), (Value.slice Option.none 0 0)])), (g33 39), (g33 40), (g33 41), (g33 42), (g33 43), (g33 44), (g33 45), (g33 46), (g33 47), (g33 48), (g33 49), (g33 50), (g33 51), (g33 52), (g33 53), (g33 54), (g33 55), (g33 56), (g33 57), (g33 58), (g33 59), (g33 60), (g33 61), (g33 62), (g33 63), (g33 64), (g33 65), (g33 66), (g33 67), (g33 68), (g33 69), (g33 70), (g33 71), (g33 72), (g33 73), (g33 74), (g33 75), (g33 76), (g33 77), (g33 78), (g33 79), (g33 80), (g33 81), (g33 82), (g33 83), (g33 84)] ∧
   [(Ch.row (Row.mk Bool.false lo 0 4 n 0 [(fun (i42 : Nat) => (SC.int (g0 i42))), (fun (i43 : Nat) => (SC.int (g1 i43))), (fun (i44 : Nat) => (SC.int (g2 i44))), (fun (i45 : Nat) => (SC.int (g3 i45)))])), (Ch.row (Row.mk Bool.false no 0 1 m 0 [(fun (i46 : Nat) => (SC.int (q i46)))])), (Ch.cells pd18 48 [(SC.il (0 : Int)), SC.nil]), (Ch.row (Row.mk Bool.true so16 3 1 (sndN n g0 g1 g2 g3) sc17 [(fun (i47 : Nat) => (SC.int (fr g0 g1 g2 g3 i47)))])), (Ch.cells pb19 26 [(SC.sl 3 so16 (sndN n g0 g1 g2 g3) sc17), (SC.il (0 : Int))]), (Ch.cells b36 48 [(SC.il (0 : Int)), SC.nil])] = [(Ch.row (Row.mk Bool.false lo 0 4 n 0 [(fun (i48 : Nat) => (SC.int (g0 i48))), (fun (i49 : Nat) => (SC.int (g1 i49))), (fun (i50 : Nat) => (SC.int (g2 i50))), (fun (i51 : Nat) => (SC.int (g3 i51)))])), (Ch.row (Row.mk Bool.false no 0 1 m 0 [(fun (i52 : Nat) => (SC.int (q i52)))])), (Ch.cells pd37 48 [(SC.il (0 : Int)), SC.nil]), (Ch.row (Row.mk Bool.true so40 3 1 (sndN n g0 g1 g2 g3) sc41 [(fun (i53 : Nat) => (SC.int (fr g0 g1 g2 g3 i53)))])), (Ch.cells pb38 26 [(SC.sl 3 so40 (sndN n g0 g1 g2 g3) sc41), (SC.il (0 : Int))]), (Ch.cells pc39 48 [(SC.il (0 : Int)), SC.nil])]) ∧
   (∀ g54 : (Nat →
   Value),
   (∀ so55 : (Option Addr),
   (∀ sc56 : Nat,
   (∀ ro57 : (Option Addr),
   (∀ rc58 : Nat,
   (pc39 = pc39 ∧
   (pc39 = pc39 ∧
   (pd37 = pd37 ∧
   (True ∧
   (pd37 = pd37 ∧
   (Exists (fun (ro059 : (Option Addr)) => (Exists (fun (rc060 : Nat) => ((Value.tuple (List.toArray [(Value.agg (List.toArray [(Value.int IntKind.i64 ((lkS (sndN n g0 g1 g2 g3) (fr g0 g1 g2 g3) m q)).2), (Value.slice ro57 ((lkS (sndN n g0 g1 g2 g3) (fr g0 g1 g2 g3) m q)).3 rc58)])), (Value.int IntKind.i64 (((lkN (sndN n g0 g1 g2 g3) (fr g0 g1 g2 g3) m q) : Nat) : Int)), (Value.bool (((lkS (sndN n g0 g1 g2 g3) (fr g0 g1 g2 g3) m q)).2 == ((n : Nat) : Int)))])) = (Value.tuple (List.toArray [(Value.agg (List.toArray [(Value.int IntKind.i64 ((runS n g0 g1 g2 g3 m q)).2), (Value.slice ro059 ((runS n g0 g1 g2 g3 m q)).3 rc060)])), (Value.int IntKind.i64 (runW n g0 g1 g2 g3 m q)), (Value.bool (runB n g0 g1 g2 g3 m q))])) ∧
   (((Bool.true = Bool.true ∧
   (ro57 = ro059 ∧
   (41 = 41 ∧
   (4 = 4 ∧
   (((lkS (sndN n g0 g1 g2 g3) (fr g0 g1 g2 g3) m q)).3 = ((runS n g0 g1 g2 g3 m q)).3 ∧
   (rc58 = rc060 ∧
   ((∀ i61 : Nat,
   (i61 < ((lkS (sndN n g0 g1 g2 g3) (fr g0 g1 g2 g3) m q)).3 →
   (Value.int IntKind.i64 (((lkS (sndN n g0 g1 g2 g3) (fr g0 g1 g2 g3) m q)).4 i61)) = (Value.int IntKind.i64 (((runS n g0 g1 g2 g3 m q)).4 i61)))) ∧
   ((∀ i62 : Nat,
   (i62 < ((lkS (sndN n g0 g1 g2 g3) (fr g0 g1 g2 g3) m q)).3 →
   (Value.int IntKind.i64 (((lkS (sndN n g0 g1 g2 g3) (fr g0 g1 g2 g3) m q)).5 i62)) = (Value.int IntKind.i64 (((runS n g0 g1 g2 g3 m q)).5 i62)))) ∧
   ((∀ i63 : Nat,
   (i63 < ((lkS (sndN n g0 g1 g2 g3) (fr g0 g1 g2 g3) m q)).3 →
   (Value.int IntKind.i64 (((lkS (sndN n g0 g1 g2 g3) (fr g0 g1 g2 g3) m q)).6 i63)) = (Value.int IntKind.i64 (((runS n g0 g1 g2 g3 m q)).6 i63)))) ∧
   ((∀ i64 : Nat,
   (i64 < ((lkS (sndN n g0 g1 g2 g3) (fr g0 g1 g2 g3) m q)).3 →
   (Value.int IntKind.i64 (((lkS (sndN n g0 g1 g2 g3) (fr g0 g1 g2 g3) m q)).7 i64)) = (Value.int IntKind.i64 (((runS n g0 g1 g2 g3 m q)).7 i64)))) ∧
   True)))))))))) ∧
   True) ∧
   Bool.true = Bool.true)))))))))))))))))))))))))))))))))))))))))))))))))))))))))))) := by kernel_rfl
theorem runI_any (lo : Option Addr) (n lc : Nat) (g0 g1 g2 g3 : Nat → Int) (no : Option Addr) (m nc : Nat) (q : Nat → Int) (w : World) (hr : Row.sat w ⟨false, lo, 0, 4, n, 0, [fun i => .int (g0 i), fun i => .int (g1 i), fun i => .int (g2 i), fun i => .int (g3 i)]⟩) (hr2 : Row.sat w ⟨false, no, 0, 1, m, 0, [fun i => .int (q i)]⟩) (hn : n ≤ 9223372036854775807) (hm : m ≤ 9223372036854775807) : Calls Try.prog 33 #[.slice lo n lc, .slice no m nc] w fun e w' => ∃ (ro0 : Option Addr) (rc0 : Nat), e = .returned (.tuple #[.agg #[.int .i64 (runS n g0 g1 g2 g3 m q).cnt, .slice ro0 (runS n g0 g1 g2 g3 m q).rn rc0], .int .i64 (runW n g0 g1 g2 g3 m q), .bool (runB n g0 g1 g2 g3 m q)]) ∧ HS ⟨w, fun _ => False⟩ [.row ⟨true, ro0, 41, 4, (runS n g0 g1 g2 g3 m q).rn, rc0, [fun i => .int ((runS n g0 g1 g2 g3 m q).c0 i), fun i => .int ((runS n g0 g1 g2 g3 m q).c1 i), fun i => .int ((runS n g0 g1 g2 g3 m q).c2 i), fun i => .int ((runS n g0 g1 g2 g3 m q).c3 i)]⟩] w' := by
  refine fn_ok mixed (E := { tb := [(23, sSnd), (50, sBtw)], D := fun _ => [2], L := [(3, snzIL lo n lc g0 g1 g2 g3 no m nc q (sndN n g0 g1 g2 g3) (fr g0 g1 g2 g3)), (11, slkIL lo n lc g0 g1 g2 g3 no m nc q (sndN n g0 g1 g2 g3) (fr g0 g1 g2 g3))] }) ⟨sSnd_I, sBtwI_ok, trivial⟩ Try.func33 (two_loops (by kernel_rfl) (by omega) (snzIL_ok lo n lc g0 g1 g2 g3 no m nc q _ _ hm _) (slkIL_ok lo n lc g0 g1 g2 g3 no m nc q _ _ _)) (@Eq.mpr _ _ (runI_T lo n lc g0 g1 g2 g3 no m nc q) ?_) (HS.rows (fun _ => False) [⟨false, lo, 0, 4, n, 0, [fun i => .int (g0 i), fun i => .int (g1 i), fun i => .int (g2 i), fun i => .int (g3 i)]⟩, ⟨false, no, 0, 1, m, 0, [fun i => .int (q i)]⟩] (by simp; exact ⟨hr, hr2⟩)) (fun v ch' w' ⟨ro, rc, hk⟩ hs => ⟨ro, rc, by rw [hk.1], hk.hs hs⟩)
  clear hr hr2
  have h40 : len40 (sndN n g0 g1 g2 g3) := by
    show sndN n g0 g1 g2 g3 ≤ 40
    unfold sndN
    split
    · rename_i h; simp [sndOkB] at h; omega
    · omega
  cases hz : runOk n g0 g1 g2 g3 m q
  · have e1 : runS n g0 g1 g2 g3 m q = lk0 := by simp [runS, hz]
    have e2 : runW n g0 g1 g2 g3 m q = 0 := by simp [runW, hz]
    have e3 : runB n g0 g1 g2 g3 m q = false := by simp [runB, hz]
    simp only [e1, e2, e3]
    have hz1 : nzB (sndOkB n g0 g1 g2 g3) q m = false := hz
    cases hs : sndOkB n g0 g1 g2 g3
    · repeat' (first
        | with_reducible exact rfl
        | exact True.intro
        | with_reducible assumption
        | refine And.intro ?_ ?_
        | apply Exists.intro
        | (intro h; exfalso; simp [hz1] at h; done)
        | (intro h; exfalso; simp [hs] at h; done)
        | (intro h; exfalso; have h2 := (show allB m (fun i => btw (q i) 0 2097151) = true from h); rw [hz2] at h2; cases h2; done)
        | (intro h; exfalso; have h2 := (show allB m (fun i => btw (q i) 0 2097151) = false from h); rw [hz2] at h2; cases h2; done)
        | intro _
        | omega)
      all_goals rfl
    · have hz2 : allB m (fun i => btw (q i) 0 2097151) = false := by simpa [nzB, hs] using hz1
      repeat' (first
        | with_reducible exact rfl
        | exact True.intro
        | with_reducible assumption
        | refine And.intro ?_ ?_
        | apply Exists.intro
        | (intro h; exfalso; simp [hz1] at h; done)
        | (intro h; exfalso; simp [hs] at h; done)
        | (intro h; exfalso; have h2 := (show allB m (fun i => btw (q i) 0 2097151) = true from h); rw [hz2] at h2; cases h2; done)
        | (intro h; exfalso; have h2 := (show allB m (fun i => btw (q i) 0 2097151) = false from h); rw [hz2] at h2; cases h2; done)
        | intro _
        | omega)
      all_goals rfl
  · have e1 : runS n g0 g1 g2 g3 m q = lkS (sndN n g0 g1 g2 g3) (fr g0 g1 g2 g3) m q := by simp [runS, hz]
    have e2 : runW n g0 g1 g2 g3 m q = (lkN (sndN n g0 g1 g2 g3) (fr g0 g1 g2 g3) m q : Int) := by simp [runW, hz]
    have e3 : runB n g0 g1 g2 g3 m q = ((lkS (sndN n g0 g1 g2 g3) (fr g0 g1 g2 g3) m q).cnt == (n : Int)) := by simp [runB, hz, e1]
    simp only [e1, e2, e3]
    have hz1 : nzB (sndOkB n g0 g1 g2 g3) q m = true := hz
    have hs : sndOkB n g0 g1 g2 g3 = true := by cases h : sndOkB n g0 g1 g2 g3 <;> simp [nzB, h] at hz1 ⊢
    have hz2 : allB m (fun i => btw (q i) 0 2097151) = true := by simpa [nzB, hs] using hz1
    have hsn : sndN n g0 g1 g2 g3 = n := by simp [sndN, hs]
    repeat' (first
      | with_reducible exact rfl
      | exact True.intro
      | with_reducible assumption
      | refine And.intro ?_ ?_
      | apply Exists.intro
      | (intro h; exfalso; simp [hz1] at h; done)
      | (intro h; exfalso; simp [hs] at h; done)
      | (intro h; exfalso; have h2 := (show allB m (fun i => btw (q i) 0 2097151) = true from h); rw [hz2] at h2; cases h2; done)
      | (intro h; exfalso; have h2 := (show allB m (fun i => btw (q i) 0 2097151) = false from h); rw [hz2] at h2; cases h2; done)
      | intro _
      | omega)
    all_goals (first | rfl | (rw [hsn]; done))
def snzSL (lo : Option Addr) (n lc : Nat) (g0 g1 g2 g3 : Nat → Int) (no : Option Addr) (m nc : Nat) (q : Nat → Int) (fN : Nat) (f : Nat → Int) : LSm := fun ts ch kk => ∃ so sc pd pb, snzS lo n lc g0 g1 g2 g3 no m nc q fN f so sc pd pb ts ch kk
theorem snzSL_ok (lo : Option Addr) (n lc : Nat) (g0 g1 g2 g3 : Nat → Int) (no : Option Addr) (m nc : Nat) (q : Nat → Int) (fN : Nat) (f : Nat → Int) (hm : m ≤ 9223372036854775807) (X : Cx) : LoopOK Try.prog X (theLoop Try.f40 0) (snzSL lo n lc g0 g1 g2 g3 no m nc q fN f) := by
  rintro ts ch kk a w ⟨so, sc, pd, pb, hS⟩ hT hd hs
  exact nzS_ok lo n lc g0 g1 g2 g3 no m nc q fN f so sc pd pb hm X ts ch kk a w hS hT hd hs
def slkSL (lo : Option Addr) (n lc : Nat) (g0 g1 g2 g3 : Nat → Int) (no : Option Addr) (m nc : Nat) (q : Nat → Int) (fN : Nat) (f : Nat → Int) : LSm := fun ts ch kk => len40 fN ∧ ∃ pd pb pc, slkS lo n lc g0 g1 g2 g3 no m nc q fN f pd pb pc ts ch kk
theorem slkSL_ok (lo : Option Addr) (n lc : Nat) (g0 g1 g2 g3 : Nat → Int) (no : Option Addr) (m nc : Nat) (q : Nat → Int) (fN : Nat) (f : Nat → Int) (X : Cx) : LoopOK Try.prog X (theLoop Try.f40 1) (slkSL lo n lc g0 g1 g2 g3 no m nc q fN f) := by
  rintro ts ch kk a w ⟨hn, pd, pb, pc, hS⟩ hT hd hs
  exact lkS_ok lo n lc g0 g1 g2 g3 no m nc q fN f pd pb pc hn X ts ch kk a w hS hT hd hs
theorem runS_T (lo : Option Addr) (n lc : Nat) (g0 g1 g2 g3 : Nat → Int) (no : Option Addr) (m nc : Nat) (q : Nat → Int) : (exFn Try.prog { tb := [(27, sSnd), (48, sBtw)], D := fun _ => [2], L := [(5, snzSL lo n lc g0 g1 g2 g3 no m nc q (sndN n g0 g1 g2 g3) (fr g0 g1 g2 g3)), (11, slkSL lo n lc g0 g1 g2 g3 no m nc q (sndN n g0 g1 g2 g3) (fr g0 g1 g2 g3))] } 400 Try.f40 ([.a (.c (.sl 0 lo n lc)), .a (.c (.sl 1 no m nc))]) ([.row ⟨false, lo, 0, 4, n, 0, [fun i => .int (g0 i), fun i => .int (g1 i), fun i => .int (g2 i), fun i => .int (g3 i)]⟩, .row ⟨false, no, 0, 1, m, 0, [fun i => .int (q i)]⟩]) (fun v ch => ∃ (ro0 : Option Addr) (rc0 : Nat), OutR v ch (.tuple #[.agg #[.int .i64 (runS n g0 g1 g2 g3 m q).cnt, .slice ro0 (runS n g0 g1 g2 g3 m q).rn rc0], .int .i64 (runW n g0 g1 g2 g3 m q), .bool (runB n g0 g1 g2 g3 m q)]) [.row ⟨true, ro0, 41, 4, (runS n g0 g1 g2 g3 m q).rn, rc0, [fun i => .int ((runS n g0 g1 g2 g3 m q).c0 i), fun i => .int ((runS n g0 g1 g2 g3 m q).c1 i), fun i => .int ((runS n g0 g1 g2 g3 m q).c2 i), fun i => .int ((runS n g0 g1 g2 g3 m q).c3 i)]⟩])) = (
  (∀ b0 : Nat,
  (Exists (fun (g01 : (Nat →
  Int)) => (Exists (fun (g12 : (Nat →
  Int)) => (Exists (fun (g23 : (Nat →
  Int)) => (Exists (fun (g34 : (Nat →
  Int)) => ((lo = lo ∧
  (n = n ∧
  [(fun (i5 : Nat) => (SC.int (g0 i5))), (fun (i6 : Nat) => (SC.int (g1 i6))), (fun (i7 : Nat) => (SC.int (g2 i7))), (fun (i8 : Nat) => (SC.int (g3 i8)))] = [(fun (i9 : Nat) => (SC.int (g01 i9))), (fun (i10 : Nat) => (SC.int (g12 i10))), (fun (i11 : Nat) => (SC.int (g23 i11))), (fun (i12 : Nat) => (SC.int (g34 i12)))])) ∧
  ((lenC n) ∧
  (∀ ro13 : (Option Addr),
  (∀ rc14 : Nat,
  (∀ b15 : Nat,
  (b15 = b15 ∧
  (((!(sndOkB n g01 g12 g23 g34)) = Bool.true →
  (b0 = b0 ∧
   (b0 = b0 ∧
   (Exists (fun (ro016 : (Option Addr)) => (Exists (fun (rc017 : Nat) => ((Value.tuple (List.toArray [(Value.agg (List.toArray [(Value.int IntKind.i64 (0 : Int)), (Value.slice Option.none 0 0)])), (Value.int IntKind.i64 (0 : Int)), (Value.bool Bool.false)])) = (Value.tuple (List.toArray [(Value.agg (List.toArray [(Value.int IntKind.i64 ((runS n g0 g1 g2 g3 m q)).2), (Value.slice ro016 ((runS n g0 g1 g2 g3 m q)).3 rc017)])), (Value.int IntKind.i64 (runW n g0 g1 g2 g3 m q)), (Value.bool (runB n g0 g1 g2 g3 m q))])) ∧
   (((Bool.true = Bool.true ∧
   (Option.none = ro016 ∧
   (0 = ((runS n g0 g1 g2 g3 m q)).3 ∧
   (0 = rc017 ∧
   Bool.true = Bool.true)))) ∧
   True) ∧
   Bool.true = Bool.true))))))))) ∧
  ((!(sndOkB n g01 g12 g23 g34)) = Bool.false →
  (Exists (fun (so18 : (Option Addr)) => (Exists (fun (sc19 : Nat) => (Exists (fun (pd20 : Nat) => (Exists (fun (pb21 : Nat) => (([(Value.slice lo n lc), (Value.slice no m nc), (Value.tuple (List.toArray [])), (Value.tuple (List.toArray [])), (Value.pointer (Option.some (Addr.mk b0 0 Option.none))), (Value.int IntKind.i64 (0 : Int)), (Value.bool Bool.false), (Value.pointer (Option.some (Addr.mk b15 0 Option.none))), (Value.bool (sndOkB n g01 g12 g23 g34)), (Value.int IntKind.i64 (0 : Int)), (Value.tuple (List.toArray [])), (Value.tuple (List.toArray [])), (Value.tuple (List.toArray [])), (Value.tuple (List.toArray [])), (Value.tuple (List.toArray [])), (Value.tuple (List.toArray [])), (Value.tuple (List.toArray [])), (Value.tuple (List.toArray [(Value.agg (List.toArray [(Value.slice ro13 (sndN n g01 g12 g23 g34) rc14), (Value.int IntKind.i64 (0 : Int))])), (Value.bool (sndOkB n g01 g12 g23 g34))])), (Value.slice lo n lc), (Value.tuple (List.toArray [(Value.agg (List.toArray [(Value.slice ro13 (sndN n g01 g12 g23 g34) rc14), (Value.int IntKind.i64 (0 : Int))])), (Value.bool (sndOkB n g01 g12 g23 g34))])), (Value.agg (List.toArray [(Value.slice ro13 (sndN n g01 g12 g23 g34) rc14), (Value.int IntKind.i64 (0 : Int))])), (Value.bool (sndOkB n g01 g12 g23 g34)), (Value.bool (sndOkB n g01 g12 g23 g34)), (Value.bool Bool.false), (Value.tuple (List.toArray [])), (Value.tuple (List.toArray [])), (Value.tuple (List.toArray [])), (Value.tuple (List.toArray [])), (Value.tuple (List.toArray [])), (Value.tuple (List.toArray [])), (Value.tuple (List.toArray [])), (Value.tuple (List.toArray [])), (Value.tuple (List.toArray [])), (Value.tuple (List.toArray [])), (Value.tuple (List.toArray [])), (Value.tuple (List.toArray [])), (Value.tuple (List.toArray [])), (Value.tuple (List.toArray [])), (Value.tuple (List.toArray [])), (Value.tuple (List.toArray [])), (Value.tuple (List.toArray [])), (Value.tuple (List.toArray [])), (Value.tuple (List.toArray [])), (Value.tuple (List.toArray [])), (Value.tuple (List.toArray [])), (Value.tuple (List.toArray [])), (Value.tuple (List.toArray [])), (Value.tuple (List.toArray [])), (Value.tuple (List.toArray [])), (Value.tuple (List.toArray [])), (Value.tuple (List.toArray [])), (Value.tuple (List.toArray [])), (Value.tuple (List.toArray [])), (Value.tuple (List.toArray [])), (Value.tuple (List.toArray [])), (Value.tuple (List.toArray [])), (Value.tuple (List.toArray [])), (Value.tuple (List.toArray [])), (Value.tuple (List.toArray [])), (Value.tuple (List.toArray [])), (Value.tuple (List.toArray [])), (Value.tuple (List.toArray [])), (Value.tuple (List.toArray [])), (Value.tuple (List.toArray [])), (Value.tuple (List.toArray [])), (Value.tuple (List.toArray [])), (Value.tuple (List.toArray [])), (Value.tuple (List.toArray [])), (Value.tuple (List.toArray [])), (Value.tuple (List.toArray [])), (Value.tuple (List.toArray [])), (Value.tuple (List.toArray [])), (Value.tuple (List.toArray [])), (Value.tuple (List.toArray [])), (Value.tuple (List.toArray [])), (Value.tuple (List.toArray [])), (Value.tuple (List.toArray [])), (Value.tuple (List.toArray [])), (Value.tuple (List.toArray [])), (Value.tuple (List.toArray [])), (Value.tuple (List.toArray [])), (Value.tuple (List.toArray [])), (Value.tuple (List.toArray [])), (Value.tuple (List.toArray [])), (Value.tuple (List.toArray [])), (Value.tuple (List.toArray []))] = [(Value.slice lo n lc), (Value.slice no m nc), (Value.tuple (List.toArray [])), (Value.tuple (List.toArray [])), (Value.pointer (Option.some (Addr.mk pd20 0 Option.none))), (Value.int IntKind.i64 (0 : Int)), (Value.bool Bool.false), (Value.pointer (Option.some (Addr.mk pb21 0 Option.none))), (Value.bool (sndOkB n g01 g12 g23 g34)), (Value.int IntKind.i64 (0 : Int)), (Value.tuple (List.toArray [])), (Value.tuple (List.toArray [])), (Value.tuple (List.toArray [])), (Value.tuple (List.toArray [])), (Value.tuple (List.toArray [])), (Value.tuple (List.toArray [])), (Value.tuple (List.toArray [])), (Value.tuple (List.toArray [(Value.agg (List.toArray [(Value.slice ro13 (sndN n g01 g12 g23 g34) rc14), (Value.int IntKind.i64 (0 : Int))])), (Value.bool (sndOkB n g01 g12 g23 g34))])), (Value.slice lo n lc), (Value.tuple (List.toArray [(Value.agg (List.toArray [(Value.slice ro13 (sndN n g01 g12 g23 g34) rc14), (Value.int IntKind.i64 (0 : Int))])), (Value.bool (sndOkB n g01 g12 g23 g34))])), (Value.agg (List.toArray [(Value.slice ro13 (sndN n g01 g12 g23 g34) rc14), (Value.int IntKind.i64 (0 : Int))])), (Value.bool (sndOkB n g01 g12 g23 g34)), (Value.bool (sndOkB n g01 g12 g23 g34)), (Value.bool Bool.false), (Value.tuple (List.toArray [])), (Value.tuple (List.toArray [])), (Value.tuple (List.toArray [])), (Value.tuple (List.toArray [])), (Value.tuple (List.toArray [])), (Value.tuple (List.toArray [])), (Value.tuple (List.toArray [])), (Value.tuple (List.toArray [])), (Value.tuple (List.toArray [])), (Value.tuple (List.toArray [])), (Value.tuple (List.toArray [])), (Value.tuple (List.toArray [])), (Value.tuple (List.toArray [])), (Value.tuple (List.toArray [])), (Value.tuple (List.toArray [])), (Value.tuple (List.toArray [])), (Value.tuple (List.toArray [])), (Value.tuple (List.toArray [])), (Value.tuple (List.toArray [])), (Value.tuple (List.toArray [])), (Value.tuple (List.toArray [])), (Value.tuple (List.toArray [])), (Value.tuple (List.toArray [])), (Value.tuple (List.toArray [])), (Value.tuple (List.toArray [])), (Value.tuple (List.toArray [])), (Value.tuple (List.toArray [])), (Value.tuple (List.toArray [])), (Value.tuple (List.toArray [])), (Value.tuple (List.toArray [])), (Value.tuple (List.toArray [])), (Value.tuple (List.toArray [])), (Value.tuple (List.toArray [])), (Value.tuple (List.toArray [])), (Value.tuple (List.toArray [])), (Value.tuple (List.toArray [])), (Value.tuple (List.toArray [])), (Value.tuple (List.toArray [])), (Value.tuple (List.toArray [])), (Value.tuple (List.toArray [])), (Value.tuple (List.toArray [])), (Value.tuple (List.toArray [])), (Value.tuple (List.toArray [])), (Value.tuple (List.toArray [])), (Value.tuple (List.toArray [])), (Value.tuple (List.toArray [])), (Value.tuple (List.toArray [])), (Value.tuple (List.toArray [])), (Value.tuple (List.toArray [])), (Value.tuple (List.toArray [])), (Value.tuple (List.toArray [])), (Value.tuple (List.toArray [])), (Value.tuple (List.toArray [])), (Value.tuple (List.toArray [])), (Value.tuple (List.toArray [])), (Value.tuple (List.toArray [])), (Value.tuple (List.toArray [])), (Value.tuple (List.toArray [])), (Value.tuple (List.toArray [])), (Value.tuple (List.toArray [])), (Value.tuple (List.toArray [])), (Value.tuple (List.toArray []))] ∧
   [(Ch.row (Row.mk Bool.false lo 0 4 n 0 [(fun (i22 : Nat) => (SC.int (g0 i22))), (fun (i23 : Nat) => (SC.int (g1 i23))), (fun (i24 : Nat) => (SC.int (g2 i24))), (fun (i25 : Nat) => (SC.int (g3 i25)))])), (Ch.row (Row.mk Bool.false no 0 1 m 0 [(fun (i26 : Nat) => (SC.int (q i26)))])), (Ch.cells b0 48 [(SC.il (0 : Int)), SC.nil]), (Ch.row (Row.mk Bool.true ro13 3 1 (sndN n g01 g12 g23 g34) rc14 [(fun (i27 : Nat) => (SC.int (fr g01 g12 g23 g34 i27)))])), (Ch.cells b15 26 [(SC.sl 3 ro13 (sndN n g01 g12 g23 g34) rc14), (SC.il (0 : Int))])] = [(Ch.row (Row.mk Bool.false lo 0 4 n 0 [(fun (i28 : Nat) => (SC.int (g0 i28))), (fun (i29 : Nat) => (SC.int (g1 i29))), (fun (i30 : Nat) => (SC.int (g2 i30))), (fun (i31 : Nat) => (SC.int (g3 i31)))])), (Ch.row (Row.mk Bool.false no 0 1 m 0 [(fun (i32 : Nat) => (SC.int (q i32)))])), (Ch.cells pd20 48 [(SC.il (0 : Int)), SC.nil]), (Ch.row (Row.mk Bool.true so18 3 1 (sndN n g0 g1 g2 g3) sc19 [(fun (i33 : Nat) => (SC.int (fr g0 g1 g2 g3 i33)))])), (Ch.cells pb21 26 [(SC.sl 3 so18 (sndN n g0 g1 g2 g3) sc19), (SC.il (0 : Int))])]) ∧
   ((∀ g34 : (Nat →
   Value),
   ((allB m (nzSP lo n lc g0 g1 g2 g3 no m nc q (sndN n g0 g1 g2 g3) (fr g0 g1 g2 g3) so18 sc19 pd20 pb21)) = Bool.true →
   (∀ b35 : Nat,
    (b35 = b35 ∧
    ((len40 (sndN n g0 g1 g2 g3)) ∧
    (Exists (fun (pd36 : Nat) => (Exists (fun (pb37 : Nat) => (Exists (fun (pc38 : Nat) => (Exists (fun (so39 : (Option Addr)) => (Exists (fun (sc40 : Nat) => (([(Value.slice lo n lc), (Value.slice no m nc), (g34 2), (g34 3), (Value.pointer (Option.some (Addr.mk pd20 0 Option.none))), (g34 5), (g34 6), (Value.pointer (Option.some (Addr.mk pb21 0 Option.none))), (g34 8), (Value.int IntKind.i64 ((m : Nat) : Int)), (Value.pointer (Option.some (Addr.mk b35 0 Option.none))), (Value.int IntKind.i64 (0 : Int)), (g34 12), (g34 13), (g34 14), (g34 15), (g34 16), (g34 17), (g34 18), (g34 19), (g34 20), (g34 21), (g34 22), (g34 23), (g34 24), (g34 25), (g34 26), (g34 27), (g34 28), (g34 29), (g34 30), (g34 31), (g34 32), (g34 33), (g34 34), (g34 35), (g34 36), (g34 37), (Value.agg (List.toArray [(Value.int IntKind.i64 (0 : Int)), (Value.slice Option.none 0 0)])), (g34 39), (g34 40), (g34 41), (g34 42), (g34 43), (g34 44), (g34 45), (g34 46), (g34 47), (g34 48), (g34 49), (g34 50), (g34 51), (g34 52), (g34 53), (g34 54), (g34 55), (g34 56), (g34 57), (g34 58), (g34 59), (g34 60), (g34 61), (g34 62), (g34 63), (g34 64), (g34 65), (g34 66), (g34 67), (g34 68), (g34 69), (g34 70), (g34 71), (g34 72), (g34 73), (g34 74), (g34 75), (g34 76), (g34 77), (g34 78), (g34 79), (g34 80), (g34 81), (g34 82), (g34 83), (g34 84), (g34 85)] = [(Value.slice lo n lc), (Value.slice no m nc), (g34 2), (g34 3), (Value.pointer (Option.some (Addr.mk pd36 0 Option.none))), (g34 5), (g34 6), (Value.pointer (Option.some (Addr.mk pb37 0 Option.none))), (g34 8), (Value.int IntKind.i64 ((m : Nat) : Int)), (Value.pointer (Option.some (Addr.mk pc38 0 Option.none))), (Value.int IntKind.i64 (0 : Int)), (g34 12), (g34 13), (g34 14), (g34 15), (g34 16), (g34 17), (g34 18), (g34 19), (g34 20), (g34 21), (g34 22), (g34 23), (g34 24), (g34 25), (g34 26), (g34 27), (g34 28), (g34 29), (g34 30), (g34 31), (g34 32), (g34 33), (g34 34), (g34 35), (g34 36), (g34 37), (Value.agg (List.toArray [(Value.int IntKind.i64 (0 : Int)), (Value.slice Option.none 0 0)])), (g34 39), (g34 40), (g34 41), (g34 42), (g34 43), (g34 44), (g34 45), (g34 46), (g34 47), (g34 48), (g34 49), (g34 50), (g34 51), (g34 52), (g34 53), (g34 54), (g34 55), (g34 56), (g34 57), (g34 58), (g34 59), (g34 60), (g34 61), (g34 62), (g34 63), (g34 64), (g34 65), (g34 66), (g34 67), (g34 68), (g34 69), (g34 70), (g34 71), (g34 72), (g34 73), (g34 74), (g34 75), (g34 76), (g34 77), (g34 78), (g34 79), (g34 80), (g34 81), (g34 82), (g34 83), (g34 84), (g34 85)] ∧
    [(Ch.row (Row.mk Bool.false lo 0 4 n 0 [(fun (i41 : Nat) => (SC.int (g0 i41))), (fun (i42 : Nat) => (SC.int (g1 i42))), (fun (i43 : Nat) => (SC.int (g2 i43))), (fun (i44 : Nat) => (SC.int (g3 i44)))])), (Ch.row (Row.mk Bool.false no 0 1 m 0 [(fun (i45 : Nat) => (SC.int (q i45)))])), (Ch.cells pd20 48 [(SC.il (0 : Int)), SC.nil]), (Ch.row (Row.mk Bool.true so18 3 1 (sndN n g0 g1 g2 g3) sc19 [(fun (i46 : Nat) => (SC.int (fr g0 g1 g2 g3 i46)))])), (Ch.cells pb21 26 [(SC.sl 3 so18 (sndN n g0 g1 g2 g3) sc19), (SC.il (0 : Int))]), (Ch.cells b35 48 [(SC.il (0 : Int)), SC.nil])] = [(Ch.row (Row.mk Bool.false lo 0 4 n 0 [(fun (i47 : Nat) => (SC.int (g0 i47))), (fun (i48 : Nat) => (SC.int (g1 i48))), (fun (i49 : Nat) => (SC.int (g2 i49))), (fun (i50 : Nat) => (SC.int (g3 i50)))])), (Ch.row (Row.mk Bool.false no 0 1 m 0 [(fun (i51 : Nat) => (SC.int (q i51)))])), (Ch.cells pd36 48 [(SC.il (0 : Int)), SC.nil]), (Ch.row (Row.mk Bool.true so39 3 1 (sndN n g0 g1 g2 g3) sc40 [(fun (i52 : Nat) => (SC.int (fr g0 g1 g2 g3 i52)))])), (Ch.cells pb37 26 [(SC.sl 3 so39 (sndN n g0 g1 g2 g3) sc40), (SC.il (0 : Int))]), (Ch.cells pc38 48 [(SC.il (0 : Int)), SC.nil])]) ∧
    (∀ g53 : (Nat →
    Value),
    (∀ so54 : (Option Addr),
    (∀ sc55 : Nat,
    (∀ ro56 : (Option Addr),
    (∀ rc57 : Nat,
    (pc38 = pc38 ∧
    (pc38 = pc38 ∧
    (pb37 = pb37 ∧
    (pd36 = pd36 ∧
    (True ∧
    (pd36 = pd36 ∧
    (Exists (fun (ro058 : (Option Addr)) => (Exists (fun (rc059 : Nat) => ((Value.tuple (List.toArray [(Value.agg (List.toArray [(Value.int IntKind.i64 ((lkS (sndN n g0 g1 g2 g3) (fr g0 g1 g2 g3) m q)).2), (Value.slice ro56 ((lkS (sndN n g0 g1 g2 g3) (fr g0 g1 g2 g3) m q)).3 rc57)])), (Value.int IntKind.i64 (((lkN (sndN n g0 g1 g2 g3) (fr g0 g1 g2 g3) m q) : Nat) : Int)), (Value.bool (((lkS (sndN n g0 g1 g2 g3) (fr g0 g1 g2 g3) m q)).2 == (((sndN n g0 g1 g2 g3) : Nat) : Int)))])) = (Value.tuple (List.toArray [(Value.agg (List.toArray [(Value.int IntKind.i64 ((runS n g0 g1 g2 g3 m q)).2), (Value.slice ro058 ((runS n g0 g1 g2 g3 m q)).3 rc059)])), (Value.int IntKind.i64 (runW n g0 g1 g2 g3 m q)), (Value.bool (runB n g0 g1 g2 g3 m q))])) ∧
    (((Bool.true = Bool.true ∧
    (ro56 = ro058 ∧
    (41 = 41 ∧
    (4 = 4 ∧
    (((lkS (sndN n g0 g1 g2 g3) (fr g0 g1 g2 g3) m q)).3 = ((runS n g0 g1 g2 g3 m q)).3 ∧
    (rc57 = rc059 ∧
    ((∀ i60 : Nat,
    (i60 < ((lkS (sndN n g0 g1 g2 g3) (fr g0 g1 g2 g3) m q)).3 →
    (Value.int IntKind.i64 (((lkS (sndN n g0 g1 g2 g3) (fr g0 g1 g2 g3) m q)).4 i60)) = (Value.int IntKind.i64 (((runS n g0 g1 g2 g3 m q)).4 i60)))) ∧
    ((∀ i61 : Nat,
    (i61 < ((lkS (sndN n g0 g1 g2 g3) (fr g0 g1 g2 g3) m q)).3 →
    (Value.int IntKind.i64 (((lkS (sndN n g0 g1 g2 g3) (fr g0 g1 g2 g3) m q)).5 i61)) = (Value.int IntKind.i64 (((runS n g0 g1 g2 g3 m q)).5 i61)))) ∧
    ((∀ i62 : Nat,
    (i62 < ((lkS (sndN n g0 g1 g2 g3) (fr g0 g1 g2 g3) m q)).3 →
    (Value.int IntKind.i64 (((lkS (sndN n g0 g1 g2 g3) (fr g0 g1 g2 g3) m q)).6 i62)) = (Value.int IntKind.i64 (((runS n g0 g1 g2 g3 m q)).6 i62)))) ∧
    ((∀ i63 : Nat,
    (i63 < ((lkS (sndN n g0 g1 g2 g3) (fr g0 g1 g2 g3) m q)).3 →
    (Value.int IntKind.i64 (((lkS (sndN n g0 g1 g2 g3) (fr g0 g1 g2 g3) m q)).7 i63)) = (Value.int IntKind.i64 (((runS n g0 g1 g2 g3 m q)).7 i63)))) ∧
    True)))))))))) ∧
    True) ∧
    Bool.true = Bool.true))))))))))))))))))))))))))))))))) ∧
   (∀ g64 : (Nat →
   Value),
   ((allB m (nzSP lo n lc g0 g1 g2 g3 no m nc q (sndN n g0 g1 g2 g3) (fr g0 g1 g2 g3) so18 sc19 pd20 pb21)) = Bool.false →
   (pd20 = pd20 ∧
    (Exists (fun (ro065 : (Option Addr)) => (Exists (fun (rc066 : Nat) => ((Value.tuple (List.toArray [(Value.agg (List.toArray [(Value.int IntKind.i64 (0 : Int)), (Value.slice Option.none 0 0)])), (Value.int IntKind.i64 (0 : Int)), (Value.bool Bool.false)])) = (Value.tuple (List.toArray [(Value.agg (List.toArray [(Value.int IntKind.i64 ((runS n g0 g1 g2 g3 m q)).2), (Value.slice ro065 ((runS n g0 g1 g2 g3 m q)).3 rc066)])), (Value.int IntKind.i64 (runW n g0 g1 g2 g3 m q)), (Value.bool (runB n g0 g1 g2 g3 m q))])) ∧
    (((Bool.true = Bool.true ∧
    (Option.none = ro065 ∧
    (0 = ((runS n g0 g1 g2 g3 m q)).3 ∧
    (0 = rc066 ∧
    Bool.true = Bool.true)))) ∧
    True) ∧
    Bool.true = Bool.true))))))))))))))))))))))))))))))))))))) := by kernel_rfl
theorem runS_any (lo : Option Addr) (n lc : Nat) (g0 g1 g2 g3 : Nat → Int) (no : Option Addr) (m nc : Nat) (q : Nat → Int) (w : World) (hr : Row.sat w ⟨false, lo, 0, 4, n, 0, [fun i => .int (g0 i), fun i => .int (g1 i), fun i => .int (g2 i), fun i => .int (g3 i)]⟩) (hr2 : Row.sat w ⟨false, no, 0, 1, m, 0, [fun i => .int (q i)]⟩) (hn : n ≤ 9223372036854775807) (hm : m ≤ 9223372036854775807) : Calls Try.prog 40 #[.slice lo n lc, .slice no m nc] w fun e w' => ∃ (ro0 : Option Addr) (rc0 : Nat), e = .returned (.tuple #[.agg #[.int .i64 (runS n g0 g1 g2 g3 m q).cnt, .slice ro0 (runS n g0 g1 g2 g3 m q).rn rc0], .int .i64 (runW n g0 g1 g2 g3 m q), .bool (runB n g0 g1 g2 g3 m q)]) ∧ HS ⟨w, fun _ => False⟩ [.row ⟨true, ro0, 41, 4, (runS n g0 g1 g2 g3 m q).rn, rc0, [fun i => .int ((runS n g0 g1 g2 g3 m q).c0 i), fun i => .int ((runS n g0 g1 g2 g3 m q).c1 i), fun i => .int ((runS n g0 g1 g2 g3 m q).c2 i), fun i => .int ((runS n g0 g1 g2 g3 m q).c3 i)]⟩] w' := by
  refine fn_ok mixed (E := { tb := [(27, sSnd), (48, sBtw)], D := fun _ => [2], L := [(5, snzSL lo n lc g0 g1 g2 g3 no m nc q (sndN n g0 g1 g2 g3) (fr g0 g1 g2 g3)), (11, slkSL lo n lc g0 g1 g2 g3 no m nc q (sndN n g0 g1 g2 g3) (fr g0 g1 g2 g3))] }) ⟨sSnd_S, sBtwS_ok, trivial⟩ Try.func40 (two_loops (by kernel_rfl) (by omega) (snzSL_ok lo n lc g0 g1 g2 g3 no m nc q _ _ hm _) (slkSL_ok lo n lc g0 g1 g2 g3 no m nc q _ _ _)) (@Eq.mpr _ _ (runS_T lo n lc g0 g1 g2 g3 no m nc q) ?_) (HS.rows (fun _ => False) [⟨false, lo, 0, 4, n, 0, [fun i => .int (g0 i), fun i => .int (g1 i), fun i => .int (g2 i), fun i => .int (g3 i)]⟩, ⟨false, no, 0, 1, m, 0, [fun i => .int (q i)]⟩] (by simp; exact ⟨hr, hr2⟩)) (fun v ch' w' ⟨ro, rc, hk⟩ hs => ⟨ro, rc, by rw [hk.1], hk.hs hs⟩)
  clear hr hr2
  have h40 : len40 (sndN n g0 g1 g2 g3) := by
    show sndN n g0 g1 g2 g3 ≤ 40
    unfold sndN
    split
    · rename_i h; simp [sndOkB] at h; omega
    · omega
  cases hz : runOk n g0 g1 g2 g3 m q
  · have e1 : runS n g0 g1 g2 g3 m q = lk0 := by simp [runS, hz]
    have e2 : runW n g0 g1 g2 g3 m q = 0 := by simp [runW, hz]
    have e3 : runB n g0 g1 g2 g3 m q = false := by simp [runB, hz]
    simp only [e1, e2, e3]
    have hz1 : nzB (sndOkB n g0 g1 g2 g3) q m = false := hz
    cases hs : sndOkB n g0 g1 g2 g3
    · repeat' (first
        | with_reducible exact rfl
        | exact True.intro
        | with_reducible assumption
        | refine And.intro ?_ ?_
        | apply Exists.intro
        | (intro h; exfalso; simp [hz1] at h; done)
        | (intro h; exfalso; simp [hs] at h; done)
        | (intro h; exfalso; have h2 := (show allB m (fun i => btw (q i) 0 2097151) = true from h); rw [hz2] at h2; cases h2; done)
        | (intro h; exfalso; have h2 := (show allB m (fun i => btw (q i) 0 2097151) = false from h); rw [hz2] at h2; cases h2; done)
        | intro _
        | omega)
      all_goals rfl
    · have hz2 : allB m (fun i => btw (q i) 0 2097151) = false := by simpa [nzB, hs] using hz1
      repeat' (first
        | with_reducible exact rfl
        | exact True.intro
        | with_reducible assumption
        | refine And.intro ?_ ?_
        | apply Exists.intro
        | (intro h; exfalso; simp [hz1] at h; done)
        | (intro h; exfalso; simp [hs] at h; done)
        | (intro h; exfalso; have h2 := (show allB m (fun i => btw (q i) 0 2097151) = true from h); rw [hz2] at h2; cases h2; done)
        | (intro h; exfalso; have h2 := (show allB m (fun i => btw (q i) 0 2097151) = false from h); rw [hz2] at h2; cases h2; done)
        | intro _
        | omega)
      all_goals rfl
  · have e1 : runS n g0 g1 g2 g3 m q = lkS (sndN n g0 g1 g2 g3) (fr g0 g1 g2 g3) m q := by simp [runS, hz]
    have e2 : runW n g0 g1 g2 g3 m q = (lkN (sndN n g0 g1 g2 g3) (fr g0 g1 g2 g3) m q : Int) := by simp [runW, hz]
    have e3 : runB n g0 g1 g2 g3 m q = ((lkS (sndN n g0 g1 g2 g3) (fr g0 g1 g2 g3) m q).cnt == (n : Int)) := by simp [runB, hz, e1]
    simp only [e1, e2, e3]
    have hz1 : nzB (sndOkB n g0 g1 g2 g3) q m = true := hz
    have hs : sndOkB n g0 g1 g2 g3 = true := by cases h : sndOkB n g0 g1 g2 g3 <;> simp [nzB, h] at hz1 ⊢
    have hz2 : allB m (fun i => btw (q i) 0 2097151) = true := by simpa [nzB, hs] using hz1
    have hsn : sndN n g0 g1 g2 g3 = n := by simp [sndN, hs]
    repeat' (first
      | with_reducible exact rfl
      | exact True.intro
      | with_reducible assumption
      | refine And.intro ?_ ?_
      | apply Exists.intro
      | (intro h; exfalso; simp [hz1] at h; done)
      | (intro h; exfalso; simp [hs] at h; done)
      | (intro h; exfalso; have h2 := (show allB m (fun i => btw (q i) 0 2097151) = true from h); rw [hz2] at h2; cases h2; done)
      | (intro h; exfalso; have h2 := (show allB m (fun i => btw (q i) 0 2097151) = false from h); rw [hz2] at h2; cases h2; done)
      | intro _
      | omega)
    all_goals (first | rfl | (rw [hsn]; done))
end Go.Proofs.Ytkfinkolllpcgaa

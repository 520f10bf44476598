/-
  Words received.
-/
import Derived.Test.YtkfinkolllpcgaaSxRead
import Derived.Test.YtkfinkolllpcgaaSxLnk
namespace Go.Proofs.Ytkfinkolllpcgaa
set_option linter.unusedVariables false
set_option linter.unusedSimpArgs false
open Go.RowKit
set_option maxRecDepth 100000
set_option maxHeartbeats 8000000

def rcvB (c x : Int) : Bool := btw x 0 2097151 && (!(decide (c < 0))) && (x / 32768 == c % 64) && rdB (x % 32768)
def incW (c : Int) : Int := wrapI (c + 1)
def selN (b : Bool) (x y : Nat) : Nat := if b = true then x else y
def appZ (n : Nat) (g : Nat → Int) (c : Int) (i : Nat) : Int := if i < n then g i else c
abbrev rngC (c : Int) : Prop := -9223372036854775808 ≤ c ∧ c ≤ 9223372036854775807
abbrev rng1C (c : Int) : Prop := -9223372036854775808 ≤ c ∧ c ≤ 9223372036854775806
def rcvN (b : Bool) (n : Nat) : Nat := if b = true then n + 1 else n
def rcvZ (b : Bool) (c : Int) : Int := if b = true then incW c else c
def rcv0 (n : Nat) (g : Nat → Int) (x : Int) (i : Nat) : Int := if i < n then g i else rdK (x % 32768)
def rcv1 (n : Nat) (g : Nat → Int) (x : Int) (i : Nat) : Int := if i < n then g i else rdBk (x % 32768)
def rcv2 (n : Nat) (g : Nat → Int) (x : Int) (i : Nat) : Int := if i < n then g i else rdR (x % 32768)
def rcv3 (n : Nat) (g : Nat → Int) (x : Int) (i : Nat) : Int := if i < n then g i else rdCo (x % 32768)
theorem recvIL_T (rCount : Int) (rCommandsO : Option Addr) (rCommandsN rCommandsC : Nat) (rCommandsg0 rCommandsg1 rCommandsg2 rCommandsg3 : Nat → Int) (x : Int) : (exFn Try.prog {tb := [(50, sBtw), (56, sRead)]} 400 Try.f24 ([.a (.agg [.int rCount, .sl 0 rCommandsO rCommandsN rCommandsC]), .a (.c (.int x))]) ([.row ⟨false, rCommandsO, 0, 4, rCommandsN, 0, [fun i => .int (rCommandsg0 i), fun i => .int (rCommandsg1 i), fun i => .int (rCommandsg2 i), fun i => .int (rCommandsg3 i)]⟩]) (fun v ch => ∃ (ro0 : Option Addr) (rc0 : Nat), OutR v ch (.tuple #[.agg #[.int .i64 (rcvZ (rcvB rCount x) rCount), .slice ro0 (rcvN (rcvB rCount x) rCommandsN) rc0], .bool (rcvB rCount x)]) [.row ⟨true, ro0, 41, 4, rcvN (rcvB rCount x) rCommandsN, rc0, [fun i => .int (rcv0 rCommandsN rCommandsg0 x i), fun i => .int (rcv1 rCommandsN rCommandsg1 x i), fun i => .int (rcv2 rCommandsN rCommandsg2 x i), fun i => .int (rcv3 rCommandsN rCommandsg3 x i)]⟩])) = (
  (∀ b0 : Nat,
  (∀ b1 : Nat,
  (b0 = b0 ∧
  (b0 = b0 ∧
  ((∀ b2 : Nat,
  (True ∧
  (((b2 = b2 ∧
  ((rCommandsO = rCommandsO ∧
  rCommandsN = rCommandsN) ∧
  ((∀ i3 : Nat,
  Bool.true = Bool.true) ∧
  (apC 0 rCommandsN 32)))) ∧
  (∀ ao4 : (Option Addr),
  (∀ cap5 : Nat,
  (True ∧
  (∀ b6 : Nat,
  (True ∧
  (b6 = b6 ∧
  (True ∧
  (((!(btw x (0 : Int) (2097151 : Int))) = Bool.false →
  (b0 = b0 ∧
   (((decide (rCount < (0 : Int))) = Bool.false →
   ((divC x (32768 : Int)) ∧
    (b0 = b0 ∧
    ((divC rCount (64 : Int)) ∧
    ((((x / (32768 : Int)) != (rCount % (64 : Int))) = Bool.true →
    (b6 = b6 ∧
     (b1 = b1 ∧
     (b1 = b1 ∧
     (Exists (fun (ro07 : (Option Addr)) => (Exists (fun (rc08 : Nat) => ((Value.tuple (List.toArray [(Value.agg (List.toArray [(Value.int IntKind.i64 rCount), (Value.slice ao4 rCommandsN cap5)])), (Value.bool Bool.false)])) = (Value.tuple (List.toArray [(Value.agg (List.toArray [(Value.int IntKind.i64 (rcvZ (rcvB rCount x) rCount)), (Value.slice ro07 (rcvN (rcvB rCount x) rCommandsN) rc08)])), (Value.bool (rcvB rCount x))])) ∧
     (((Bool.true = Bool.true ∧
     (ao4 = ro07 ∧
     (41 = 41 ∧
     (4 = 4 ∧
     (rCommandsN = (rcvN (rcvB rCount x) rCommandsN) ∧
     (cap5 = rc08 ∧
     ((∀ i9 : Nat,
     (i9 < rCommandsN →
     (Value.int IntKind.i64 (rCommandsg0 i9)) = (Value.int IntKind.i64 (rcv0 rCommandsN rCommandsg0 x i9)))) ∧
     ((∀ i10 : Nat,
     (i10 < rCommandsN →
     (Value.int IntKind.i64 (rCommandsg1 i10)) = (Value.int IntKind.i64 (rcv1 rCommandsN rCommandsg1 x i10)))) ∧
     ((∀ i11 : Nat,
     (i11 < rCommandsN →
     (Value.int IntKind.i64 (rCommandsg2 i11)) = (Value.int IntKind.i64 (rcv2 rCommandsN rCommandsg2 x i11)))) ∧
     ((∀ i12 : Nat,
     (i12 < rCommandsN →
     (Value.int IntKind.i64 (rCommandsg3 i12)) = (Value.int IntKind.i64 (rcv3 rCommandsN rCommandsg3 x i12)))) ∧
     True)))))))))) ∧
     True) ∧
     Bool.true = Bool.true)))))))))) ∧
    (((x / (32768 : Int)) != (rCount % (64 : Int))) = Bool.false →
    ((divC x (32768 : Int)) ∧
     ((rdC (x % (32768 : Int))) ∧
     (∀ b13 : Nat,
     (b13 = b13 ∧
     (((!(rdB (x % (32768 : Int)))) = Bool.true →
     (b6 = b6 ∧
      (b1 = b1 ∧
      (b1 = b1 ∧
      (Exists (fun (ro014 : (Option Addr)) => (Exists (fun (rc015 : Nat) => ((Value.tuple (List.toArray [(Value.agg (List.toArray [(Value.int IntKind.i64 rCount), (Value.slice ao4 rCommandsN cap5)])), (Value.bool Bool.false)])) = (Value.tuple (List.toArray [(Value.agg (List.toArray [(Value.int IntKind.i64 (rcvZ (rcvB rCount x) rCount)), (Value.slice ro014 (rcvN (rcvB rCount x) rCommandsN) rc015)])), (Value.bool (rcvB rCount x))])) ∧
      (((Bool.true = Bool.true ∧
      (ao4 = ro014 ∧
      (41 = 41 ∧
      (4 = 4 ∧
      (rCommandsN = (rcvN (rcvB rCount x) rCommandsN) ∧
      (cap5 = rc015 ∧
      ((∀ i16 : Nat,
      (i16 < rCommandsN →
      (Value.int IntKind.i64 (rCommandsg0 i16)) = (Value.int IntKind.i64 (rcv0 rCommandsN rCommandsg0 x i16)))) ∧
      ((∀ i17 : Nat,
      (i17 < rCommandsN →
      (Value.int IntKind.i64 (rCommandsg1 i17)) = (Value.int IntKind.i64 (rcv1 rCommandsN rCommandsg1 x i17)))) ∧
      ((∀ i18 : Nat,
      (i18 < rCommandsN →
      (Value.int IntKind.i64 (rCommandsg2 i18)) = (Value.int IntKind.i64 (rcv2 rCommandsN rCommandsg2 x i18)))) ∧
      ((∀ i19 : Nat,
      (i19 < rCommandsN →
      (Value.int IntKind.i64 (rCommandsg3 i19)) = (Value.int IntKind.i64 (rcv3 rCommandsN rCommandsg3 x i19)))) ∧
      True)))))))))) ∧
      True) ∧
      Bool.true = Bool.true)))))))))) ∧
     ((!(rdB (x % (32768 : Int)))) = Bool.false →
     (b6 = b6 ∧
      (b13 = b13 ∧
      (∀ b20 : Nat,
      ((ao4 = ao4 ∧
      (rCommandsN = rCommandsN ∧
      (cap5 = cap5 ∧
      (b20 = b20 ∧
      ((∀ i21 : Nat,
      Bool.true = Bool.true) ∧
      (apC rCommandsN 1 32)))))) ∧
      (∀ ao'22 : (Option Addr),
      (∀ cap'23 : Nat,
      (b6 = b6 ∧
      (b6 = b6 ∧
      ((rng (rCount + (1 : Int))) ∧
      (b6 = b6 ∧
      (b6 = b6 ∧
      (b1 = b1 ∧
      (b1 = b1 ∧
      (Exists (fun (ro024 : (Option Addr)) => (Exists (fun (rc025 : Nat) => ((Value.tuple (List.toArray [(Value.agg (List.toArray [(Value.int IntKind.i64 (rCount + (1 : Int))), (Value.slice ao'22 (rCommandsN + 1) cap'23)])), (Value.bool Bool.true)])) = (Value.tuple (List.toArray [(Value.agg (List.toArray [(Value.int IntKind.i64 (rcvZ (rcvB rCount x) rCount)), (Value.slice ro024 (rcvN (rcvB rCount x) rCommandsN) rc025)])), (Value.bool (rcvB rCount x))])) ∧
      (((Bool.true = Bool.true ∧
      (ao'22 = ro024 ∧
      (41 = 41 ∧
      (4 = 4 ∧
      ((rCommandsN + 1) = (rcvN (rcvB rCount x) rCommandsN) ∧
      (cap'23 = rc025 ∧
      ((∀ i26 : Nat,
      (i26 < (rCommandsN + 1) →
      (Value.int IntKind.i64 (if i26 < rCommandsN then (rCommandsg0 i26) else (rdK (x % (32768 : Int))))) = (Value.int IntKind.i64 (rcv0 rCommandsN rCommandsg0 x i26)))) ∧
      ((∀ i27 : Nat,
      (i27 < (rCommandsN + 1) →
      (Value.int IntKind.i64 (if i27 < rCommandsN then (rCommandsg1 i27) else (rdBk (x % (32768 : Int))))) = (Value.int IntKind.i64 (rcv1 rCommandsN rCommandsg1 x i27)))) ∧
      ((∀ i28 : Nat,
      (i28 < (rCommandsN + 1) →
      (Value.int IntKind.i64 (if i28 < rCommandsN then (rCommandsg2 i28) else (rdR (x % (32768 : Int))))) = (Value.int IntKind.i64 (rcv2 rCommandsN rCommandsg2 x i28)))) ∧
      ((∀ i29 : Nat,
      (i29 < (rCommandsN + 1) →
      (Value.int IntKind.i64 (if i29 < rCommandsN then (rCommandsg3 i29) else (rdCo (x % (32768 : Int))))) = (Value.int IntKind.i64 (rcv3 rCommandsN rCommandsg3 x i29)))) ∧
      True)))))))))) ∧
      True) ∧
      Bool.true = Bool.true))))))))))))))))))))))))))))))) ∧
   ((decide (rCount < (0 : Int))) = Bool.true →
   (b6 = b6 ∧
    (b1 = b1 ∧
    (b1 = b1 ∧
    (Exists (fun (ro030 : (Option Addr)) => (Exists (fun (rc031 : Nat) => ((Value.tuple (List.toArray [(Value.agg (List.toArray [(Value.int IntKind.i64 rCount), (Value.slice ao4 rCommandsN cap5)])), (Value.bool Bool.false)])) = (Value.tuple (List.toArray [(Value.agg (List.toArray [(Value.int IntKind.i64 (rcvZ (rcvB rCount x) rCount)), (Value.slice ro030 (rcvN (rcvB rCount x) rCommandsN) rc031)])), (Value.bool (rcvB rCount x))])) ∧
    (((Bool.true = Bool.true ∧
    (ao4 = ro030 ∧
    (41 = 41 ∧
    (4 = 4 ∧
    (rCommandsN = (rcvN (rcvB rCount x) rCommandsN) ∧
    (cap5 = rc031 ∧
    ((∀ i32 : Nat,
    (i32 < rCommandsN →
    (Value.int IntKind.i64 (rCommandsg0 i32)) = (Value.int IntKind.i64 (rcv0 rCommandsN rCommandsg0 x i32)))) ∧
    ((∀ i33 : Nat,
    (i33 < rCommandsN →
    (Value.int IntKind.i64 (rCommandsg1 i33)) = (Value.int IntKind.i64 (rcv1 rCommandsN rCommandsg1 x i33)))) ∧
    ((∀ i34 : Nat,
    (i34 < rCommandsN →
    (Value.int IntKind.i64 (rCommandsg2 i34)) = (Value.int IntKind.i64 (rcv2 rCommandsN rCommandsg2 x i34)))) ∧
    ((∀ i35 : Nat,
    (i35 < rCommandsN →
    (Value.int IntKind.i64 (rCommandsg3 i35)) = (Value.int IntKind.i64 (rcv3 rCommandsN rCommandsg3 x i35)))) ∧
    True)))))))))) ∧
    True) ∧
    Bool.true = Bool.true))))))))))))) ∧
  ((!(btw x (0 : Int) (2097151 : Int))) = Bool.true →
  (b6 = b6 ∧
   (b1 = b1 ∧
   (b1 = b1 ∧
   (Exists (fun (ro036 : (Option Addr)) => (Exists (fun (rc037 : Nat) => ((Value.tuple (List.toArray [(Value.agg (List.toArray [(Value.int IntKind.i64 rCount), (Value.slice ao4 rCommandsN cap5)])), (Value.bool Bool.false)])) = (Value.tuple (List.toArray [(Value.agg (List.toArray [(Value.int IntKind.i64 (rcvZ (rcvB rCount x) rCount)), (Value.slice ro036 (rcvN (rcvB rCount x) rCommandsN) rc037)])), (Value.bool (rcvB rCount x))])) ∧
   (((Bool.true = Bool.true ∧
   (ao4 = ro036 ∧
   (41 = 41 ∧
   (4 = 4 ∧
   (rCommandsN = (rcvN (rcvB rCount x) rCommandsN) ∧
   (cap5 = rc037 ∧
   ((∀ i38 : Nat,
   (i38 < rCommandsN →
   (Value.int IntKind.i64 (rCommandsg0 i38)) = (Value.int IntKind.i64 (rcv0 rCommandsN rCommandsg0 x i38)))) ∧
   ((∀ i39 : Nat,
   (i39 < rCommandsN →
   (Value.int IntKind.i64 (rCommandsg1 i39)) = (Value.int IntKind.i64 (rcv1 rCommandsN rCommandsg1 x i39)))) ∧
   ((∀ i40 : Nat,
   (i40 < rCommandsN →
   (Value.int IntKind.i64 (rCommandsg2 i40)) = (Value.int IntKind.i64 (rcv2 rCommandsN rCommandsg2 x i40)))) ∧
   ((∀ i41 : Nat,
   (i41 < rCommandsN →
   (Value.int IntKind.i64 (rCommandsg3 i41)) = (Value.int IntKind.i64 (rcv3 rCommandsN rCommandsg3 x i41)))) ∧
   True)))))))))) ∧
   True) ∧
   Bool.true = Bool.true))))))))))))))))))) ∧
  (∀ b42 : Nat,
  (True ∧
  ((b2 = b2 ∧
  ((rCommandsO = rCommandsO ∧
  rCommandsN = rCommandsN) ∧
  ((∀ i43 : Nat,
  Bool.true = Bool.true) ∧
  (apC 0 rCommandsN 32)))) ∧
  (∀ ao44 : (Option Addr),
  (∀ cap45 : Nat,
  (True ∧
  (b42 = b42 ∧
  (True ∧
  (((!(btw x (0 : Int) (2097151 : Int))) = Bool.false →
  (b0 = b0 ∧
   (((decide (rCount < (0 : Int))) = Bool.false →
   ((divC x (32768 : Int)) ∧
    (b0 = b0 ∧
    ((divC rCount (64 : Int)) ∧
    ((((x / (32768 : Int)) != (rCount % (64 : Int))) = Bool.true →
    (b42 = b42 ∧
     (b1 = b1 ∧
     (b1 = b1 ∧
     (Exists (fun (ro046 : (Option Addr)) => (Exists (fun (rc047 : Nat) => ((Value.tuple (List.toArray [(Value.agg (List.toArray [(Value.int IntKind.i64 rCount), (Value.slice ao44 rCommandsN cap45)])), (Value.bool Bool.false)])) = (Value.tuple (List.toArray [(Value.agg (List.toArray [(Value.int IntKind.i64 (rcvZ (rcvB rCount x) rCount)), (Value.slice ro046 (rcvN (rcvB rCount x) rCommandsN) rc047)])), (Value.bool (rcvB rCount x))])) ∧
     (((Bool.true = Bool.true ∧
     (ao44 = ro046 ∧
     (41 = 41 ∧
     (4 = 4 ∧
     (rCommandsN = (rcvN (rcvB rCount x) rCommandsN) ∧
     (cap45 = rc047 ∧
     ((∀ i48 : Nat,
     (i48 < rCommandsN →
     (Value.int IntKind.i64 (rCommandsg0 i48)) = (Value.int IntKind.i64 (rcv0 rCommandsN rCommandsg0 x i48)))) ∧
     ((∀ i49 : Nat,
     (i49 < rCommandsN →
     (Value.int IntKind.i64 (rCommandsg1 i49)) = (Value.int IntKind.i64 (rcv1 rCommandsN rCommandsg1 x i49)))) ∧
     ((∀ i50 : Nat,
     (i50 < rCommandsN →
     (Value.int IntKind.i64 (rCommandsg2 i50)) = (Value.int IntKind.i64 (rcv2 rCommandsN rCommandsg2 x i50)))) ∧
     ((∀ i51 : Nat,
     (i51 < rCommandsN →
     (Value.int IntKind.i64 (rCommandsg3 i51)) = (Value.int IntKind.i64 (rcv3 rCommandsN rCommandsg3 x i51)))) ∧
     True)))))))))) ∧
     True) ∧
     Bool.true = Bool.true)))))))))) ∧
    (((x / (32768 : Int)) != (rCount % (64 : Int))) = Bool.false →
    ((divC x (32768 : Int)) ∧
     ((rdC (x % (32768 : Int))) ∧
     (∀ b52 : Nat,
     (b52 = b52 ∧
     (((!(rdB (x % (32768 : Int)))) = Bool.true →
     (b42 = b42 ∧
      (b1 = b1 ∧
      (b1 = b1 ∧
      (Exists (fun (ro053 : (Option Addr)) => (Exists (fun (rc054 : Nat) => ((Value.tuple (List.toArray [(Value.agg (List.toArray [(Value.int IntKind.i64 rCount), (Value.slice ao44 rCommandsN cap45)])), (Value.bool Bool.false)])) = (Value.tuple (List.toArray [(Value.agg (List.toArray [(Value.int IntKind.i64 (rcvZ (rcvB rCount x) rCount)), (Value.slice ro053 (rcvN (rcvB rCount x) rCommandsN) rc054)])), (Value.bool (rcvB rCount x))])) ∧
      (((Bool.true = Bool.true ∧
      (ao44 = ro053 ∧
      (41 = 41 ∧
      (4 = 4 ∧
      (rCommandsN = (rcvN (rcvB rCount x) rCommandsN) ∧
      (cap45 = rc054 ∧
      ((∀ i55 : Nat,
      (i55 < rCommandsN →
      (Value.int IntKind.i64 (rCommandsg0 i55)) = (Value.int IntKind.i64 (rcv0 rCommandsN rCommandsg0 x i55)))) ∧
      ((∀ i56 : Nat,
      (i56 < rCommandsN →
      (Value.int IntKind.i64 (rCommandsg1 i56)) = (Value.int IntKind.i64 (rcv1 rCommandsN rCommandsg1 x i56)))) ∧
      ((∀ i57 : Nat,
      (i57 < rCommandsN →
      (Value.int IntKind.i64 (rCommandsg2 i57)) = (Value.int IntKind.i64 (rcv2 rCommandsN rCommandsg2 x i57)))) ∧
      ((∀ i58 : Nat,
      (i58 < rCommandsN →
      (Value.int IntKind.i64 (rCommandsg3 i58)) = (Value.int IntKind.i64 (rcv3 rCommandsN rCommandsg3 x i58)))) ∧
      True)))))))))) ∧
      True) ∧
      Bool.true = Bool.true)))))))))) ∧
     ((!(rdB (x % (32768 : Int)))) = Bool.false →
     (b42 = b42 ∧
      (b52 = b52 ∧
      (∀ b59 : Nat,
      ((ao44 = ao44 ∧
      (rCommandsN = rCommandsN ∧
      (cap45 = cap45 ∧
      (b59 = b59 ∧
      ((∀ i60 : Nat,
      Bool.true = Bool.true) ∧
      (apC rCommandsN 1 32)))))) ∧
      (∀ ao'61 : (Option Addr),
      (∀ cap'62 : Nat,
      (b42 = b42 ∧
      (b42 = b42 ∧
      ((rng (rCount + (1 : Int))) ∧
      (b42 = b42 ∧
      (b42 = b42 ∧
      (b1 = b1 ∧
      (b1 = b1 ∧
      (Exists (fun (ro063 : (Option Addr)) => (Exists (fun (rc064 : Nat) => ((Value.tuple (List.toArray [(Value.agg (List.toArray [(Value.int IntKind.i64 (rCount + (1 : Int))), (Value.slice ao'61 (rCommandsN + 1) cap'62)])), (Value.bool Bool.true)])) = (Value.tuple (List.toArray [(Value.agg (List.toArray [(Value.int IntKind.i64 (rcvZ (rcvB rCount x) rCount)), (Value.slice ro063 (rcvN (rcvB rCount x) rCommandsN) rc064)])), (Value.bool (rcvB rCount x))])) ∧
      (((Bool.true = Bool.true ∧
      (ao'61 = ro063 ∧
      (41 = 41 ∧
      (4 = 4 ∧
      ((rCommandsN + 1) = (rcvN (rcvB rCount x) rCommandsN) ∧
      (cap'62 = rc064 ∧
      ((∀ i65 : Nat,
      (i65 < (rCommandsN + 1) →
      (Value.int IntKind.i64 (if i65 < rCommandsN then (rCommandsg0 i65) else (rdK (x % (32768 : Int))))) = (Value.int IntKind.i64 (rcv0 rCommandsN rCommandsg0 x i65)))) ∧
      ((∀ i66 : Nat,
      (i66 < (rCommandsN + 1) →
      (Value.int IntKind.i64 (if i66 < rCommandsN then (rCommandsg1 i66) else (rdBk (x % (32768 : Int))))) = (Value.int IntKind.i64 (rcv1 rCommandsN rCommandsg1 x i66)))) ∧
      ((∀ i67 : Nat,
      (i67 < (rCommandsN + 1) →
      (Value.int IntKind.i64 (if i67 < rCommandsN then (rCommandsg2 i67) else (rdR (x % (32768 : Int))))) = (Value.int IntKind.i64 (rcv2 rCommandsN rCommandsg2 x i67)))) ∧
      ((∀ i68 : Nat,
      (i68 < (rCommandsN + 1) →
      (Value.int IntKind.i64 (if i68 < rCommandsN then (rCommandsg3 i68) else (rdCo (x % (32768 : Int))))) = (Value.int IntKind.i64 (rcv3 rCommandsN rCommandsg3 x i68)))) ∧
      True)))))))))) ∧
      True) ∧
      Bool.true = Bool.true))))))))))))))))))))))))))))))) ∧
   ((decide (rCount < (0 : Int))) = Bool.true →
   (b42 = b42 ∧
    (b1 = b1 ∧
    (b1 = b1 ∧
    (Exists (fun (ro069 : (Option Addr)) => (Exists (fun (rc070 : Nat) => ((Value.tuple (List.toArray [(Value.agg (List.toArray [(Value.int IntKind.i64 rCount), (Value.slice ao44 rCommandsN cap45)])), (Value.bool Bool.false)])) = (Value.tuple (List.toArray [(Value.agg (List.toArray [(Value.int IntKind.i64 (rcvZ (rcvB rCount x) rCount)), (Value.slice ro069 (rcvN (rcvB rCount x) rCommandsN) rc070)])), (Value.bool (rcvB rCount x))])) ∧
    (((Bool.true = Bool.true ∧
    (ao44 = ro069 ∧
    (41 = 41 ∧
    (4 = 4 ∧
    (rCommandsN = (rcvN (rcvB rCount x) rCommandsN) ∧
    (cap45 = rc070 ∧
    ((∀ i71 : Nat,
    (i71 < rCommandsN →
    (Value.int IntKind.i64 (rCommandsg0 i71)) = (Value.int IntKind.i64 (rcv0 rCommandsN rCommandsg0 x i71)))) ∧
    ((∀ i72 : Nat,
    (i72 < rCommandsN →
    (Value.int IntKind.i64 (rCommandsg1 i72)) = (Value.int IntKind.i64 (rcv1 rCommandsN rCommandsg1 x i72)))) ∧
    ((∀ i73 : Nat,
    (i73 < rCommandsN →
    (Value.int IntKind.i64 (rCommandsg2 i73)) = (Value.int IntKind.i64 (rcv2 rCommandsN rCommandsg2 x i73)))) ∧
    ((∀ i74 : Nat,
    (i74 < rCommandsN →
    (Value.int IntKind.i64 (rCommandsg3 i74)) = (Value.int IntKind.i64 (rcv3 rCommandsN rCommandsg3 x i74)))) ∧
    True)))))))))) ∧
    True) ∧
    Bool.true = Bool.true))))))))))))) ∧
  ((!(btw x (0 : Int) (2097151 : Int))) = Bool.true →
  (b42 = b42 ∧
   (b1 = b1 ∧
   (b1 = b1 ∧
   (Exists (fun (ro075 : (Option Addr)) => (Exists (fun (rc076 : Nat) => ((Value.tuple (List.toArray [(Value.agg (List.toArray [(Value.int IntKind.i64 rCount), (Value.slice ao44 rCommandsN cap45)])), (Value.bool Bool.false)])) = (Value.tuple (List.toArray [(Value.agg (List.toArray [(Value.int IntKind.i64 (rcvZ (rcvB rCount x) rCount)), (Value.slice ro075 (rcvN (rcvB rCount x) rCommandsN) rc076)])), (Value.bool (rcvB rCount x))])) ∧
   (((Bool.true = Bool.true ∧
   (ao44 = ro075 ∧
   (41 = 41 ∧
   (4 = 4 ∧
   (rCommandsN = (rcvN (rcvB rCount x) rCommandsN) ∧
   (cap45 = rc076 ∧
   ((∀ i77 : Nat,
   (i77 < rCommandsN →
   (Value.int IntKind.i64 (rCommandsg0 i77)) = (Value.int IntKind.i64 (rcv0 rCommandsN rCommandsg0 x i77)))) ∧
   ((∀ i78 : Nat,
   (i78 < rCommandsN →
   (Value.int IntKind.i64 (rCommandsg1 i78)) = (Value.int IntKind.i64 (rcv1 rCommandsN rCommandsg1 x i78)))) ∧
   ((∀ i79 : Nat,
   (i79 < rCommandsN →
   (Value.int IntKind.i64 (rCommandsg2 i79)) = (Value.int IntKind.i64 (rcv2 rCommandsN rCommandsg2 x i79)))) ∧
   ((∀ i80 : Nat,
   (i80 < rCommandsN →
   (Value.int IntKind.i64 (rCommandsg3 i80)) = (Value.int IntKind.i64 (rcv3 rCommandsN rCommandsg3 x i80)))) ∧
   True)))))))))) ∧
   True) ∧
   Bool.true = Bool.true)))))))))))))))))))))) ∧
  (∀ b81 : Nat,
  (True ∧
  (∀ b82 : Nat,
  (True ∧
  ((b82 = b82 ∧
  ((rCommandsO = rCommandsO ∧
  rCommandsN = rCommandsN) ∧
  ((∀ i83 : Nat,
  Bool.true = Bool.true) ∧
  (apC 0 rCommandsN 32)))) ∧
  (∀ ao84 : (Option Addr),
  (∀ cap85 : Nat,
  (True ∧
  (b81 = b81 ∧
  (True ∧
  (((!(btw x (0 : Int) (2097151 : Int))) = Bool.false →
  (b0 = b0 ∧
   (((decide (rCount < (0 : Int))) = Bool.false →
   ((divC x (32768 : Int)) ∧
    (b0 = b0 ∧
    ((divC rCount (64 : Int)) ∧
    ((((x / (32768 : Int)) != (rCount % (64 : Int))) = Bool.true →
    (b81 = b81 ∧
     (b1 = b1 ∧
     (b1 = b1 ∧
     (Exists (fun (ro086 : (Option Addr)) => (Exists (fun (rc087 : Nat) => ((Value.tuple (List.toArray [(Value.agg (List.toArray [(Value.int IntKind.i64 rCount), (Value.slice ao84 rCommandsN cap85)])), (Value.bool Bool.false)])) = (Value.tuple (List.toArray [(Value.agg (List.toArray [(Value.int IntKind.i64 (rcvZ (rcvB rCount x) rCount)), (Value.slice ro086 (rcvN (rcvB rCount x) rCommandsN) rc087)])), (Value.bool (rcvB rCount x))])) ∧
     (((Bool.true = Bool.true ∧
     (ao84 = ro086 ∧
     (41 = 41 ∧
     (4 = 4 ∧
     (rCommandsN = (rcvN (rcvB rCount x) rCommandsN) ∧
     (cap85 = rc087 ∧
     ((∀ i88 : Nat,
     (i88 < rCommandsN →
     (Value.int IntKind.i64 (rCommandsg0 i88)) = (Value.int IntKind.i64 (rcv0 rCommandsN rCommandsg0 x i88)))) ∧
     ((∀ i89 : Nat,
     (i89 < rCommandsN →
     (Value.int IntKind.i64 (rCommandsg1 i89)) = (Value.int IntKind.i64 (rcv1 rCommandsN rCommandsg1 x i89)))) ∧
     ((∀ i90 : Nat,
     (i90 < rCommandsN →
     (Value.int IntKind.i64 (rCommandsg2 i90)) = (Value.int IntKind.i64 (rcv2 rCommandsN rCommandsg2 x i90)))) ∧
     ((∀ i91 : Nat,
     (i91 < rCommandsN →
     (Value.int IntKind.i64 (rCommandsg3 i91)) = (Value.int IntKind.i64 (rcv3 rCommandsN rCommandsg3 x i91)))) ∧
     True)))))))))) ∧
     True) ∧
     Bool.true = Bool.true)))))))))) ∧
    (((x / (32768 : Int)) != (rCount % (64 : Int))) = Bool.false →
    ((divC x (32768 : Int)) ∧
     ((rdC (x % (32768 : Int))) ∧
     (∀ b92 : Nat,
     (b92 = b92 ∧
     (((!(rdB (x % (32768 : Int)))) = Bool.true →
     (b81 = b81 ∧
      (b1 = b1 ∧
      (b1 = b1 ∧
      (Exists (fun (ro093 : (Option Addr)) => (Exists (fun (rc094 : Nat) => ((Value.tuple (List.toArray [(Value.agg (List.toArray [(Value.int IntKind.i64 rCount), (Value.slice ao84 rCommandsN cap85)])), (Value.bool Bool.false)])) = (Value.tuple (List.toArray [(Value.agg (List.toArray [(Value.int IntKind.i64 (rcvZ (rcvB rCount x) rCount)), (Value.slice ro093 (rcvN (rcvB rCount x) rCommandsN) rc094)])), (Value.bool (rcvB rCount x))])) ∧
      (((Bool.true = Bool.true ∧
      (ao84 = ro093 ∧
      (41 = 41 ∧
      (4 = 4 ∧
      (rCommandsN = (rcvN (rcvB rCount x) rCommandsN) ∧
      (cap85 = rc094 ∧
      ((∀ i95 : Nat,
      (i95 < rCommandsN →
      (Value.int IntKind.i64 (rCommandsg0 i95)) = (Value.int IntKind.i64 (rcv0 rCommandsN rCommandsg0 x i95)))) ∧
      ((∀ i96 : Nat,
      (i96 < rCommandsN →
      (Value.int IntKind.i64 (rCommandsg1 i96)) = (Value.int IntKind.i64 (rcv1 rCommandsN rCommandsg1 x i96)))) ∧
      ((∀ i97 : Nat,
      (i97 < rCommandsN →
      (Value.int IntKind.i64 (rCommandsg2 i97)) = (Value.int IntKind.i64 (rcv2 rCommandsN rCommandsg2 x i97)))) ∧
      ((∀ i98 : Nat,
      (i98 < rCommandsN →
      (Value.int IntKind.i64 (rCommandsg3 i98)) = (Value.int IntKind.i64 (rcv3 rCommandsN rCommandsg3 x i98)))) ∧
      True)))))))))) ∧
      True) ∧
      Bool.true = Bool.true)))))))))) ∧
     ((!(rdB (x % (32768 : Int)))) = Bool.false →
     (b81 = b81 ∧
      (b92 = b92 ∧
      (∀ b99 : Nat,
      ((ao84 = ao84 ∧
      (rCommandsN = rCommandsN ∧
      (cap85 = cap85 ∧
      (b99 = b99 ∧
      ((∀ i100 : Nat,
      Bool.true = Bool.true) ∧
      (apC rCommandsN 1 32)))))) ∧
      (∀ ao'101 : (Option Addr),
      (∀ cap'102 : Nat,
      (b81 = b81 ∧
      (b81 = b81 ∧
      ((rng (rCount + (1 : Int))) ∧
      (b81 = b81 ∧
      (b81 = b81 ∧
      (b1 = b1 ∧
      (b1 = b1 ∧
      (Exists (fun (ro0103 : (Option Addr)) => (Exists (fun (rc0104 : Nat) => ((Value.tuple (List.toArray [(Value.agg (List.toArray [(Value.int IntKind.i64 (rCount + (1 : Int))), (Value.slice ao'101 (rCommandsN + 1) cap'102)])), (Value.bool Bool.true)])) = (Value.tuple (List.toArray [(Value.agg (List.toArray [(Value.int IntKind.i64 (rcvZ (rcvB rCount x) rCount)), (Value.slice ro0103 (rcvN (rcvB rCount x) rCommandsN) rc0104)])), (Value.bool (rcvB rCount x))])) ∧
      (((Bool.true = Bool.true ∧
      (ao'101 = ro0103 ∧
      (41 = 41 ∧
      (4 = 4 ∧
      ((rCommandsN + 1) = (rcvN (rcvB rCount x) rCommandsN) ∧
      (cap'102 = rc0104 ∧
      ((∀ i105 : Nat,
      (i105 < (rCommandsN + 1) →
      (Value.int IntKind.i64 (if i105 < rCommandsN then (rCommandsg0 i105) else (rdK (x % (32768 : Int))))) = (Value.int IntKind.i64 (rcv0 rCommandsN rCommandsg0 x i105)))) ∧
      ((∀ i106 : Nat,
      (i106 < (rCommandsN + 1) →
      (Value.int IntKind.i64 (if i106 < rCommandsN then (rCommandsg1 i106) else (rdBk (x % (32768 : Int))))) = (Value.int IntKind.i64 (rcv1 rCommandsN rCommandsg1 x i106)))) ∧
      ((∀ i107 : Nat,
      (i107 < (rCommandsN + 1) →
      (Value.int IntKind.i64 (if i107 < rCommandsN then (rCommandsg2 i107) else (rdR (x % (32768 : Int))))) = (Value.int IntKind.i64 (rcv2 rCommandsN rCommandsg2 x i107)))) ∧
      ((∀ i108 : Nat,
      (i108 < (rCommandsN + 1) →
      (Value.int IntKind.i64 (if i108 < rCommandsN then (rCommandsg3 i108) else (rdCo (x % (32768 : Int))))) = (Value.int IntKind.i64 (rcv3 rCommandsN rCommandsg3 x i108)))) ∧
      True)))))))))) ∧
      True) ∧
      Bool.true = Bool.true))))))))))))))))))))))))))))))) ∧
   ((decide (rCount < (0 : Int))) = Bool.true →
   (b81 = b81 ∧
    (b1 = b1 ∧
    (b1 = b1 ∧
    (Exists (fun (ro0109 : (Option Addr)) => (Exists (fun (rc0110 : Nat) => ((Value.tuple (List.toArray [(Value.agg (List.toArray [(Value.int IntKind.i64 rCount), (Value.slice ao84 rCommandsN cap85)])), (Value.bool Bool.false)])) = (Value.tuple (List.toArray [(Value.agg (List.toArray [(Value.int IntKind.i64 (rcvZ (rcvB rCount x) rCount)), (Value.slice ro0109 (rcvN (rcvB rCount x) rCommandsN) rc0110)])), (Value.bool (rcvB rCount x))])) ∧
    (((Bool.true = Bool.true ∧
    (ao84 = ro0109 ∧
    (41 = 41 ∧
    (4 = 4 ∧
    (rCommandsN = (rcvN (rcvB rCount x) rCommandsN) ∧
    (cap85 = rc0110 ∧
    ((∀ i111 : Nat,
    (i111 < rCommandsN →
    (Value.int IntKind.i64 (rCommandsg0 i111)) = (Value.int IntKind.i64 (rcv0 rCommandsN rCommandsg0 x i111)))) ∧
    ((∀ i112 : Nat,
    (i112 < rCommandsN →
    (Value.int IntKind.i64 (rCommandsg1 i112)) = (Value.int IntKind.i64 (rcv1 rCommandsN rCommandsg1 x i112)))) ∧
    ((∀ i113 : Nat,
    (i113 < rCommandsN →
    (Value.int IntKind.i64 (rCommandsg2 i113)) = (Value.int IntKind.i64 (rcv2 rCommandsN rCommandsg2 x i113)))) ∧
    ((∀ i114 : Nat,
    (i114 < rCommandsN →
    (Value.int IntKind.i64 (rCommandsg3 i114)) = (Value.int IntKind.i64 (rcv3 rCommandsN rCommandsg3 x i114)))) ∧
    True)))))))))) ∧
    True) ∧
    Bool.true = Bool.true))))))))))))) ∧
  ((!(btw x (0 : Int) (2097151 : Int))) = Bool.true →
  (b81 = b81 ∧
   (b1 = b1 ∧
   (b1 = b1 ∧
   (Exists (fun (ro0115 : (Option Addr)) => (Exists (fun (rc0116 : Nat) => ((Value.tuple (List.toArray [(Value.agg (List.toArray [(Value.int IntKind.i64 rCount), (Value.slice ao84 rCommandsN cap85)])), (Value.bool Bool.false)])) = (Value.tuple (List.toArray [(Value.agg (List.toArray [(Value.int IntKind.i64 (rcvZ (rcvB rCount x) rCount)), (Value.slice ro0115 (rcvN (rcvB rCount x) rCommandsN) rc0116)])), (Value.bool (rcvB rCount x))])) ∧
   (((Bool.true = Bool.true ∧
   (ao84 = ro0115 ∧
   (41 = 41 ∧
   (4 = 4 ∧
   (rCommandsN = (rcvN (rcvB rCount x) rCommandsN) ∧
   (cap85 = rc0116 ∧
   ((∀ i117 : Nat,
   (i117 < rCommandsN →
   (Value.int IntKind.i64 (rCommandsg0 i117)) = (Value.int IntKind.i64 (rcv0 rCommandsN rCommandsg0 x i117)))) ∧
   ((∀ i118 : Nat,
   (i118 < rCommandsN →
   (Value.int IntKind.i64 (rCommandsg1 i118)) = (Value.int IntKind.i64 (rcv1 rCommandsN rCommandsg1 x i118)))) ∧
   ((∀ i119 : Nat,
   (i119 < rCommandsN →
   (Value.int IntKind.i64 (rCommandsg2 i119)) = (Value.int IntKind.i64 (rcv2 rCommandsN rCommandsg2 x i119)))) ∧
   ((∀ i120 : Nat,
   (i120 < rCommandsN →
   (Value.int IntKind.i64 (rCommandsg3 i120)) = (Value.int IntKind.i64 (rcv3 rCommandsN rCommandsg3 x i120)))) ∧
   True)))))))))) ∧
   True) ∧
   Bool.true = Bool.true))))))))))))))))))))))))))) := by kernel_rfl
theorem recvIL_any (rCount : Int) (rCommandsO : Option Addr) (rCommandsN rCommandsC : Nat) (rCommandsg0 rCommandsg1 rCommandsg2 rCommandsg3 : Nat → Int) (x : Int) (w : World) (hrrCommands : Row.sat w ⟨false, rCommandsO, 0, 4, rCommandsN, 0, [fun i => .int (rCommandsg0 i), fun i => .int (rCommandsg1 i), fun i => .int (rCommandsg2 i), fun i => .int (rCommandsg3 i)]⟩) (hpre : capC rCommandsN ∧ rngC x ∧ rng1C rCount) : Calls Try.prog 24 #[.agg #[.int .i64 rCount, .slice rCommandsO rCommandsN rCommandsC], .int .i64 x] w fun e w' => ∃ (ro0 : Option Addr) (rc0 : Nat), e = .returned (.tuple #[.agg #[.int .i64 (rcvZ (rcvB rCount x) rCount), .slice ro0 (rcvN (rcvB rCount x) rCommandsN) rc0], .bool (rcvB rCount x)]) ∧ HS ⟨w, fun _ => False⟩ [.row ⟨true, ro0, 41, 4, rcvN (rcvB rCount x) rCommandsN, rc0, [fun i => .int (rcv0 rCommandsN rCommandsg0 x i), fun i => .int (rcv1 rCommandsN rCommandsg1 x i), fun i => .int (rcv2 rCommandsN rCommandsg2 x i), fun i => .int (rcv3 rCommandsN rCommandsg3 x i)]⟩] w' := by
  refine fnB (tb := [(50, sBtw), (56, sRead)]) ⟨sBtwI_ok, sRead_ok_readI, trivial⟩ Try.func24 (@Eq.mpr _ _ (recvIL_T rCount rCommandsO rCommandsN rCommandsC rCommandsg0 rCommandsg1 rCommandsg2 rCommandsg3 x) ?_) (HS.rows (fun _ => False) [⟨false, rCommandsO, 0, 4, rCommandsN, 0, [fun i => .int (rCommandsg0 i), fun i => .int (rCommandsg1 i), fun i => .int (rCommandsg2 i), fun i => .int (rCommandsg3 i)]⟩] (by simp; exact hrrCommands)) (fun v ch' w' ⟨ro0, rc0, hk⟩ hs => ⟨ro0, rc0, by rw [hk.1], hk.hs hs⟩)
  clear hrrCommands
  have hx1 := hpre.1
  have hx2 := hpre.2.1
  have hx3 := hpre.2.2
  have hw : wrapI (rCount + 1) = rCount + 1 := wrap_rng (show rng (rCount + 1) from ⟨by omega, by omega⟩)
  cases hb : btw x 0 2097151
  · skip
    have hok : rcvB rCount x = false := by simp [rcvB, hb]
    repeat' (first
      | with_reducible exact rfl
      | exact True.intro
      | with_reducible assumption
      | refine And.intro ?_ ?_
      | apply Exists.intro
      | (intro h; exfalso; simp [hb, bne] at h; done)
      | (intro h; exfalso; simp [hb, bne] at h; omega)
      | intro _
      | omega
      | (simp; omega))
    all_goals (first | (simp_all [rcvZ, rcvN, rcv0, rcv1, rcv2, rcv3, incW]; done) | (simp_all [rcvZ, rcvN, rcv0, rcv1, rcv2, rcv3, incW]; omega) | (rename_i i hi; by_cases hin : i < rCommandsN <;> simp_all [rcvZ, rcvN, rcv0, rcv1, rcv2, rcv3, incW] <;> omega))
  · have hx := btw_facts' hb
    cases hc : decide (rCount < 0)
    · have hc' : 0 ≤ rCount := by have := of_decide_eq_false hc; omega
      cases he : (x / 32768 == rCount % 64)
      · skip
        have hok : rcvB rCount x = false := by simp [rcvB, hb, hc, he]
        repeat' (first
          | with_reducible exact rfl
          | exact True.intro
          | with_reducible assumption
          | refine And.intro ?_ ?_
          | apply Exists.intro
          | (intro h; exfalso; simp [hb, hc, he, bne] at h; done)
          | (intro h; exfalso; simp [hb, hc, he, bne] at h; omega)
          | intro _
          | omega
          | (simp; omega))
        all_goals (first | (simp_all [rcvZ, rcvN, rcv0, rcv1, rcv2, rcv3, incW]; done) | (simp_all [rcvZ, rcvN, rcv0, rcv1, rcv2, rcv3, incW]; omega) | (rename_i i hi; by_cases hin : i < rCommandsN <;> simp_all [rcvZ, rcvN, rcv0, rcv1, rcv2, rcv3, incW] <;> omega))
      · cases hr : rdB (x % 32768)
        · skip
          have hok : rcvB rCount x = false := by simp [rcvB, hb, hc, he, hr]
          repeat' (first
            | with_reducible exact rfl
            | exact True.intro
            | with_reducible assumption
            | refine And.intro ?_ ?_
            | apply Exists.intro
            | (intro h; exfalso; simp [hb, hc, he, hr, bne] at h; done)
            | (intro h; exfalso; simp [hb, hc, he, hr, bne] at h; omega)
            | intro _
            | omega
            | (simp; omega))
          all_goals (first | (simp_all [rcvZ, rcvN, rcv0, rcv1, rcv2, rcv3, incW]; done) | (simp_all [rcvZ, rcvN, rcv0, rcv1, rcv2, rcv3, incW]; omega) | (rename_i i hi; by_cases hin : i < rCommandsN <;> simp_all [rcvZ, rcvN, rcv0, rcv1, rcv2, rcv3, incW] <;> omega))
        · skip
          have hok : rcvB rCount x = true := by simp [rcvB, hb, hc, he, hr]
          repeat' (first
            | with_reducible exact rfl
            | exact True.intro
            | with_reducible assumption
            | refine And.intro ?_ ?_
            | apply Exists.intro
            | (intro h; exfalso; simp [hb, hc, he, hr, bne] at h; done)
            | (intro h; exfalso; simp [hb, hc, he, hr, bne] at h; omega)
            | intro _
            | omega
            | (simp; omega))
          all_goals (first | (simp_all [rcvZ, rcvN, rcv0, rcv1, rcv2, rcv3, incW]; done) | (simp_all [rcvZ, rcvN, rcv0, rcv1, rcv2, rcv3, incW]; omega) | (rename_i i hi; by_cases hin : i < rCommandsN <;> simp_all [rcvZ, rcvN, rcv0, rcv1, rcv2, rcv3, incW] <;> omega))
    · skip
      have hok : rcvB rCount x = false := by simp [rcvB, hb, hc]
      repeat' (first
        | with_reducible exact rfl
        | exact True.intro
        | with_reducible assumption
        | refine And.intro ?_ ?_
        | apply Exists.intro
        | (intro h; exfalso; simp [hb, hc, bne] at h; done)
        | (intro h; exfalso; simp [hb, hc, bne] at h; omega)
        | intro _
        | omega
        | (simp; omega))
      all_goals (first | (simp_all [rcvZ, rcvN, rcv0, rcv1, rcv2, rcv3, incW]; done) | (simp_all [rcvZ, rcvN, rcv0, rcv1, rcv2, rcv3, incW]; omega) | (rename_i i hi; by_cases hin : i < rCommandsN <;> simp_all [rcvZ, rcvN, rcv0, rcv1, rcv2, rcv3, incW] <;> omega))
theorem recvIM_T (rCount : Int) (rCommandsO : Option Addr) (rCommandsN rCommandsC : Nat) (rCommandsg0 rCommandsg1 rCommandsg2 rCommandsg3 : Nat → Int) (x : Int) : (exFn Try.prog {tb := [(50, sBtw), (56, sRead)]} 400 Try.f24 ([.a (.agg [.il 9223372036854775807, .sl 0 rCommandsO rCommandsN rCommandsC]), .a (.c (.int x))]) ([.row ⟨false, rCommandsO, 0, 4, rCommandsN, 0, [fun i => .int (rCommandsg0 i), fun i => .int (rCommandsg1 i), fun i => .int (rCommandsg2 i), fun i => .int (rCommandsg3 i)]⟩]) (fun v ch => ∃ (ro0 : Option Addr) (rc0 : Nat), OutR v ch (.tuple #[.agg #[.int .i64 (rcvZ (rcvB rCount x) rCount), .slice ro0 (rcvN (rcvB rCount x) rCommandsN) rc0], .bool (rcvB rCount x)]) [.row ⟨true, ro0, 41, 4, rcvN (rcvB rCount x) rCommandsN, rc0, [fun i => .int (rcv0 rCommandsN rCommandsg0 x i), fun i => .int (rcv1 rCommandsN rCommandsg1 x i), fun i => .int (rcv2 rCommandsN rCommandsg2 x i), fun i => .int (rcv3 rCommandsN rCommandsg3 x i)]⟩])) = (
  (∀ b0 : Nat,
  (∀ b1 : Nat,
  (b0 = b0 ∧
  (b0 = b0 ∧
  ((∀ b2 : Nat,
  (True ∧
  (((b2 = b2 ∧
  ((rCommandsO = rCommandsO ∧
  rCommandsN = rCommandsN) ∧
  ((∀ i3 : Nat,
  Bool.true = Bool.true) ∧
  (apC 0 rCommandsN 32)))) ∧
  (∀ ao4 : (Option Addr),
  (∀ cap5 : Nat,
  (True ∧
  (∀ b6 : Nat,
  (True ∧
  (b6 = b6 ∧
  (True ∧
  (((!(btw x (0 : Int) (2097151 : Int))) = Bool.false →
  (b0 = b0 ∧
   ((divC x (32768 : Int)) ∧
   (b0 = b0 ∧
   ((((x / (32768 : Int)) != (63 : Int)) = Bool.true →
   (b6 = b6 ∧
    (b1 = b1 ∧
    (b1 = b1 ∧
    (Exists (fun (ro07 : (Option Addr)) => (Exists (fun (rc08 : Nat) => ((Value.tuple (List.toArray [(Value.agg (List.toArray [(Value.int IntKind.i64 (9223372036854775807 : Int)), (Value.slice ao4 rCommandsN cap5)])), (Value.bool Bool.false)])) = (Value.tuple (List.toArray [(Value.agg (List.toArray [(Value.int IntKind.i64 (rcvZ (rcvB rCount x) rCount)), (Value.slice ro07 (rcvN (rcvB rCount x) rCommandsN) rc08)])), (Value.bool (rcvB rCount x))])) ∧
    (((Bool.true = Bool.true ∧
    (ao4 = ro07 ∧
    (41 = 41 ∧
    (4 = 4 ∧
    (rCommandsN = (rcvN (rcvB rCount x) rCommandsN) ∧
    (cap5 = rc08 ∧
    ((∀ i9 : Nat,
    (i9 < rCommandsN →
    (Value.int IntKind.i64 (rCommandsg0 i9)) = (Value.int IntKind.i64 (rcv0 rCommandsN rCommandsg0 x i9)))) ∧
    ((∀ i10 : Nat,
    (i10 < rCommandsN →
    (Value.int IntKind.i64 (rCommandsg1 i10)) = (Value.int IntKind.i64 (rcv1 rCommandsN rCommandsg1 x i10)))) ∧
    ((∀ i11 : Nat,
    (i11 < rCommandsN →
    (Value.int IntKind.i64 (rCommandsg2 i11)) = (Value.int IntKind.i64 (rcv2 rCommandsN rCommandsg2 x i11)))) ∧
    ((∀ i12 : Nat,
    (i12 < rCommandsN →
    (Value.int IntKind.i64 (rCommandsg3 i12)) = (Value.int IntKind.i64 (rcv3 rCommandsN rCommandsg3 x i12)))) ∧
    True)))))))))) ∧
    True) ∧
    Bool.true = Bool.true)))))))))) ∧
   (((x / (32768 : Int)) != (63 : Int)) = Bool.false →
   ((divC x (32768 : Int)) ∧
    ((rdC (x % (32768 : Int))) ∧
    (∀ b13 : Nat,
    (b13 = b13 ∧
    (((!(rdB (x % (32768 : Int)))) = Bool.true →
    (b6 = b6 ∧
     (b1 = b1 ∧
     (b1 = b1 ∧
     (Exists (fun (ro014 : (Option Addr)) => (Exists (fun (rc015 : Nat) => ((Value.tuple (List.toArray [(Value.agg (List.toArray [(Value.int IntKind.i64 (9223372036854775807 : Int)), (Value.slice ao4 rCommandsN cap5)])), (Value.bool Bool.false)])) = (Value.tuple (List.toArray [(Value.agg (List.toArray [(Value.int IntKind.i64 (rcvZ (rcvB rCount x) rCount)), (Value.slice ro014 (rcvN (rcvB rCount x) rCommandsN) rc015)])), (Value.bool (rcvB rCount x))])) ∧
     (((Bool.true = Bool.true ∧
     (ao4 = ro014 ∧
     (41 = 41 ∧
     (4 = 4 ∧
     (rCommandsN = (rcvN (rcvB rCount x) rCommandsN) ∧
     (cap5 = rc015 ∧
     ((∀ i16 : Nat,
     (i16 < rCommandsN →
     (Value.int IntKind.i64 (rCommandsg0 i16)) = (Value.int IntKind.i64 (rcv0 rCommandsN rCommandsg0 x i16)))) ∧
     ((∀ i17 : Nat,
     (i17 < rCommandsN →
     (Value.int IntKind.i64 (rCommandsg1 i17)) = (Value.int IntKind.i64 (rcv1 rCommandsN rCommandsg1 x i17)))) ∧
     ((∀ i18 : Nat,
     (i18 < rCommandsN →
     (Value.int IntKind.i64 (rCommandsg2 i18)) = (Value.int IntKind.i64 (rcv2 rCommandsN rCommandsg2 x i18)))) ∧
     ((∀ i19 : Nat,
     (i19 < rCommandsN →
     (Value.int IntKind.i64 (rCommandsg3 i19)) = (Value.int IntKind.i64 (rcv3 rCommandsN rCommandsg3 x i19)))) ∧
     True)))))))))) ∧
     True) ∧
     Bool.true = Bool.true)))))))))) ∧
    ((!(rdB (x % (32768 : Int)))) = Bool.false →
    (b6 = b6 ∧
     (b13 = b13 ∧
     (∀ b20 : Nat,
     ((ao4 = ao4 ∧
     (rCommandsN = rCommandsN ∧
     (cap5 = cap5 ∧
     (b20 = b20 ∧
     ((∀ i21 : Nat,
     Bool.true = Bool.true) ∧
     (apC rCommandsN 1 32)))))) ∧
     (∀ ao'22 : (Option Addr),
     (∀ cap'23 : Nat,
     (b6 = b6 ∧
     (b6 = b6 ∧
     (b6 = b6 ∧
     (b6 = b6 ∧
     (b1 = b1 ∧
     (b1 = b1 ∧
     (Exists (fun (ro024 : (Option Addr)) => (Exists (fun (rc025 : Nat) => ((Value.tuple (List.toArray [(Value.agg (List.toArray [(Value.int IntKind.i64 (wrapI (9223372036854775808 : Int))), (Value.slice ao'22 (rCommandsN + 1) cap'23)])), (Value.bool Bool.true)])) = (Value.tuple (List.toArray [(Value.agg (List.toArray [(Value.int IntKind.i64 (rcvZ (rcvB rCount x) rCount)), (Value.slice ro024 (rcvN (rcvB rCount x) rCommandsN) rc025)])), (Value.bool (rcvB rCount x))])) ∧
     (((Bool.true = Bool.true ∧
     (ao'22 = ro024 ∧
     (41 = 41 ∧
     (4 = 4 ∧
     ((rCommandsN + 1) = (rcvN (rcvB rCount x) rCommandsN) ∧
     (cap'23 = rc025 ∧
     ((∀ i26 : Nat,
     (i26 < (rCommandsN + 1) →
     (Value.int IntKind.i64 (if i26 < rCommandsN then (rCommandsg0 i26) else (rdK (x % (32768 : Int))))) = (Value.int IntKind.i64 (rcv0 rCommandsN rCommandsg0 x i26)))) ∧
     ((∀ i27 : Nat,
     (i27 < (rCommandsN + 1) →
     (Value.int IntKind.i64 (if i27 < rCommandsN then (rCommandsg1 i27) else (rdBk (x % (32768 : Int))))) = (Value.int IntKind.i64 (rcv1 rCommandsN rCommandsg1 x i27)))) ∧
     ((∀ i28 : Nat,
     (i28 < (rCommandsN + 1) →
     (Value.int IntKind.i64 (if i28 < rCommandsN then (rCommandsg2 i28) else (rdR (x % (32768 : Int))))) = (Value.int IntKind.i64 (rcv2 rCommandsN rCommandsg2 x i28)))) ∧
     ((∀ i29 : Nat,
     (i29 < (rCommandsN + 1) →
     (Value.int IntKind.i64 (if i29 < rCommandsN then (rCommandsg3 i29) else (rdCo (x % (32768 : Int))))) = (Value.int IntKind.i64 (rcv3 rCommandsN rCommandsg3 x i29)))) ∧
     True)))))))))) ∧
     True) ∧
     Bool.true = Bool.true)))))))))))))))))))))))))))))) ∧
  ((!(btw x (0 : Int) (2097151 : Int))) = Bool.true →
  (b6 = b6 ∧
   (b1 = b1 ∧
   (b1 = b1 ∧
   (Exists (fun (ro030 : (Option Addr)) => (Exists (fun (rc031 : Nat) => ((Value.tuple (List.toArray [(Value.agg (List.toArray [(Value.int IntKind.i64 (9223372036854775807 : Int)), (Value.slice ao4 rCommandsN cap5)])), (Value.bool Bool.false)])) = (Value.tuple (List.toArray [(Value.agg (List.toArray [(Value.int IntKind.i64 (rcvZ (rcvB rCount x) rCount)), (Value.slice ro030 (rcvN (rcvB rCount x) rCommandsN) rc031)])), (Value.bool (rcvB rCount x))])) ∧
   (((Bool.true = Bool.true ∧
   (ao4 = ro030 ∧
   (41 = 41 ∧
   (4 = 4 ∧
   (rCommandsN = (rcvN (rcvB rCount x) rCommandsN) ∧
   (cap5 = rc031 ∧
   ((∀ i32 : Nat,
   (i32 < rCommandsN →
   (Value.int IntKind.i64 (rCommandsg0 i32)) = (Value.int IntKind.i64 (rcv0 rCommandsN rCommandsg0 x i32)))) ∧
   ((∀ i33 : Nat,
   (i33 < rCommandsN →
   (Value.int IntKind.i64 (rCommandsg1 i33)) = (Value.int IntKind.i64 (rcv1 rCommandsN rCommandsg1 x i33)))) ∧
   ((∀ i34 : Nat,
   (i34 < rCommandsN →
   (Value.int IntKind.i64 (rCommandsg2 i34)) = (Value.int IntKind.i64 (rcv2 rCommandsN rCommandsg2 x i34)))) ∧
   ((∀ i35 : Nat,
   (i35 < rCommandsN →
   (Value.int IntKind.i64 (rCommandsg3 i35)) = (Value.int IntKind.i64 (rcv3 rCommandsN rCommandsg3 x i35)))) ∧
   True)))))))))) ∧
   True) ∧
   Bool.true = Bool.true))))))))))))))))))) ∧
  (∀ b36 : Nat,
  (True ∧
  ((b2 = b2 ∧
  ((rCommandsO = rCommandsO ∧
  rCommandsN = rCommandsN) ∧
  ((∀ i37 : Nat,
  Bool.true = Bool.true) ∧
  (apC 0 rCommandsN 32)))) ∧
  (∀ ao38 : (Option Addr),
  (∀ cap39 : Nat,
  (True ∧
  (b36 = b36 ∧
  (True ∧
  (((!(btw x (0 : Int) (2097151 : Int))) = Bool.false →
  (b0 = b0 ∧
   ((divC x (32768 : Int)) ∧
   (b0 = b0 ∧
   ((((x / (32768 : Int)) != (63 : Int)) = Bool.true →
   (b36 = b36 ∧
    (b1 = b1 ∧
    (b1 = b1 ∧
    (Exists (fun (ro040 : (Option Addr)) => (Exists (fun (rc041 : Nat) => ((Value.tuple (List.toArray [(Value.agg (List.toArray [(Value.int IntKind.i64 (9223372036854775807 : Int)), (Value.slice ao38 rCommandsN cap39)])), (Value.bool Bool.false)])) = (Value.tuple (List.toArray [(Value.agg (List.toArray [(Value.int IntKind.i64 (rcvZ (rcvB rCount x) rCount)), (Value.slice ro040 (rcvN (rcvB rCount x) rCommandsN) rc041)])), (Value.bool (rcvB rCount x))])) ∧
    (((Bool.true = Bool.true ∧
    (ao38 = ro040 ∧
    (41 = 41 ∧
    (4 = 4 ∧
    (rCommandsN = (rcvN (rcvB rCount x) rCommandsN) ∧
    (cap39 = rc041 ∧
    ((∀ i42 : Nat,
    (i42 < rCommandsN →
    (Value.int IntKind.i64 (rCommandsg0 i42)) = (Value.int IntKind.i64 (rcv0 rCommandsN rCommandsg0 x i42)))) ∧
    ((∀ i43 : Nat,
    (i43 < rCommandsN →
    (Value.int IntKind.i64 (rCommandsg1 i43)) = (Value.int IntKind.i64 (rcv1 rCommandsN rCommandsg1 x i43)))) ∧
    ((∀ i44 : Nat,
    (i44 < rCommandsN →
    (Value.int IntKind.i64 (rCommandsg2 i44)) = (Value.int IntKind.i64 (rcv2 rCommandsN rCommandsg2 x i44)))) ∧
    ((∀ i45 : Nat,
    (i45 < rCommandsN →
    (Value.int IntKind.i64 (rCommandsg3 i45)) = (Value.int IntKind.i64 (rcv3 rCommandsN rCommandsg3 x i45)))) ∧
    True)))))))))) ∧
    True) ∧
    Bool.true = Bool.true)))))))))) ∧
   (((x / (32768 : Int)) != (63 : Int)) = Bool.false →
   ((divC x (32768 : Int)) ∧
    ((rdC (x % (32768 : Int))) ∧
    (∀ b46 : Nat,
    (b46 = b46 ∧
    (((!(rdB (x % (32768 : Int)))) = Bool.true →
    (b36 = b36 ∧
     (b1 = b1 ∧
     (b1 = b1 ∧
     (Exists (fun (ro047 : (Option Addr)) => (Exists (fun (rc048 : Nat) => ((Value.tuple (List.toArray [(Value.agg (List.toArray [(Value.int IntKind.i64 (9223372036854775807 : Int)), (Value.slice ao38 rCommandsN cap39)])), (Value.bool Bool.false)])) = (Value.tuple (List.toArray [(Value.agg (List.toArray [(Value.int IntKind.i64 (rcvZ (rcvB rCount x) rCount)), (Value.slice ro047 (rcvN (rcvB rCount x) rCommandsN) rc048)])), (Value.bool (rcvB rCount x))])) ∧
     (((Bool.true = Bool.true ∧
     (ao38 = ro047 ∧
     (41 = 41 ∧
     (4 = 4 ∧
     (rCommandsN = (rcvN (rcvB rCount x) rCommandsN) ∧
     (cap39 = rc048 ∧
     ((∀ i49 : Nat,
     (i49 < rCommandsN →
     (Value.int IntKind.i64 (rCommandsg0 i49)) = (Value.int IntKind.i64 (rcv0 rCommandsN rCommandsg0 x i49)))) ∧
     ((∀ i50 : Nat,
     (i50 < rCommandsN →
     (Value.int IntKind.i64 (rCommandsg1 i50)) = (Value.int IntKind.i64 (rcv1 rCommandsN rCommandsg1 x i50)))) ∧
     ((∀ i51 : Nat,
     (i51 < rCommandsN →
     (Value.int IntKind.i64 (rCommandsg2 i51)) = (Value.int IntKind.i64 (rcv2 rCommandsN rCommandsg2 x i51)))) ∧
     ((∀ i52 : Nat,
     (i52 < rCommandsN →
     (Value.int IntKind.i64 (rCommandsg3 i52)) = (Value.int IntKind.i64 (rcv3 rCommandsN rCommandsg3 x i52)))) ∧
     True)))))))))) ∧
     True) ∧
     Bool.true = Bool.true)))))))))) ∧
    ((!(rdB (x % (32768 : Int)))) = Bool.false →
    (b36 = b36 ∧
     (b46 = b46 ∧
     (∀ b53 : Nat,
     ((ao38 = ao38 ∧
     (rCommandsN = rCommandsN ∧
     (cap39 = cap39 ∧
     (b53 = b53 ∧
     ((∀ i54 : Nat,
     Bool.true = Bool.true) ∧
     (apC rCommandsN 1 32)))))) ∧
     (∀ ao'55 : (Option Addr),
     (∀ cap'56 : Nat,
     (b36 = b36 ∧
     (b36 = b36 ∧
     (b36 = b36 ∧
     (b36 = b36 ∧
     (b1 = b1 ∧
     (b1 = b1 ∧
     (Exists (fun (ro057 : (Option Addr)) => (Exists (fun (rc058 : Nat) => ((Value.tuple (List.toArray [(Value.agg (List.toArray [(Value.int IntKind.i64 (wrapI (9223372036854775808 : Int))), (Value.slice ao'55 (rCommandsN + 1) cap'56)])), (Value.bool Bool.true)])) = (Value.tuple (List.toArray [(Value.agg (List.toArray [(Value.int IntKind.i64 (rcvZ (rcvB rCount x) rCount)), (Value.slice ro057 (rcvN (rcvB rCount x) rCommandsN) rc058)])), (Value.bool (rcvB rCount x))])) ∧
     (((Bool.true = Bool.true ∧
     (ao'55 = ro057 ∧
     (41 = 41 ∧
     (4 = 4 ∧
     ((rCommandsN + 1) = (rcvN (rcvB rCount x) rCommandsN) ∧
     (cap'56 = rc058 ∧
     ((∀ i59 : Nat,
     (i59 < (rCommandsN + 1) →
     (Value.int IntKind.i64 (if i59 < rCommandsN then (rCommandsg0 i59) else (rdK (x % (32768 : Int))))) = (Value.int IntKind.i64 (rcv0 rCommandsN rCommandsg0 x i59)))) ∧
     ((∀ i60 : Nat,
     (i60 < (rCommandsN + 1) →
     (Value.int IntKind.i64 (if i60 < rCommandsN then (rCommandsg1 i60) else (rdBk (x % (32768 : Int))))) = (Value.int IntKind.i64 (rcv1 rCommandsN rCommandsg1 x i60)))) ∧
     ((∀ i61 : Nat,
     (i61 < (rCommandsN + 1) →
     (Value.int IntKind.i64 (if i61 < rCommandsN then (rCommandsg2 i61) else (rdR (x % (32768 : Int))))) = (Value.int IntKind.i64 (rcv2 rCommandsN rCommandsg2 x i61)))) ∧
     ((∀ i62 : Nat,
     (i62 < (rCommandsN + 1) →
     (Value.int IntKind.i64 (if i62 < rCommandsN then (rCommandsg3 i62) else (rdCo (x % (32768 : Int))))) = (Value.int IntKind.i64 (rcv3 rCommandsN rCommandsg3 x i62)))) ∧
     True)))))))))) ∧
     True) ∧
     Bool.true = Bool.true)))))))))))))))))))))))))))))) ∧
  ((!(btw x (0 : Int) (2097151 : Int))) = Bool.true →
  (b36 = b36 ∧
   (b1 = b1 ∧
   (b1 = b1 ∧
   (Exists (fun (ro063 : (Option Addr)) => (Exists (fun (rc064 : Nat) => ((Value.tuple (List.toArray [(Value.agg (List.toArray [(Value.int IntKind.i64 (9223372036854775807 : Int)), (Value.slice ao38 rCommandsN cap39)])), (Value.bool Bool.false)])) = (Value.tuple (List.toArray [(Value.agg (List.toArray [(Value.int IntKind.i64 (rcvZ (rcvB rCount x) rCount)), (Value.slice ro063 (rcvN (rcvB rCount x) rCommandsN) rc064)])), (Value.bool (rcvB rCount x))])) ∧
   (((Bool.true = Bool.true ∧
   (ao38 = ro063 ∧
   (41 = 41 ∧
   (4 = 4 ∧
   (rCommandsN = (rcvN (rcvB rCount x) rCommandsN) ∧
   (cap39 = rc064 ∧
   ((∀ i65 : Nat,
   (i65 < rCommandsN →
   (Value.int IntKind.i64 (rCommandsg0 i65)) = (Value.int IntKind.i64 (rcv0 rCommandsN rCommandsg0 x i65)))) ∧
   ((∀ i66 : Nat,
   (i66 < rCommandsN →
   (Value.int IntKind.i64 (rCommandsg1 i66)) = (Value.int IntKind.i64 (rcv1 rCommandsN rCommandsg1 x i66)))) ∧
   ((∀ i67 : Nat,
   (i67 < rCommandsN →
   (Value.int IntKind.i64 (rCommandsg2 i67)) = (Value.int IntKind.i64 (rcv2 rCommandsN rCommandsg2 x i67)))) ∧
   ((∀ i68 : Nat,
   (i68 < rCommandsN →
   (Value.int IntKind.i64 (rCommandsg3 i68)) = (Value.int IntKind.i64 (rcv3 rCommandsN rCommandsg3 x i68)))) ∧
   True)))))))))) ∧
   True) ∧
   Bool.true = Bool.true)))))))))))))))))))))) ∧
  (∀ b69 : Nat,
  (True ∧
  (∀ b70 : Nat,
  (True ∧
  ((b70 = b70 ∧
  ((rCommandsO = rCommandsO ∧
  rCommandsN = rCommandsN) ∧
  ((∀ i71 : Nat,
  Bool.true = Bool.true) ∧
  (apC 0 rCommandsN 32)))) ∧
  (∀ ao72 : (Option Addr),
  (∀ cap73 : Nat,
  (True ∧
  (b69 = b69 ∧
  (True ∧
  (((!(btw x (0 : Int) (2097151 : Int))) = Bool.false →
  (b0 = b0 ∧
   ((divC x (32768 : Int)) ∧
   (b0 = b0 ∧
   ((((x / (32768 : Int)) != (63 : Int)) = Bool.true →
   (b69 = b69 ∧
    (b1 = b1 ∧
    (b1 = b1 ∧
    (Exists (fun (ro074 : (Option Addr)) => (Exists (fun (rc075 : Nat) => ((Value.tuple (List.toArray [(Value.agg (List.toArray [(Value.int IntKind.i64 (9223372036854775807 : Int)), (Value.slice ao72 rCommandsN cap73)])), (Value.bool Bool.false)])) = (Value.tuple (List.toArray [(Value.agg (List.toArray [(Value.int IntKind.i64 (rcvZ (rcvB rCount x) rCount)), (Value.slice ro074 (rcvN (rcvB rCount x) rCommandsN) rc075)])), (Value.bool (rcvB rCount x))])) ∧
    (((Bool.true = Bool.true ∧
    (ao72 = ro074 ∧
    (41 = 41 ∧
    (4 = 4 ∧
    (rCommandsN = (rcvN (rcvB rCount x) rCommandsN) ∧
    (cap73 = rc075 ∧
    ((∀ i76 : Nat,
    (i76 < rCommandsN →
    (Value.int IntKind.i64 (rCommandsg0 i76)) = (Value.int IntKind.i64 (rcv0 rCommandsN rCommandsg0 x i76)))) ∧
    ((∀ i77 : Nat,
    (i77 < rCommandsN →
    (Value.int IntKind.i64 (rCommandsg1 i77)) = (Value.int IntKind.i64 (rcv1 rCommandsN rCommandsg1 x i77)))) ∧
    ((∀ i78 : Nat,
    (i78 < rCommandsN →
    (Value.int IntKind.i64 (rCommandsg2 i78)) = (Value.int IntKind.i64 (rcv2 rCommandsN rCommandsg2 x i78)))) ∧
    ((∀ i79 : Nat,
    (i79 < rCommandsN →
    (Value.int IntKind.i64 (rCommandsg3 i79)) = (Value.int IntKind.i64 (rcv3 rCommandsN rCommandsg3 x i79)))) ∧
    True)))))))))) ∧
    True) ∧
    Bool.true = Bool.true)))))))))) ∧
   (((x / (32768 : Int)) != (63 : Int)) = Bool.false →
   ((divC x (32768 : Int)) ∧
    ((rdC (x % (32768 : Int))) ∧
    (∀ b80 : Nat,
    (b80 = b80 ∧
    (((!(rdB (x % (32768 : Int)))) = Bool.true →
    (b69 = b69 ∧
     (b1 = b1 ∧
     (b1 = b1 ∧
     (Exists (fun (ro081 : (Option Addr)) => (Exists (fun (rc082 : Nat) => ((Value.tuple (List.toArray [(Value.agg (List.toArray [(Value.int IntKind.i64 (9223372036854775807 : Int)), (Value.slice ao72 rCommandsN cap73)])), (Value.bool Bool.false)])) = (Value.tuple (List.toArray [(Value.agg (List.toArray [(Value.int IntKind.i64 (rcvZ (rcvB rCount x) rCount)), (Value.slice ro081 (rcvN (rcvB rCount x) rCommandsN) rc082)])), (Value.bool (rcvB rCount x))])) ∧
     (((Bool.true = Bool.true ∧
     (ao72 = ro081 ∧
     (41 = 41 ∧
     (4 = 4 ∧
     (rCommandsN = (rcvN (rcvB rCount x) rCommandsN) ∧
     (cap73 = rc082 ∧
     ((∀ i83 : Nat,
     (i83 < rCommandsN →
     (Value.int IntKind.i64 (rCommandsg0 i83)) = (Value.int IntKind.i64 (rcv0 rCommandsN rCommandsg0 x i83)))) ∧
     ((∀ i84 : Nat,
     (i84 < rCommandsN →
     (Value.int IntKind.i64 (rCommandsg1 i84)) = (Value.int IntKind.i64 (rcv1 rCommandsN rCommandsg1 x i84)))) ∧
     ((∀ i85 : Nat,
     (i85 < rCommandsN →
     (Value.int IntKind.i64 (rCommandsg2 i85)) = (Value.int IntKind.i64 (rcv2 rCommandsN rCommandsg2 x i85)))) ∧
     ((∀ i86 : Nat,
     (i86 < rCommandsN →
     (Value.int IntKind.i64 (rCommandsg3 i86)) = (Value.int IntKind.i64 (rcv3 rCommandsN rCommandsg3 x i86)))) ∧
     True)))))))))) ∧
     True) ∧
     Bool.true = Bool.true)))))))))) ∧
    ((!(rdB (x % (32768 : Int)))) = Bool.false →
    (b69 = b69 ∧
     (b80 = b80 ∧
     (∀ b87 : Nat,
     ((ao72 = ao72 ∧
     (rCommandsN = rCommandsN ∧
     (cap73 = cap73 ∧
     (b87 = b87 ∧
     ((∀ i88 : Nat,
     Bool.true = Bool.true) ∧
     (apC rCommandsN 1 32)))))) ∧
     (∀ ao'89 : (Option Addr),
     (∀ cap'90 : Nat,
     (b69 = b69 ∧
     (b69 = b69 ∧
     (b69 = b69 ∧
     (b69 = b69 ∧
     (b1 = b1 ∧
     (b1 = b1 ∧
     (Exists (fun (ro091 : (Option Addr)) => (Exists (fun (rc092 : Nat) => ((Value.tuple (List.toArray [(Value.agg (List.toArray [(Value.int IntKind.i64 (wrapI (9223372036854775808 : Int))), (Value.slice ao'89 (rCommandsN + 1) cap'90)])), (Value.bool Bool.true)])) = (Value.tuple (List.toArray [(Value.agg (List.toArray [(Value.int IntKind.i64 (rcvZ (rcvB rCount x) rCount)), (Value.slice ro091 (rcvN (rcvB rCount x) rCommandsN) rc092)])), (Value.bool (rcvB rCount x))])) ∧
     (((Bool.true = Bool.true ∧
     (ao'89 = ro091 ∧
     (41 = 41 ∧
     (4 = 4 ∧
     ((rCommandsN + 1) = (rcvN (rcvB rCount x) rCommandsN) ∧
     (cap'90 = rc092 ∧
     ((∀ i93 : Nat,
     (i93 < (rCommandsN + 1) →
     (Value.int IntKind.i64 (if i93 < rCommandsN then (rCommandsg0 i93) else (rdK (x % (32768 : Int))))) = (Value.int IntKind.i64 (rcv0 rCommandsN rCommandsg0 x i93)))) ∧
     ((∀ i94 : Nat,
     (i94 < (rCommandsN + 1) →
     (Value.int IntKind.i64 (if i94 < rCommandsN then (rCommandsg1 i94) else (rdBk (x % (32768 : Int))))) = (Value.int IntKind.i64 (rcv1 rCommandsN rCommandsg1 x i94)))) ∧
     ((∀ i95 : Nat,
     (i95 < (rCommandsN + 1) →
     (Value.int IntKind.i64 (if i95 < rCommandsN then (rCommandsg2 i95) else (rdR (x % (32768 : Int))))) = (Value.int IntKind.i64 (rcv2 rCommandsN rCommandsg2 x i95)))) ∧
     ((∀ i96 : Nat,
     (i96 < (rCommandsN + 1) →
     (Value.int IntKind.i64 (if i96 < rCommandsN then (rCommandsg3 i96) else (rdCo (x % (32768 : Int))))) = (Value.int IntKind.i64 (rcv3 rCommandsN rCommandsg3 x i96)))) ∧
     True)))))))))) ∧
     True) ∧
     Bool.true = Bool.true)))))))))))))))))))))))))))))) ∧
  ((!(btw x (0 : Int) (2097151 : Int))) = Bool.true →
  (b69 = b69 ∧
   (b1 = b1 ∧
   (b1 = b1 ∧
   (Exists (fun (ro097 : (Option Addr)) => (Exists (fun (rc098 : Nat) => ((Value.tuple (List.toArray [(Value.agg (List.toArray [(Value.int IntKind.i64 (9223372036854775807 : Int)), (Value.slice ao72 rCommandsN cap73)])), (Value.bool Bool.false)])) = (Value.tuple (List.toArray [(Value.agg (List.toArray [(Value.int IntKind.i64 (rcvZ (rcvB rCount x) rCount)), (Value.slice ro097 (rcvN (rcvB rCount x) rCommandsN) rc098)])), (Value.bool (rcvB rCount x))])) ∧
   (((Bool.true = Bool.true ∧
   (ao72 = ro097 ∧
   (41 = 41 ∧
   (4 = 4 ∧
   (rCommandsN = (rcvN (rcvB rCount x) rCommandsN) ∧
   (cap73 = rc098 ∧
   ((∀ i99 : Nat,
   (i99 < rCommandsN →
   (Value.int IntKind.i64 (rCommandsg0 i99)) = (Value.int IntKind.i64 (rcv0 rCommandsN rCommandsg0 x i99)))) ∧
   ((∀ i100 : Nat,
   (i100 < rCommandsN →
   (Value.int IntKind.i64 (rCommandsg1 i100)) = (Value.int IntKind.i64 (rcv1 rCommandsN rCommandsg1 x i100)))) ∧
   ((∀ i101 : Nat,
   (i101 < rCommandsN →
   (Value.int IntKind.i64 (rCommandsg2 i101)) = (Value.int IntKind.i64 (rcv2 rCommandsN rCommandsg2 x i101)))) ∧
   ((∀ i102 : Nat,
   (i102 < rCommandsN →
   (Value.int IntKind.i64 (rCommandsg3 i102)) = (Value.int IntKind.i64 (rcv3 rCommandsN rCommandsg3 x i102)))) ∧
   True)))))))))) ∧
   True) ∧
   Bool.true = Bool.true))))))))))))))))))))))))))) := by kernel_rfl
theorem recvIM_any (rCount : Int) (rCommandsO : Option Addr) (rCommandsN rCommandsC : Nat) (rCommandsg0 rCommandsg1 rCommandsg2 rCommandsg3 : Nat → Int) (x : Int) (w : World) (hrrCommands : Row.sat w ⟨false, rCommandsO, 0, 4, rCommandsN, 0, [fun i => .int (rCommandsg0 i), fun i => .int (rCommandsg1 i), fun i => .int (rCommandsg2 i), fun i => .int (rCommandsg3 i)]⟩) (hpre : capC rCommandsN ∧ rngC x ∧ rCount = 9223372036854775807) : Calls Try.prog 24 #[.agg #[.int .i64 rCount, .slice rCommandsO rCommandsN rCommandsC], .int .i64 x] w fun e w' => ∃ (ro0 : Option Addr) (rc0 : Nat), e = .returned (.tuple #[.agg #[.int .i64 (rcvZ (rcvB rCount x) rCount), .slice ro0 (rcvN (rcvB rCount x) rCommandsN) rc0], .bool (rcvB rCount x)]) ∧ HS ⟨w, fun _ => False⟩ [.row ⟨true, ro0, 41, 4, rcvN (rcvB rCount x) rCommandsN, rc0, [fun i => .int (rcv0 rCommandsN rCommandsg0 x i), fun i => .int (rcv1 rCommandsN rCommandsg1 x i), fun i => .int (rcv2 rCommandsN rCommandsg2 x i), fun i => .int (rcv3 rCommandsN rCommandsg3 x i)]⟩] w' := by
  obtain ⟨hx1, hx2, rfl⟩ := hpre
  refine fnB (tb := [(50, sBtw), (56, sRead)]) ⟨sBtwI_ok, sRead_ok_readI, trivial⟩ Try.func24 (@Eq.mpr _ _ (recvIM_T  (9223372036854775807 : Int) rCommandsO rCommandsN rCommandsC rCommandsg0 rCommandsg1 rCommandsg2 rCommandsg3 x) ?_) (HS.rows (fun _ => False) [⟨false, rCommandsO, 0, 4, rCommandsN, 0, [fun i => .int (rCommandsg0 i), fun i => .int (rCommandsg1 i), fun i => .int (rCommandsg2 i), fun i => .int (rCommandsg3 i)]⟩] (by simp; exact hrrCommands)) (fun v ch' w' ⟨ro0, rc0, hk⟩ hs => ⟨ro0, rc0, by rw [hk.1], hk.hs hs⟩)
  clear hrrCommands
  cases hb : btw x 0 2097151
  · skip
    have hok : rcvB 9223372036854775807 x = false := by simp [rcvB, hb]
    repeat' (first
      | with_reducible exact rfl
      | exact True.intro
      | with_reducible assumption
      | refine And.intro ?_ ?_
      | apply Exists.intro
      | (intro h; exfalso; simp [hb, bne] at h; done)
      | (intro h; exfalso; simp [hb, bne] at h; omega)
      | intro _
      | omega
      | (simp; omega))
    all_goals (first | (simp_all [rcvZ, rcvN, rcv0, rcv1, rcv2, rcv3, incW]; done) | (simp_all [rcvZ, rcvN, rcv0, rcv1, rcv2, rcv3, incW]; omega) | (rename_i i hi; by_cases hin : i < rCommandsN <;> simp_all [rcvZ, rcvN, rcv0, rcv1, rcv2, rcv3, incW] <;> omega))
  · have hx := btw_facts' hb
    cases he : (x / 32768 == 63)
    · skip
      have hok : rcvB 9223372036854775807 x = false := by simp [rcvB, hb, he]
      repeat' (first
        | with_reducible exact rfl
        | exact True.intro
        | with_reducible assumption
        | refine And.intro ?_ ?_
        | apply Exists.intro
        | (intro h; exfalso; simp [hb, he, bne] at h; done)
        | (intro h; exfalso; simp [hb, he, bne] at h; omega)
        | intro _
        | omega
        | (simp; omega))
      all_goals (first | (simp_all [rcvZ, rcvN, rcv0, rcv1, rcv2, rcv3, incW]; done) | (simp_all [rcvZ, rcvN, rcv0, rcv1, rcv2, rcv3, incW]; omega) | (rename_i i hi; by_cases hin : i < rCommandsN <;> simp_all [rcvZ, rcvN, rcv0, rcv1, rcv2, rcv3, incW] <;> omega))
    · cases hr : rdB (x % 32768)
      · skip
        have hok : rcvB 9223372036854775807 x = false := by simp [rcvB, hb, he, hr]
        repeat' (first
          | with_reducible exact rfl
          | exact True.intro
          | with_reducible assumption
          | refine And.intro ?_ ?_
          | apply Exists.intro
          | (intro h; exfalso; simp [hb, he, hr, bne] at h; done)
          | (intro h; exfalso; simp [hb, he, hr, bne] at h; omega)
          | intro _
          | omega
          | (simp; omega))
        all_goals (first | (simp_all [rcvZ, rcvN, rcv0, rcv1, rcv2, rcv3, incW]; done) | (simp_all [rcvZ, rcvN, rcv0, rcv1, rcv2, rcv3, incW]; omega) | (rename_i i hi; by_cases hin : i < rCommandsN <;> simp_all [rcvZ, rcvN, rcv0, rcv1, rcv2, rcv3, incW] <;> omega))
      · skip
        have hok : rcvB 9223372036854775807 x = true := by simp [rcvB, hb, he, hr]
        repeat' (first
          | with_reducible exact rfl
          | exact True.intro
          | with_reducible assumption
          | refine And.intro ?_ ?_
          | apply Exists.intro
          | (intro h; exfalso; simp [hb, he, hr, bne] at h; done)
          | (intro h; exfalso; simp [hb, he, hr, bne] at h; omega)
          | intro _
          | omega
          | (simp; omega))
        all_goals (first | (simp_all [rcvZ, rcvN, rcv0, rcv1, rcv2, rcv3, incW]; done) | (simp_all [rcvZ, rcvN, rcv0, rcv1, rcv2, rcv3, incW]; omega) | (rename_i i hi; by_cases hin : i < rCommandsN <;> simp_all [rcvZ, rcvN, rcv0, rcv1, rcv2, rcv3, incW] <;> omega))
theorem recvI_any (rCount : Int) (rCommandsO : Option Addr) (rCommandsN rCommandsC : Nat) (rCommandsg0 rCommandsg1 rCommandsg2 rCommandsg3 : Nat → Int) (x : Int) (w : World) (hrrCommands : Row.sat w ⟨false, rCommandsO, 0, 4, rCommandsN, 0, [fun i => .int (rCommandsg0 i), fun i => .int (rCommandsg1 i), fun i => .int (rCommandsg2 i), fun i => .int (rCommandsg3 i)]⟩) (hpre : capC rCommandsN ∧ rngC x ∧ rngC rCount) : Calls Try.prog 24 #[.agg #[.int .i64 rCount, .slice rCommandsO rCommandsN rCommandsC], .int .i64 x] w fun e w' => ∃ (ro0 : Option Addr) (rc0 : Nat), e = .returned (.tuple #[.agg #[.int .i64 (rcvZ (rcvB rCount x) rCount), .slice ro0 (rcvN (rcvB rCount x) rCommandsN) rc0], .bool (rcvB rCount x)]) ∧ HS ⟨w, fun _ => False⟩ [.row ⟨true, ro0, 41, 4, rcvN (rcvB rCount x) rCommandsN, rc0, [fun i => .int (rcv0 rCommandsN rCommandsg0 x i), fun i => .int (rcv1 rCommandsN rCommandsg1 x i), fun i => .int (rcv2 rCommandsN rCommandsg2 x i), fun i => .int (rcv3 rCommandsN rCommandsg3 x i)]⟩] w' := by
  by_cases hm : rCount = 9223372036854775807
  · exact recvIM_any rCount rCommandsO rCommandsN rCommandsC rCommandsg0 rCommandsg1 rCommandsg2 rCommandsg3 x w hrrCommands ⟨hpre.1, hpre.2.1, hm⟩
  · exact recvIL_any rCount rCommandsO rCommandsN rCommandsC rCommandsg0 rCommandsg1 rCommandsg2 rCommandsg3 x w hrrCommands ⟨hpre.1, hpre.2.1, by have := hpre.2.2; omega⟩
theorem recvSL_T (rCount : Int) (rCommandsO : Option Addr) (rCommandsN rCommandsC : Nat) (rCommandsg0 rCommandsg1 rCommandsg2 rCommandsg3 : Nat → Int) (x : Int) : (exFn Try.prog {tb := [(48, sBtw), (62, sRead)]} 400 Try.f35 ([.a (.agg [.int rCount, .sl 0 rCommandsO rCommandsN rCommandsC]), .a (.c (.int x))]) ([.row ⟨false, rCommandsO, 0, 4, rCommandsN, 0, [fun i => .int (rCommandsg0 i), fun i => .int (rCommandsg1 i), fun i => .int (rCommandsg2 i), fun i => .int (rCommandsg3 i)]⟩]) (fun v ch => ∃ (ro0 : Option Addr) (rc0 : Nat), OutR v ch (.tuple #[.agg #[.int .i64 (rcvZ (rcvB rCount x) rCount), .slice ro0 (rcvN (rcvB rCount x) rCommandsN) rc0], .bool (rcvB rCount x)]) [.row ⟨true, ro0, 41, 4, rcvN (rcvB rCount x) rCommandsN, rc0, [fun i => .int (rcv0 rCommandsN rCommandsg0 x i), fun i => .int (rcv1 rCommandsN rCommandsg1 x i), fun i => .int (rcv2 rCommandsN rCommandsg2 x i), fun i => .int (rcv3 rCommandsN rCommandsg3 x i)]⟩])) = (
  (∀ b0 : Nat,
  (∀ b1 : Nat,
  (b0 = b0 ∧
  (b0 = b0 ∧
  ((∀ b2 : Nat,
  (True ∧
  (((b2 = b2 ∧
  ((rCommandsO = rCommandsO ∧
  rCommandsN = rCommandsN) ∧
  ((∀ i3 : Nat,
  Bool.true = Bool.true) ∧
  (apC 0 rCommandsN 32)))) ∧
  (∀ ao4 : (Option Addr),
  (∀ cap5 : Nat,
  (True ∧
  (∀ b6 : Nat,
  (True ∧
  (b6 = b6 ∧
  (True ∧
  (((!(btw x (0 : Int) (2097151 : Int))) = Bool.false →
  (b0 = b0 ∧
   (((decide (rCount < (0 : Int))) = Bool.false →
   ((divC x (32768 : Int)) ∧
    (b0 = b0 ∧
    ((divC rCount (64 : Int)) ∧
    ((((x / (32768 : Int)) != (rCount % (64 : Int))) = Bool.true →
    (b6 = b6 ∧
     (b1 = b1 ∧
     (b1 = b1 ∧
     (Exists (fun (ro07 : (Option Addr)) => (Exists (fun (rc08 : Nat) => ((Value.tuple (List.toArray [(Value.agg (List.toArray [(Value.int IntKind.i64 rCount), (Value.slice ao4 rCommandsN cap5)])), (Value.bool Bool.false)])) = (Value.tuple (List.toArray [(Value.agg (List.toArray [(Value.int IntKind.i64 (rcvZ (rcvB rCount x) rCount)), (Value.slice ro07 (rcvN (rcvB rCount x) rCommandsN) rc08)])), (Value.bool (rcvB rCount x))])) ∧
     (((Bool.true = Bool.true ∧
     (ao4 = ro07 ∧
     (41 = 41 ∧
     (4 = 4 ∧
     (rCommandsN = (rcvN (rcvB rCount x) rCommandsN) ∧
     (cap5 = rc08 ∧
     ((∀ i9 : Nat,
     (i9 < rCommandsN →
     (Value.int IntKind.i64 (rCommandsg0 i9)) = (Value.int IntKind.i64 (rcv0 rCommandsN rCommandsg0 x i9)))) ∧
     ((∀ i10 : Nat,
     (i10 < rCommandsN →
     (Value.int IntKind.i64 (rCommandsg1 i10)) = (Value.int IntKind.i64 (rcv1 rCommandsN rCommandsg1 x i10)))) ∧
     ((∀ i11 : Nat,
     (i11 < rCommandsN →
     (Value.int IntKind.i64 (rCommandsg2 i11)) = (Value.int IntKind.i64 (rcv2 rCommandsN rCommandsg2 x i11)))) ∧
     ((∀ i12 : Nat,
     (i12 < rCommandsN →
     (Value.int IntKind.i64 (rCommandsg3 i12)) = (Value.int IntKind.i64 (rcv3 rCommandsN rCommandsg3 x i12)))) ∧
     True)))))))))) ∧
     True) ∧
     Bool.true = Bool.true)))))))))) ∧
    (((x / (32768 : Int)) != (rCount % (64 : Int))) = Bool.false →
    ((divC x (32768 : Int)) ∧
     ((rdC (x % (32768 : Int))) ∧
     (∀ b13 : Nat,
     (b13 = b13 ∧
     (((!(rdB (x % (32768 : Int)))) = Bool.true →
     (b6 = b6 ∧
      (b1 = b1 ∧
      (b1 = b1 ∧
      (Exists (fun (ro014 : (Option Addr)) => (Exists (fun (rc015 : Nat) => ((Value.tuple (List.toArray [(Value.agg (List.toArray [(Value.int IntKind.i64 rCount), (Value.slice ao4 rCommandsN cap5)])), (Value.bool Bool.false)])) = (Value.tuple (List.toArray [(Value.agg (List.toArray [(Value.int IntKind.i64 (rcvZ (rcvB rCount x) rCount)), (Value.slice ro014 (rcvN (rcvB rCount x) rCommandsN) rc015)])), (Value.bool (rcvB rCount x))])) ∧
      (((Bool.true = Bool.true ∧
      (ao4 = ro014 ∧
      (41 = 41 ∧
      (4 = 4 ∧
      (rCommandsN = (rcvN (rcvB rCount x) rCommandsN) ∧
      (cap5 = rc015 ∧
      ((∀ i16 : Nat,
      (i16 < rCommandsN →
      (Value.int IntKind.i64 (rCommandsg0 i16)) = (Value.int IntKind.i64 (rcv0 rCommandsN rCommandsg0 x i16)))) ∧
      ((∀ i17 : Nat,
      (i17 < rCommandsN →
      (Value.int IntKind.i64 (rCommandsg1 i17)) = (Value.int IntKind.i64 (rcv1 rCommandsN rCommandsg1 x i17)))) ∧
      ((∀ i18 : Nat,
      (i18 < rCommandsN →
      (Value.int IntKind.i64 (rCommandsg2 i18)) = (Value.int IntKind.i64 (rcv2 rCommandsN rCommandsg2 x i18)))) ∧
      ((∀ i19 : Nat,
      (i19 < rCommandsN →
      (Value.int IntKind.i64 (rCommandsg3 i19)) = (Value.int IntKind.i64 (rcv3 rCommandsN rCommandsg3 x i19)))) ∧
      True)))))))))) ∧
      True) ∧
      Bool.true = Bool.true)))))))))) ∧
     ((!(rdB (x % (32768 : Int)))) = Bool.false →
     (b6 = b6 ∧
      (b13 = b13 ∧
      (∀ b20 : Nat,
      ((ao4 = ao4 ∧
      (rCommandsN = rCommandsN ∧
      (cap5 = cap5 ∧
      (b20 = b20 ∧
      ((∀ i21 : Nat,
      Bool.true = Bool.true) ∧
      (apC rCommandsN 1 32)))))) ∧
      (∀ ao'22 : (Option Addr),
      (∀ cap'23 : Nat,
      (b6 = b6 ∧
      (b0 = b0 ∧
      ((rng (rCount + (1 : Int))) ∧
      (b6 = b6 ∧
      (b6 = b6 ∧
      (b1 = b1 ∧
      (b1 = b1 ∧
      (Exists (fun (ro024 : (Option Addr)) => (Exists (fun (rc025 : Nat) => ((Value.tuple (List.toArray [(Value.agg (List.toArray [(Value.int IntKind.i64 (rCount + (1 : Int))), (Value.slice ao'22 (rCommandsN + 1) cap'23)])), (Value.bool Bool.true)])) = (Value.tuple (List.toArray [(Value.agg (List.toArray [(Value.int IntKind.i64 (rcvZ (rcvB rCount x) rCount)), (Value.slice ro024 (rcvN (rcvB rCount x) rCommandsN) rc025)])), (Value.bool (rcvB rCount x))])) ∧
      (((Bool.true = Bool.true ∧
      (ao'22 = ro024 ∧
      (41 = 41 ∧
      (4 = 4 ∧
      ((rCommandsN + 1) = (rcvN (rcvB rCount x) rCommandsN) ∧
      (cap'23 = rc025 ∧
      ((∀ i26 : Nat,
      (i26 < (rCommandsN + 1) →
      (Value.int IntKind.i64 (if i26 < rCommandsN then (rCommandsg0 i26) else (rdK (x % (32768 : Int))))) = (Value.int IntKind.i64 (rcv0 rCommandsN rCommandsg0 x i26)))) ∧
      ((∀ i27 : Nat,
      (i27 < (rCommandsN + 1) →
      (Value.int IntKind.i64 (if i27 < rCommandsN then (rCommandsg1 i27) else (rdBk (x % (32768 : Int))))) = (Value.int IntKind.i64 (rcv1 rCommandsN rCommandsg1 x i27)))) ∧
      ((∀ i28 : Nat,
      (i28 < (rCommandsN + 1) →
      (Value.int IntKind.i64 (if i28 < rCommandsN then (rCommandsg2 i28) else (rdR (x % (32768 : Int))))) = (Value.int IntKind.i64 (rcv2 rCommandsN rCommandsg2 x i28)))) ∧
      ((∀ i29 : Nat,
      (i29 < (rCommandsN + 1) →
      (Value.int IntKind.i64 (if i29 < rCommandsN then (rCommandsg3 i29) else (rdCo (x % (32768 : Int))))) = (Value.int IntKind.i64 (rcv3 rCommandsN rCommandsg3 x i29)))) ∧
      True)))))))))) ∧
      True) ∧
      Bool.true = Bool.true))))))))))))))))))))))))))))))) ∧
   ((decide (rCount < (0 : Int))) = Bool.true →
   (b6 = b6 ∧
    (b1 = b1 ∧
    (b1 = b1 ∧
    (Exists (fun (ro030 : (Option Addr)) => (Exists (fun (rc031 : Nat) => ((Value.tuple (List.toArray [(Value.agg (List.toArray [(Value.int IntKind.i64 rCount), (Value.slice ao4 rCommandsN cap5)])), (Value.bool Bool.false)])) = (Value.tuple (List.toArray [(Value.agg (List.toArray [(Value.int IntKind.i64 (rcvZ (rcvB rCount x) rCount)), (Value.slice ro030 (rcvN (rcvB rCount x) rCommandsN) rc031)])), (Value.bool (rcvB rCount x))])) ∧
    (((Bool.true = Bool.true ∧
    (ao4 = ro030 ∧
    (41 = 41 ∧
    (4 = 4 ∧
    (rCommandsN = (rcvN (rcvB rCount x) rCommandsN) ∧
    (cap5 = rc031 ∧
    ((∀ i32 : Nat,
    (i32 < rCommandsN →
    (Value.int IntKind.i64 (rCommandsg0 i32)) = (Value.int IntKind.i64 (rcv0 rCommandsN rCommandsg0 x i32)))) ∧
    ((∀ i33 : Nat,
    (i33 < rCommandsN →
    (Value.int IntKind.i64 (rCommandsg1 i33)) = (Value.int IntKind.i64 (rcv1 rCommandsN rCommandsg1 x i33)))) ∧
    ((∀ i34 : Nat,
    (i34 < rCommandsN →
    (Value.int IntKind.i64 (rCommandsg2 i34)) = (Value.int IntKind.i64 (rcv2 rCommandsN rCommandsg2 x i34)))) ∧
    ((∀ i35 : Nat,
    (i35 < rCommandsN →
    (Value.int IntKind.i64 (rCommandsg3 i35)) = (Value.int IntKind.i64 (rcv3 rCommandsN rCommandsg3 x i35)))) ∧
    True)))))))))) ∧
    True) ∧
    Bool.true = Bool.true))))))))))))) ∧
  ((!(btw x (0 : Int) (2097151 : Int))) = Bool.true →
  (b6 = b6 ∧
   (b1 = b1 ∧
   (b1 = b1 ∧
   (Exists (fun (ro036 : (Option Addr)) => (Exists (fun (rc037 : Nat) => ((Value.tuple (List.toArray [(Value.agg (List.toArray [(Value.int IntKind.i64 rCount), (Value.slice ao4 rCommandsN cap5)])), (Value.bool Bool.false)])) = (Value.tuple (List.toArray [(Value.agg (List.toArray [(Value.int IntKind.i64 (rcvZ (rcvB rCount x) rCount)), (Value.slice ro036 (rcvN (rcvB rCount x) rCommandsN) rc037)])), (Value.bool (rcvB rCount x))])) ∧
   (((Bool.true = Bool.true ∧
   (ao4 = ro036 ∧
   (41 = 41 ∧
   (4 = 4 ∧
   (rCommandsN = (rcvN (rcvB rCount x) rCommandsN) ∧
   (cap5 = rc037 ∧
   ((∀ i38 : Nat,
   (i38 < rCommandsN →
   (Value.int IntKind.i64 (rCommandsg0 i38)) = (Value.int IntKind.i64 (rcv0 rCommandsN rCommandsg0 x i38)))) ∧
   ((∀ i39 : Nat,
   (i39 < rCommandsN →
   (Value.int IntKind.i64 (rCommandsg1 i39)) = (Value.int IntKind.i64 (rcv1 rCommandsN rCommandsg1 x i39)))) ∧
   ((∀ i40 : Nat,
   (i40 < rCommandsN →
   (Value.int IntKind.i64 (rCommandsg2 i40)) = (Value.int IntKind.i64 (rcv2 rCommandsN rCommandsg2 x i40)))) ∧
   ((∀ i41 : Nat,
   (i41 < rCommandsN →
   (Value.int IntKind.i64 (rCommandsg3 i41)) = (Value.int IntKind.i64 (rcv3 rCommandsN rCommandsg3 x i41)))) ∧
   True)))))))))) ∧
   True) ∧
   Bool.true = Bool.true))))))))))))))))))) ∧
  (∀ b42 : Nat,
  (True ∧
  ((b2 = b2 ∧
  ((rCommandsO = rCommandsO ∧
  rCommandsN = rCommandsN) ∧
  ((∀ i43 : Nat,
  Bool.true = Bool.true) ∧
  (apC 0 rCommandsN 32)))) ∧
  (∀ ao44 : (Option Addr),
  (∀ cap45 : Nat,
  (True ∧
  (b42 = b42 ∧
  (True ∧
  (((!(btw x (0 : Int) (2097151 : Int))) = Bool.false →
  (b0 = b0 ∧
   (((decide (rCount < (0 : Int))) = Bool.false →
   ((divC x (32768 : Int)) ∧
    (b0 = b0 ∧
    ((divC rCount (64 : Int)) ∧
    ((((x / (32768 : Int)) != (rCount % (64 : Int))) = Bool.true →
    (b42 = b42 ∧
     (b1 = b1 ∧
     (b1 = b1 ∧
     (Exists (fun (ro046 : (Option Addr)) => (Exists (fun (rc047 : Nat) => ((Value.tuple (List.toArray [(Value.agg (List.toArray [(Value.int IntKind.i64 rCount), (Value.slice ao44 rCommandsN cap45)])), (Value.bool Bool.false)])) = (Value.tuple (List.toArray [(Value.agg (List.toArray [(Value.int IntKind.i64 (rcvZ (rcvB rCount x) rCount)), (Value.slice ro046 (rcvN (rcvB rCount x) rCommandsN) rc047)])), (Value.bool (rcvB rCount x))])) ∧
     (((Bool.true = Bool.true ∧
     (ao44 = ro046 ∧
     (41 = 41 ∧
     (4 = 4 ∧
     (rCommandsN = (rcvN (rcvB rCount x) rCommandsN) ∧
     (cap45 = rc047 ∧
     ((∀ i48 : Nat,
     (i48 < rCommandsN →
     (Value.int IntKind.i64 (rCommandsg0 i48)) = (Value.int IntKind.i64 (rcv0 rCommandsN rCommandsg0 x i48)))) ∧
     ((∀ i49 : Nat,
     (i49 < rCommandsN →
     (Value.int IntKind.i64 (rCommandsg1 i49)) = (Value.int IntKind.i64 (rcv1 rCommandsN rCommandsg1 x i49)))) ∧
     ((∀ i50 : Nat,
     (i50 < rCommandsN →
     (Value.int IntKind.i64 (rCommandsg2 i50)) = (Value.int IntKind.i64 (rcv2 rCommandsN rCommandsg2 x i50)))) ∧
     ((∀ i51 : Nat,
     (i51 < rCommandsN →
     (Value.int IntKind.i64 (rCommandsg3 i51)) = (Value.int IntKind.i64 (rcv3 rCommandsN rCommandsg3 x i51)))) ∧
     True)))))))))) ∧
     True) ∧
     Bool.true = Bool.true)))))))))) ∧
    (((x / (32768 : Int)) != (rCount % (64 : Int))) = Bool.false →
    ((divC x (32768 : Int)) ∧
     ((rdC (x % (32768 : Int))) ∧
     (∀ b52 : Nat,
     (b52 = b52 ∧
     (((!(rdB (x % (32768 : Int)))) = Bool.true →
     (b42 = b42 ∧
      (b1 = b1 ∧
      (b1 = b1 ∧
      (Exists (fun (ro053 : (Option Addr)) => (Exists (fun (rc054 : Nat) => ((Value.tuple (List.toArray [(Value.agg (List.toArray [(Value.int IntKind.i64 rCount), (Value.slice ao44 rCommandsN cap45)])), (Value.bool Bool.false)])) = (Value.tuple (List.toArray [(Value.agg (List.toArray [(Value.int IntKind.i64 (rcvZ (rcvB rCount x) rCount)), (Value.slice ro053 (rcvN (rcvB rCount x) rCommandsN) rc054)])), (Value.bool (rcvB rCount x))])) ∧
      (((Bool.true = Bool.true ∧
      (ao44 = ro053 ∧
      (41 = 41 ∧
      (4 = 4 ∧
      (rCommandsN = (rcvN (rcvB rCount x) rCommandsN) ∧
      (cap45 = rc054 ∧
      ((∀ i55 : Nat,
      (i55 < rCommandsN →
      (Value.int IntKind.i64 (rCommandsg0 i55)) = (Value.int IntKind.i64 (rcv0 rCommandsN rCommandsg0 x i55)))) ∧
      ((∀ i56 : Nat,
      (i56 < rCommandsN →
      (Value.int IntKind.i64 (rCommandsg1 i56)) = (Value.int IntKind.i64 (rcv1 rCommandsN rCommandsg1 x i56)))) ∧
      ((∀ i57 : Nat,
      (i57 < rCommandsN →
      (Value.int IntKind.i64 (rCommandsg2 i57)) = (Value.int IntKind.i64 (rcv2 rCommandsN rCommandsg2 x i57)))) ∧
      ((∀ i58 : Nat,
      (i58 < rCommandsN →
      (Value.int IntKind.i64 (rCommandsg3 i58)) = (Value.int IntKind.i64 (rcv3 rCommandsN rCommandsg3 x i58)))) ∧
      True)))))))))) ∧
      True) ∧
      Bool.true = Bool.true)))))))))) ∧
     ((!(rdB (x % (32768 : Int)))) = Bool.false →
     (b42 = b42 ∧
      (b52 = b52 ∧
      (∀ b59 : Nat,
      ((ao44 = ao44 ∧
      (rCommandsN = rCommandsN ∧
      (cap45 = cap45 ∧
      (b59 = b59 ∧
      ((∀ i60 : Nat,
      Bool.true = Bool.true) ∧
      (apC rCommandsN 1 32)))))) ∧
      (∀ ao'61 : (Option Addr),
      (∀ cap'62 : Nat,
      (b42 = b42 ∧
      (b0 = b0 ∧
      ((rng (rCount + (1 : Int))) ∧
      (b42 = b42 ∧
      (b42 = b42 ∧
      (b1 = b1 ∧
      (b1 = b1 ∧
      (Exists (fun (ro063 : (Option Addr)) => (Exists (fun (rc064 : Nat) => ((Value.tuple (List.toArray [(Value.agg (List.toArray [(Value.int IntKind.i64 (rCount + (1 : Int))), (Value.slice ao'61 (rCommandsN + 1) cap'62)])), (Value.bool Bool.true)])) = (Value.tuple (List.toArray [(Value.agg (List.toArray [(Value.int IntKind.i64 (rcvZ (rcvB rCount x) rCount)), (Value.slice ro063 (rcvN (rcvB rCount x) rCommandsN) rc064)])), (Value.bool (rcvB rCount x))])) ∧
      (((Bool.true = Bool.true ∧
      (ao'61 = ro063 ∧
      (41 = 41 ∧
      (4 = 4 ∧
      ((rCommandsN + 1) = (rcvN (rcvB rCount x) rCommandsN) ∧
      (cap'62 = rc064 ∧
      ((∀ i65 : Nat,
      (i65 < (rCommandsN + 1) →
      (Value.int IntKind.i64 (if i65 < rCommandsN then (rCommandsg0 i65) else (rdK (x % (32768 : Int))))) = (Value.int IntKind.i64 (rcv0 rCommandsN rCommandsg0 x i65)))) ∧
      ((∀ i66 : Nat,
      (i66 < (rCommandsN + 1) →
      (Value.int IntKind.i64 (if i66 < rCommandsN then (rCommandsg1 i66) else (rdBk (x % (32768 : Int))))) = (Value.int IntKind.i64 (rcv1 rCommandsN rCommandsg1 x i66)))) ∧
      ((∀ i67 : Nat,
      (i67 < (rCommandsN + 1) →
      (Value.int IntKind.i64 (if i67 < rCommandsN then (rCommandsg2 i67) else (rdR (x % (32768 : Int))))) = (Value.int IntKind.i64 (rcv2 rCommandsN rCommandsg2 x i67)))) ∧
      ((∀ i68 : Nat,
      (i68 < (rCommandsN + 1) →
      (Value.int IntKind.i64 (if i68 < rCommandsN then (rCommandsg3 i68) else (rdCo (x % (32768 : Int))))) = (Value.int IntKind.i64 (rcv3 rCommandsN rCommandsg3 x i68)))) ∧
      True)))))))))) ∧
      True) ∧
      Bool.true = Bool.true))))))))))))))))))))))))))))))) ∧
   ((decide (rCount < (0 : Int))) = Bool.true →
   (b42 = b42 ∧
    (b1 = b1 ∧
    (b1 = b1 ∧
    (Exists (fun (ro069 : (Option Addr)) => (Exists (fun (rc070 : Nat) => ((Value.tuple (List.toArray [(Value.agg (List.toArray [(Value.int IntKind.i64 rCount), (Value.slice ao44 rCommandsN cap45)])), (Value.bool Bool.false)])) = (Value.tuple (List.toArray [(Value.agg (List.toArray [(Value.int IntKind.i64 (rcvZ (rcvB rCount x) rCount)), (Value.slice ro069 (rcvN (rcvB rCount x) rCommandsN) rc070)])), (Value.bool (rcvB rCount x))])) ∧
    (((Bool.true = Bool.true ∧
    (ao44 = ro069 ∧
    (41 = 41 ∧
    (4 = 4 ∧
    (rCommandsN = (rcvN (rcvB rCount x) rCommandsN) ∧
    (cap45 = rc070 ∧
    ((∀ i71 : Nat,
    (i71 < rCommandsN →
    (Value.int IntKind.i64 (rCommandsg0 i71)) = (Value.int IntKind.i64 (rcv0 rCommandsN rCommandsg0 x i71)))) ∧
    ((∀ i72 : Nat,
    (i72 < rCommandsN →
    (Value.int IntKind.i64 (rCommandsg1 i72)) = (Value.int IntKind.i64 (rcv1 rCommandsN rCommandsg1 x i72)))) ∧
    ((∀ i73 : Nat,
    (i73 < rCommandsN →
    (Value.int IntKind.i64 (rCommandsg2 i73)) = (Value.int IntKind.i64 (rcv2 rCommandsN rCommandsg2 x i73)))) ∧
    ((∀ i74 : Nat,
    (i74 < rCommandsN →
    (Value.int IntKind.i64 (rCommandsg3 i74)) = (Value.int IntKind.i64 (rcv3 rCommandsN rCommandsg3 x i74)))) ∧
    True)))))))))) ∧
    True) ∧
    Bool.true = Bool.true))))))))))))) ∧
  ((!(btw x (0 : Int) (2097151 : Int))) = Bool.true →
  (b42 = b42 ∧
   (b1 = b1 ∧
   (b1 = b1 ∧
   (Exists (fun (ro075 : (Option Addr)) => (Exists (fun (rc076 : Nat) => ((Value.tuple (List.toArray [(Value.agg (List.toArray [(Value.int IntKind.i64 rCount), (Value.slice ao44 rCommandsN cap45)])), (Value.bool Bool.false)])) = (Value.tuple (List.toArray [(Value.agg (List.toArray [(Value.int IntKind.i64 (rcvZ (rcvB rCount x) rCount)), (Value.slice ro075 (rcvN (rcvB rCount x) rCommandsN) rc076)])), (Value.bool (rcvB rCount x))])) ∧
   (((Bool.true = Bool.true ∧
   (ao44 = ro075 ∧
   (41 = 41 ∧
   (4 = 4 ∧
   (rCommandsN = (rcvN (rcvB rCount x) rCommandsN) ∧
   (cap45 = rc076 ∧
   ((∀ i77 : Nat,
   (i77 < rCommandsN →
   (Value.int IntKind.i64 (rCommandsg0 i77)) = (Value.int IntKind.i64 (rcv0 rCommandsN rCommandsg0 x i77)))) ∧
   ((∀ i78 : Nat,
   (i78 < rCommandsN →
   (Value.int IntKind.i64 (rCommandsg1 i78)) = (Value.int IntKind.i64 (rcv1 rCommandsN rCommandsg1 x i78)))) ∧
   ((∀ i79 : Nat,
   (i79 < rCommandsN →
   (Value.int IntKind.i64 (rCommandsg2 i79)) = (Value.int IntKind.i64 (rcv2 rCommandsN rCommandsg2 x i79)))) ∧
   ((∀ i80 : Nat,
   (i80 < rCommandsN →
   (Value.int IntKind.i64 (rCommandsg3 i80)) = (Value.int IntKind.i64 (rcv3 rCommandsN rCommandsg3 x i80)))) ∧
   True)))))))))) ∧
   True) ∧
   Bool.true = Bool.true)))))))))))))))))))))) ∧
  (∀ b81 : Nat,
  (True ∧
  (∀ b82 : Nat,
  (True ∧
  ((b82 = b82 ∧
  ((rCommandsO = rCommandsO ∧
  rCommandsN = rCommandsN) ∧
  ((∀ i83 : Nat,
  Bool.true = Bool.true) ∧
  (apC 0 rCommandsN 32)))) ∧
  (∀ ao84 : (Option Addr),
  (∀ cap85 : Nat,
  (True ∧
  (b81 = b81 ∧
  (True ∧
  (((!(btw x (0 : Int) (2097151 : Int))) = Bool.false →
  (b0 = b0 ∧
   (((decide (rCount < (0 : Int))) = Bool.false →
   ((divC x (32768 : Int)) ∧
    (b0 = b0 ∧
    ((divC rCount (64 : Int)) ∧
    ((((x / (32768 : Int)) != (rCount % (64 : Int))) = Bool.true →
    (b81 = b81 ∧
     (b1 = b1 ∧
     (b1 = b1 ∧
     (Exists (fun (ro086 : (Option Addr)) => (Exists (fun (rc087 : Nat) => ((Value.tuple (List.toArray [(Value.agg (List.toArray [(Value.int IntKind.i64 rCount), (Value.slice ao84 rCommandsN cap85)])), (Value.bool Bool.false)])) = (Value.tuple (List.toArray [(Value.agg (List.toArray [(Value.int IntKind.i64 (rcvZ (rcvB rCount x) rCount)), (Value.slice ro086 (rcvN (rcvB rCount x) rCommandsN) rc087)])), (Value.bool (rcvB rCount x))])) ∧
     (((Bool.true = Bool.true ∧
     (ao84 = ro086 ∧
     (41 = 41 ∧
     (4 = 4 ∧
     (rCommandsN = (rcvN (rcvB rCount x) rCommandsN) ∧
     (cap85 = rc087 ∧
     ((∀ i88 : Nat,
     (i88 < rCommandsN →
     (Value.int IntKind.i64 (rCommandsg0 i88)) = (Value.int IntKind.i64 (rcv0 rCommandsN rCommandsg0 x i88)))) ∧
     ((∀ i89 : Nat,
     (i89 < rCommandsN →
     (Value.int IntKind.i64 (rCommandsg1 i89)) = (Value.int IntKind.i64 (rcv1 rCommandsN rCommandsg1 x i89)))) ∧
     ((∀ i90 : Nat,
     (i90 < rCommandsN →
     (Value.int IntKind.i64 (rCommandsg2 i90)) = (Value.int IntKind.i64 (rcv2 rCommandsN rCommandsg2 x i90)))) ∧
     ((∀ i91 : Nat,
     (i91 < rCommandsN →
     (Value.int IntKind.i64 (rCommandsg3 i91)) = (Value.int IntKind.i64 (rcv3 rCommandsN rCommandsg3 x i91)))) ∧
     True)))))))))) ∧
     True) ∧
     Bool.true = Bool.true)))))))))) ∧
    (((x / (32768 : Int)) != (rCount % (64 : Int))) = Bool.false →
    ((divC x (32768 : Int)) ∧
     ((rdC (x % (32768 : Int))) ∧
     (∀ b92 : Nat,
     (b92 = b92 ∧
     (((!(rdB (x % (32768 : Int)))) = Bool.true →
     (b81 = b81 ∧
      (b1 = b1 ∧
      (b1 = b1 ∧
      (Exists (fun (ro093 : (Option Addr)) => (Exists (fun (rc094 : Nat) => ((Value.tuple (List.toArray [(Value.agg (List.toArray [(Value.int IntKind.i64 rCount), (Value.slice ao84 rCommandsN cap85)])), (Value.bool Bool.false)])) = (Value.tuple (List.toArray [(Value.agg (List.toArray [(Value.int IntKind.i64 (rcvZ (rcvB rCount x) rCount)), (Value.slice ro093 (rcvN (rcvB rCount x) rCommandsN) rc094)])), (Value.bool (rcvB rCount x))])) ∧
      (((Bool.true = Bool.true ∧
      (ao84 = ro093 ∧
      (41 = 41 ∧
      (4 = 4 ∧
      (rCommandsN = (rcvN (rcvB rCount x) rCommandsN) ∧
      (cap85 = rc094 ∧
      ((∀ i95 : Nat,
      (i95 < rCommandsN →
      (Value.int IntKind.i64 (rCommandsg0 i95)) = (Value.int IntKind.i64 (rcv0 rCommandsN rCommandsg0 x i95)))) ∧
      ((∀ i96 : Nat,
      (i96 < rCommandsN →
      (Value.int IntKind.i64 (rCommandsg1 i96)) = (Value.int IntKind.i64 (rcv1 rCommandsN rCommandsg1 x i96)))) ∧
      ((∀ i97 : Nat,
      (i97 < rCommandsN →
      (Value.int IntKind.i64 (rCommandsg2 i97)) = (Value.int IntKind.i64 (rcv2 rCommandsN rCommandsg2 x i97)))) ∧
      ((∀ i98 : Nat,
      (i98 < rCommandsN →
      (Value.int IntKind.i64 (rCommandsg3 i98)) = (Value.int IntKind.i64 (rcv3 rCommandsN rCommandsg3 x i98)))) ∧
      True)))))))))) ∧
      True) ∧
      Bool.true = Bool.true)))))))))) ∧
     ((!(rdB (x % (32768 : Int)))) = Bool.false →
     (b81 = b81 ∧
      (b92 = b92 ∧
      (∀ b99 : Nat,
      ((ao84 = ao84 ∧
      (rCommandsN = rCommandsN ∧
      (cap85 = cap85 ∧
      (b99 = b99 ∧
      ((∀ i100 : Nat,
      Bool.true = Bool.true) ∧
      (apC rCommandsN 1 32)))))) ∧
      (∀ ao'101 : (Option Addr),
      (∀ cap'102 : Nat,
      (b81 = b81 ∧
      (b0 = b0 ∧
      ((rng (rCount + (1 : Int))) ∧
      (b81 = b81 ∧
      (b81 = b81 ∧
      (b1 = b1 ∧
      (b1 = b1 ∧
      (Exists (fun (ro0103 : (Option Addr)) => (Exists (fun (rc0104 : Nat) => ((Value.tuple (List.toArray [(Value.agg (List.toArray [(Value.int IntKind.i64 (rCount + (1 : Int))), (Value.slice ao'101 (rCommandsN + 1) cap'102)])), (Value.bool Bool.true)])) = (Value.tuple (List.toArray [(Value.agg (List.toArray [(Value.int IntKind.i64 (rcvZ (rcvB rCount x) rCount)), (Value.slice ro0103 (rcvN (rcvB rCount x) rCommandsN) rc0104)])), (Value.bool (rcvB rCount x))])) ∧
      (((Bool.true = Bool.true ∧
      (ao'101 = ro0103 ∧
      (41 = 41 ∧
      (4 = 4 ∧
      ((rCommandsN + 1) = (rcvN (rcvB rCount x) rCommandsN) ∧
      (cap'102 = rc0104 ∧
      ((∀ i105 : Nat,
      (i105 < (rCommandsN + 1) →
      (Value.int IntKind.i64 (if i105 < rCommandsN then (rCommandsg0 i105) else (rdK (x % (32768 : Int))))) = (Value.int IntKind.i64 (rcv0 rCommandsN rCommandsg0 x i105)))) ∧
      ((∀ i106 : Nat,
      (i106 < (rCommandsN + 1) →
      (Value.int IntKind.i64 (if i106 < rCommandsN then (rCommandsg1 i106) else (rdBk (x % (32768 : Int))))) = (Value.int IntKind.i64 (rcv1 rCommandsN rCommandsg1 x i106)))) ∧
      ((∀ i107 : Nat,
      (i107 < (rCommandsN + 1) →
      (Value.int IntKind.i64 (if i107 < rCommandsN then (rCommandsg2 i107) else (rdR (x % (32768 : Int))))) = (Value.int IntKind.i64 (rcv2 rCommandsN rCommandsg2 x i107)))) ∧
      ((∀ i108 : Nat,
      (i108 < (rCommandsN + 1) →
      (Value.int IntKind.i64 (if i108 < rCommandsN then (rCommandsg3 i108) else (rdCo (x % (32768 : Int))))) = (Value.int IntKind.i64 (rcv3 rCommandsN rCommandsg3 x i108)))) ∧
      True)))))))))) ∧
      True) ∧
      Bool.true = Bool.true))))))))))))))))))))))))))))))) ∧
   ((decide (rCount < (0 : Int))) = Bool.true →
   (b81 = b81 ∧
    (b1 = b1 ∧
    (b1 = b1 ∧
    (Exists (fun (ro0109 : (Option Addr)) => (Exists (fun (rc0110 : Nat) => ((Value.tuple (List.toArray [(Value.agg (List.toArray [(Value.int IntKind.i64 rCount), (Value.slice ao84 rCommandsN cap85)])), (Value.bool Bool.false)])) = (Value.tuple (List.toArray [(Value.agg (List.toArray [(Value.int IntKind.i64 (rcvZ (rcvB rCount x) rCount)), (Value.slice ro0109 (rcvN (rcvB rCount x) rCommandsN) rc0110)])), (Value.bool (rcvB rCount x))])) ∧
    (((Bool.true = Bool.true ∧
    (ao84 = ro0109 ∧
    (41 = 41 ∧
    (4 = 4 ∧
    (rCommandsN = (rcvN (rcvB rCount x) rCommandsN) ∧
    (cap85 = rc0110 ∧
    ((∀ i111 : Nat,
    (i111 < rCommandsN →
    (Value.int IntKind.i64 (rCommandsg0 i111)) = (Value.int IntKind.i64 (rcv0 rCommandsN rCommandsg0 x i111)))) ∧
    ((∀ i112 : Nat,
    (i112 < rCommandsN →
    (Value.int IntKind.i64 (rCommandsg1 i112)) = (Value.int IntKind.i64 (rcv1 rCommandsN rCommandsg1 x i112)))) ∧
    ((∀ i113 : Nat,
    (i113 < rCommandsN →
    (Value.int IntKind.i64 (rCommandsg2 i113)) = (Value.int IntKind.i64 (rcv2 rCommandsN rCommandsg2 x i113)))) ∧
    ((∀ i114 : Nat,
    (i114 < rCommandsN →
    (Value.int IntKind.i64 (rCommandsg3 i114)) = (Value.int IntKind.i64 (rcv3 rCommandsN rCommandsg3 x i114)))) ∧
    True)))))))))) ∧
    True) ∧
    Bool.true = Bool.true))))))))))))) ∧
  ((!(btw x (0 : Int) (2097151 : Int))) = Bool.true →
  (b81 = b81 ∧
   (b1 = b1 ∧
   (b1 = b1 ∧
   (Exists (fun (ro0115 : (Option Addr)) => (Exists (fun (rc0116 : Nat) => ((Value.tuple (List.toArray [(Value.agg (List.toArray [(Value.int IntKind.i64 rCount), (Value.slice ao84 rCommandsN cap85)])), (Value.bool Bool.false)])) = (Value.tuple (List.toArray [(Value.agg (List.toArray [(Value.int IntKind.i64 (rcvZ (rcvB rCount x) rCount)), (Value.slice ro0115 (rcvN (rcvB rCount x) rCommandsN) rc0116)])), (Value.bool (rcvB rCount x))])) ∧
   (((Bool.true = Bool.true ∧
   (ao84 = ro0115 ∧
   (41 = 41 ∧
   (4 = 4 ∧
   (rCommandsN = (rcvN (rcvB rCount x) rCommandsN) ∧
   (cap85 = rc0116 ∧
   ((∀ i117 : Nat,
   (i117 < rCommandsN →
   (Value.int IntKind.i64 (rCommandsg0 i117)) = (Value.int IntKind.i64 (rcv0 rCommandsN rCommandsg0 x i117)))) ∧
   ((∀ i118 : Nat,
   (i118 < rCommandsN →
   (Value.int IntKind.i64 (rCommandsg1 i118)) = (Value.int IntKind.i64 (rcv1 rCommandsN rCommandsg1 x i118)))) ∧
   ((∀ i119 : Nat,
   (i119 < rCommandsN →
   (Value.int IntKind.i64 (rCommandsg2 i119)) = (Value.int IntKind.i64 (rcv2 rCommandsN rCommandsg2 x i119)))) ∧
   ((∀ i120 : Nat,
   (i120 < rCommandsN →
   (Value.int IntKind.i64 (rCommandsg3 i120)) = (Value.int IntKind.i64 (rcv3 rCommandsN rCommandsg3 x i120)))) ∧
   True)))))))))) ∧
   True) ∧
   Bool.true = Bool.true))))))))))))))))))))))))))) := by kernel_rfl
theorem recvSL_any (rCount : Int) (rCommandsO : Option Addr) (rCommandsN rCommandsC : Nat) (rCommandsg0 rCommandsg1 rCommandsg2 rCommandsg3 : Nat → Int) (x : Int) (w : World) (hrrCommands : Row.sat w ⟨false, rCommandsO, 0, 4, rCommandsN, 0, [fun i => .int (rCommandsg0 i), fun i => .int (rCommandsg1 i), fun i => .int (rCommandsg2 i), fun i => .int (rCommandsg3 i)]⟩) (hpre : capC rCommandsN ∧ rngC x ∧ rng1C rCount) : Calls Try.prog 35 #[.agg #[.int .i64 rCount, .slice rCommandsO rCommandsN rCommandsC], .int .i64 x] w fun e w' => ∃ (ro0 : Option Addr) (rc0 : Nat), e = .returned (.tuple #[.agg #[.int .i64 (rcvZ (rcvB rCount x) rCount), .slice ro0 (rcvN (rcvB rCount x) rCommandsN) rc0], .bool (rcvB rCount x)]) ∧ HS ⟨w, fun _ => False⟩ [.row ⟨true, ro0, 41, 4, rcvN (rcvB rCount x) rCommandsN, rc0, [fun i => .int (rcv0 rCommandsN rCommandsg0 x i), fun i => .int (rcv1 rCommandsN rCommandsg1 x i), fun i => .int (rcv2 rCommandsN rCommandsg2 x i), fun i => .int (rcv3 rCommandsN rCommandsg3 x i)]⟩] w' := by
  refine fnB (tb := [(48, sBtw), (62, sRead)]) ⟨sBtwS_ok, sRead_ok_readS, trivial⟩ Try.func35 (@Eq.mpr _ _ (recvSL_T rCount rCommandsO rCommandsN rCommandsC rCommandsg0 rCommandsg1 rCommandsg2 rCommandsg3 x) ?_) (HS.rows (fun _ => False) [⟨false, rCommandsO, 0, 4, rCommandsN, 0, [fun i => .int (rCommandsg0 i), fun i => .int (rCommandsg1 i), fun i => .int (rCommandsg2 i), fun i => .int (rCommandsg3 i)]⟩] (by simp; exact hrrCommands)) (fun v ch' w' ⟨ro0, rc0, hk⟩ hs => ⟨ro0, rc0, by rw [hk.1], hk.hs hs⟩)
  clear hrrCommands
  have hx1 := hpre.1
  have hx2 := hpre.2.1
  have hx3 := hpre.2.2
  have hw : wrapI (rCount + 1) = rCount + 1 := wrap_rng (show rng (rCount + 1) from ⟨by omega, by omega⟩)
  cases hb : btw x 0 2097151
  · skip
    have hok : rcvB rCount x = false := by simp [rcvB, hb]
    repeat' (first
      | with_reducible exact rfl
      | exact True.intro
      | with_reducible assumption
      | refine And.intro ?_ ?_
      | apply Exists.intro
      | (intro h; exfalso; simp [hb, bne] at h; done)
      | (intro h; exfalso; simp [hb, bne] at h; omega)
      | intro _
      | omega
      | (simp; omega))
    all_goals (first | (simp_all [rcvZ, rcvN, rcv0, rcv1, rcv2, rcv3, incW]; done) | (simp_all [rcvZ, rcvN, rcv0, rcv1, rcv2, rcv3, incW]; omega) | (rename_i i hi; by_cases hin : i < rCommandsN <;> simp_all [rcvZ, rcvN, rcv0, rcv1, rcv2, rcv3, incW] <;> omega))
  · have hx := btw_facts' hb
    cases hc : decide (rCount < 0)
    · have hc' : 0 ≤ rCount := by have := of_decide_eq_false hc; omega
      cases he : (x / 32768 == rCount % 64)
      · skip
        have hok : rcvB rCount x = false := by simp [rcvB, hb, hc, he]
        repeat' (first
          | with_reducible exact rfl
          | exact True.intro
          | with_reducible assumption
          | refine And.intro ?_ ?_
          | apply Exists.intro
          | (intro h; exfalso; simp [hb, hc, he, bne] at h; done)
          | (intro h; exfalso; simp [hb, hc, he, bne] at h; omega)
          | intro _
          | omega
          | (simp; omega))
        all_goals (first | (simp_all [rcvZ, rcvN, rcv0, rcv1, rcv2, rcv3, incW]; done) | (simp_all [rcvZ, rcvN, rcv0, rcv1, rcv2, rcv3, incW]; omega) | (rename_i i hi; by_cases hin : i < rCommandsN <;> simp_all [rcvZ, rcvN, rcv0, rcv1, rcv2, rcv3, incW] <;> omega))
      · cases hr : rdB (x % 32768)
        · skip
          have hok : rcvB rCount x = false := by simp [rcvB, hb, hc, he, hr]
          repeat' (first
            | with_reducible exact rfl
            | exact True.intro
            | with_reducible assumption
            | refine And.intro ?_ ?_
            | apply Exists.intro
            | (intro h; exfalso; simp [hb, hc, he, hr, bne] at h; done)
            | (intro h; exfalso; simp [hb, hc, he, hr, bne] at h; omega)
            | intro _
            | omega
            | (simp; omega))
          all_goals (first | (simp_all [rcvZ, rcvN, rcv0, rcv1, rcv2, rcv3, incW]; done) | (simp_all [rcvZ, rcvN, rcv0, rcv1, rcv2, rcv3, incW]; omega) | (rename_i i hi; by_cases hin : i < rCommandsN <;> simp_all [rcvZ, rcvN, rcv0, rcv1, rcv2, rcv3, incW] <;> omega))
        · skip
          have hok : rcvB rCount x = true := by simp [rcvB, hb, hc, he, hr]
          repeat' (first
            | with_reducible exact rfl
            | exact True.intro
            | with_reducible assumption
            | refine And.intro ?_ ?_
            | apply Exists.intro
            | (intro h; exfalso; simp [hb, hc, he, hr, bne] at h; done)
            | (intro h; exfalso; simp [hb, hc, he, hr, bne] at h; omega)
            | intro _
            | omega
            | (simp; omega))
          all_goals (first | (simp_all [rcvZ, rcvN, rcv0, rcv1, rcv2, rcv3, incW]; done) | (simp_all [rcvZ, rcvN, rcv0, rcv1, rcv2, rcv3, incW]; omega) | (rename_i i hi; by_cases hin : i < rCommandsN <;> simp_all [rcvZ, rcvN, rcv0, rcv1, rcv2, rcv3, incW] <;> omega))
    · skip
      have hok : rcvB rCount x = false := by simp [rcvB, hb, hc]
      repeat' (first
        | with_reducible exact rfl
        | exact True.intro
        | with_reducible assumption
        | refine And.intro ?_ ?_
        | apply Exists.intro
        | (intro h; exfalso; simp [hb, hc, bne] at h; done)
        | (intro h; exfalso; simp [hb, hc, bne] at h; omega)
        | intro _
        | omega
        | (simp; omega))
      all_goals (first | (simp_all [rcvZ, rcvN, rcv0, rcv1, rcv2, rcv3, incW]; done) | (simp_all [rcvZ, rcvN, rcv0, rcv1, rcv2, rcv3, incW]; omega) | (rename_i i hi; by_cases hin : i < rCommandsN <;> simp_all [rcvZ, rcvN, rcv0, rcv1, rcv2, rcv3, incW] <;> omega))
theorem recvSM_T (rCount : Int) (rCommandsO : Option Addr) (rCommandsN rCommandsC : Nat) (rCommandsg0 rCommandsg1 rCommandsg2 rCommandsg3 : Nat → Int) (x : Int) : (exFn Try.prog {tb := [(48, sBtw), (62, sRead)]} 400 Try.f35 ([.a (.agg [.il 9223372036854775807, .sl 0 rCommandsO rCommandsN rCommandsC]), .a (.c (.int x))]) ([.row ⟨false, rCommandsO, 0, 4, rCommandsN, 0, [fun i => .int (rCommandsg0 i), fun i => .int (rCommandsg1 i), fun i => .int (rCommandsg2 i), fun i => .int (rCommandsg3 i)]⟩]) (fun v ch => ∃ (ro0 : Option Addr) (rc0 : Nat), OutR v ch (.tuple #[.agg #[.int .i64 (rcvZ (rcvB rCount x) rCount), .slice ro0 (rcvN (rcvB rCount x) rCommandsN) rc0], .bool (rcvB rCount x)]) [.row ⟨true, ro0, 41, 4, rcvN (rcvB rCount x) rCommandsN, rc0, [fun i => .int (rcv0 rCommandsN rCommandsg0 x i), fun i => .int (rcv1 rCommandsN rCommandsg1 x i), fun i => .int (rcv2 rCommandsN rCommandsg2 x i), fun i => .int (rcv3 rCommandsN rCommandsg3 x i)]⟩])) = (
  (∀ b0 : Nat,
  (∀ b1 : Nat,
  (b0 = b0 ∧
  (b0 = b0 ∧
  ((∀ b2 : Nat,
  (True ∧
  (((b2 = b2 ∧
  ((rCommandsO = rCommandsO ∧
  rCommandsN = rCommandsN) ∧
  ((∀ i3 : Nat,
  Bool.true = Bool.true) ∧
  (apC 0 rCommandsN 32)))) ∧
  (∀ ao4 : (Option Addr),
  (∀ cap5 : Nat,
  (True ∧
  (∀ b6 : Nat,
  (True ∧
  (b6 = b6 ∧
  (True ∧
  (((!(btw x (0 : Int) (2097151 : Int))) = Bool.false →
  (b0 = b0 ∧
   ((divC x (32768 : Int)) ∧
   (b0 = b0 ∧
   ((((x / (32768 : Int)) != (63 : Int)) = Bool.true →
   (b6 = b6 ∧
    (b1 = b1 ∧
    (b1 = b1 ∧
    (Exists (fun (ro07 : (Option Addr)) => (Exists (fun (rc08 : Nat) => ((Value.tuple (List.toArray [(Value.agg (List.toArray [(Value.int IntKind.i64 (9223372036854775807 : Int)), (Value.slice ao4 rCommandsN cap5)])), (Value.bool Bool.false)])) = (Value.tuple (List.toArray [(Value.agg (List.toArray [(Value.int IntKind.i64 (rcvZ (rcvB rCount x) rCount)), (Value.slice ro07 (rcvN (rcvB rCount x) rCommandsN) rc08)])), (Value.bool (rcvB rCount x))])) ∧
    (((Bool.true = Bool.true ∧
    (ao4 = ro07 ∧
    (41 = 41 ∧
    (4 = 4 ∧
    (rCommandsN = (rcvN (rcvB rCount x) rCommandsN) ∧
    (cap5 = rc08 ∧
    ((∀ i9 : Nat,
    (i9 < rCommandsN →
    (Value.int IntKind.i64 (rCommandsg0 i9)) = (Value.int IntKind.i64 (rcv0 rCommandsN rCommandsg0 x i9)))) ∧
    ((∀ i10 : Nat,
    (i10 < rCommandsN →
    (Value.int IntKind.i64 (rCommandsg1 i10)) = (Value.int IntKind.i64 (rcv1 rCommandsN rCommandsg1 x i10)))) ∧
    ((∀ i11 : Nat,
    (i11 < rCommandsN →
    (Value.int IntKind.i64 (rCommandsg2 i11)) = (Value.int IntKind.i64 (rcv2 rCommandsN rCommandsg2 x i11)))) ∧
    ((∀ i12 : Nat,
    (i12 < rCommandsN →
    (Value.int IntKind.i64 (rCommandsg3 i12)) = (Value.int IntKind.i64 (rcv3 rCommandsN rCommandsg3 x i12)))) ∧
    True)))))))))) ∧
    True) ∧
    Bool.true = Bool.true)))))))))) ∧
   (((x / (32768 : Int)) != (63 : Int)) = Bool.false →
   ((divC x (32768 : Int)) ∧
    ((rdC (x % (32768 : Int))) ∧
    (∀ b13 : Nat,
    (b13 = b13 ∧
    (((!(rdB (x % (32768 : Int)))) = Bool.true →
    (b6 = b6 ∧
     (b1 = b1 ∧
     (b1 = b1 ∧
     (Exists (fun (ro014 : (Option Addr)) => (Exists (fun (rc015 : Nat) => ((Value.tuple (List.toArray [(Value.agg (List.toArray [(Value.int IntKind.i64 (9223372036854775807 : Int)), (Value.slice ao4 rCommandsN cap5)])), (Value.bool Bool.false)])) = (Value.tuple (List.toArray [(Value.agg (List.toArray [(Value.int IntKind.i64 (rcvZ (rcvB rCount x) rCount)), (Value.slice ro014 (rcvN (rcvB rCount x) rCommandsN) rc015)])), (Value.bool (rcvB rCount x))])) ∧
     (((Bool.true = Bool.true ∧
     (ao4 = ro014 ∧
     (41 = 41 ∧
     (4 = 4 ∧
     (rCommandsN = (rcvN (rcvB rCount x) rCommandsN) ∧
     (cap5 = rc015 ∧
     ((∀ i16 : Nat,
     (i16 < rCommandsN →
     (Value.int IntKind.i64 (rCommandsg0 i16)) = (Value.int IntKind.i64 (rcv0 rCommandsN rCommandsg0 x i16)))) ∧
     ((∀ i17 : Nat,
     (i17 < rCommandsN →
     (Value.int IntKind.i64 (rCommandsg1 i17)) = (Value.int IntKind.i64 (rcv1 rCommandsN rCommandsg1 x i17)))) ∧
     ((∀ i18 : Nat,
     (i18 < rCommandsN →
     (Value.int IntKind.i64 (rCommandsg2 i18)) = (Value.int IntKind.i64 (rcv2 rCommandsN rCommandsg2 x i18)))) ∧
     ((∀ i19 : Nat,
     (i19 < rCommandsN →
     (Value.int IntKind.i64 (rCommandsg3 i19)) = (Value.int IntKind.i64 (rcv3 rCommandsN rCommandsg3 x i19)))) ∧
     True)))))))))) ∧
     True) ∧
     Bool.true = Bool.true)))))))))) ∧
    ((!(rdB (x % (32768 : Int)))) = Bool.false →
    (b6 = b6 ∧
     (b13 = b13 ∧
     (∀ b20 : Nat,
     ((ao4 = ao4 ∧
     (rCommandsN = rCommandsN ∧
     (cap5 = cap5 ∧
     (b20 = b20 ∧
     ((∀ i21 : Nat,
     Bool.true = Bool.true) ∧
     (apC rCommandsN 1 32)))))) ∧
     (∀ ao'22 : (Option Addr),
     (∀ cap'23 : Nat,
     (b6 = b6 ∧
     (b0 = b0 ∧
     (b6 = b6 ∧
     (b6 = b6 ∧
     (b1 = b1 ∧
     (b1 = b1 ∧
     (Exists (fun (ro024 : (Option Addr)) => (Exists (fun (rc025 : Nat) => ((Value.tuple (List.toArray [(Value.agg (List.toArray [(Value.int IntKind.i64 (wrapI (9223372036854775808 : Int))), (Value.slice ao'22 (rCommandsN + 1) cap'23)])), (Value.bool Bool.true)])) = (Value.tuple (List.toArray [(Value.agg (List.toArray [(Value.int IntKind.i64 (rcvZ (rcvB rCount x) rCount)), (Value.slice ro024 (rcvN (rcvB rCount x) rCommandsN) rc025)])), (Value.bool (rcvB rCount x))])) ∧
     (((Bool.true = Bool.true ∧
     (ao'22 = ro024 ∧
     (41 = 41 ∧
     (4 = 4 ∧
     ((rCommandsN + 1) = (rcvN (rcvB rCount x) rCommandsN) ∧
     (cap'23 = rc025 ∧
     ((∀ i26 : Nat,
     (i26 < (rCommandsN + 1) →
     (Value.int IntKind.i64 (if i26 < rCommandsN then (rCommandsg0 i26) else (rdK (x % (32768 : Int))))) = (Value.int IntKind.i64 (rcv0 rCommandsN rCommandsg0 x i26)))) ∧
     ((∀ i27 : Nat,
     (i27 < (rCommandsN + 1) →
     (Value.int IntKind.i64 (if i27 < rCommandsN then (rCommandsg1 i27) else (rdBk (x % (32768 : Int))))) = (Value.int IntKind.i64 (rcv1 rCommandsN rCommandsg1 x i27)))) ∧
     ((∀ i28 : Nat,
     (i28 < (rCommandsN + 1) →
     (Value.int IntKind.i64 (if i28 < rCommandsN then (rCommandsg2 i28) else (rdR (x % (32768 : Int))))) = (Value.int IntKind.i64 (rcv2 rCommandsN rCommandsg2 x i28)))) ∧
     ((∀ i29 : Nat,
     (i29 < (rCommandsN + 1) →
     (Value.int IntKind.i64 (if i29 < rCommandsN then (rCommandsg3 i29) else (rdCo (x % (32768 : Int))))) = (Value.int IntKind.i64 (rcv3 rCommandsN rCommandsg3 x i29)))) ∧
     True)))))))))) ∧
     True) ∧
     Bool.true = Bool.true)))))))))))))))))))))))))))))) ∧
  ((!(btw x (0 : Int) (2097151 : Int))) = Bool.true →
  (b6 = b6 ∧
   (b1 = b1 ∧
   (b1 = b1 ∧
   (Exists (fun (ro030 : (Option Addr)) => (Exists (fun (rc031 : Nat) => ((Value.tuple (List.toArray [(Value.agg (List.toArray [(Value.int IntKind.i64 (9223372036854775807 : Int)), (Value.slice ao4 rCommandsN cap5)])), (Value.bool Bool.false)])) = (Value.tuple (List.toArray [(Value.agg (List.toArray [(Value.int IntKind.i64 (rcvZ (rcvB rCount x) rCount)), (Value.slice ro030 (rcvN (rcvB rCount x) rCommandsN) rc031)])), (Value.bool (rcvB rCount x))])) ∧
   (((Bool.true = Bool.true ∧
   (ao4 = ro030 ∧
   (41 = 41 ∧
   (4 = 4 ∧
   (rCommandsN = (rcvN (rcvB rCount x) rCommandsN) ∧
   (cap5 = rc031 ∧
   ((∀ i32 : Nat,
   (i32 < rCommandsN →
   (Value.int IntKind.i64 (rCommandsg0 i32)) = (Value.int IntKind.i64 (rcv0 rCommandsN rCommandsg0 x i32)))) ∧
   ((∀ i33 : Nat,
   (i33 < rCommandsN →
   (Value.int IntKind.i64 (rCommandsg1 i33)) = (Value.int IntKind.i64 (rcv1 rCommandsN rCommandsg1 x i33)))) ∧
   ((∀ i34 : Nat,
   (i34 < rCommandsN →
   (Value.int IntKind.i64 (rCommandsg2 i34)) = (Value.int IntKind.i64 (rcv2 rCommandsN rCommandsg2 x i34)))) ∧
   ((∀ i35 : Nat,
   (i35 < rCommandsN →
   (Value.int IntKind.i64 (rCommandsg3 i35)) = (Value.int IntKind.i64 (rcv3 rCommandsN rCommandsg3 x i35)))) ∧
   True)))))))))) ∧
   True) ∧
   Bool.true = Bool.true))))))))))))))))))) ∧
  (∀ b36 : Nat,
  (True ∧
  ((b2 = b2 ∧
  ((rCommandsO = rCommandsO ∧
  rCommandsN = rCommandsN) ∧
  ((∀ i37 : Nat,
  Bool.true = Bool.true) ∧
  (apC 0 rCommandsN 32)))) ∧
  (∀ ao38 : (Option Addr),
  (∀ cap39 : Nat,
  (True ∧
  (b36 = b36 ∧
  (True ∧
  (((!(btw x (0 : Int) (2097151 : Int))) = Bool.false →
  (b0 = b0 ∧
   ((divC x (32768 : Int)) ∧
   (b0 = b0 ∧
   ((((x / (32768 : Int)) != (63 : Int)) = Bool.true →
   (b36 = b36 ∧
    (b1 = b1 ∧
    (b1 = b1 ∧
    (Exists (fun (ro040 : (Option Addr)) => (Exists (fun (rc041 : Nat) => ((Value.tuple (List.toArray [(Value.agg (List.toArray [(Value.int IntKind.i64 (9223372036854775807 : Int)), (Value.slice ao38 rCommandsN cap39)])), (Value.bool Bool.false)])) = (Value.tuple (List.toArray [(Value.agg (List.toArray [(Value.int IntKind.i64 (rcvZ (rcvB rCount x) rCount)), (Value.slice ro040 (rcvN (rcvB rCount x) rCommandsN) rc041)])), (Value.bool (rcvB rCount x))])) ∧
    (((Bool.true = Bool.true ∧
    (ao38 = ro040 ∧
    (41 = 41 ∧
    (4 = 4 ∧
    (rCommandsN = (rcvN (rcvB rCount x) rCommandsN) ∧
    (cap39 = rc041 ∧
    ((∀ i42 : Nat,
    (i42 < rCommandsN →
    (Value.int IntKind.i64 (rCommandsg0 i42)) = (Value.int IntKind.i64 (rcv0 rCommandsN rCommandsg0 x i42)))) ∧
    ((∀ i43 : Nat,
    (i43 < rCommandsN →
    (Value.int IntKind.i64 (rCommandsg1 i43)) = (Value.int IntKind.i64 (rcv1 rCommandsN rCommandsg1 x i43)))) ∧
    ((∀ i44 : Nat,
    (i44 < rCommandsN →
    (Value.int IntKind.i64 (rCommandsg2 i44)) = (Value.int IntKind.i64 (rcv2 rCommandsN rCommandsg2 x i44)))) ∧
    ((∀ i45 : Nat,
    (i45 < rCommandsN →
    (Value.int IntKind.i64 (rCommandsg3 i45)) = (Value.int IntKind.i64 (rcv3 rCommandsN rCommandsg3 x i45)))) ∧
    True)))))))))) ∧
    True) ∧
    Bool.true = Bool.true)))))))))) ∧
   (((x / (32768 : Int)) != (63 : Int)) = Bool.false →
   ((divC x (32768 : Int)) ∧
    ((rdC (x % (32768 : Int))) ∧
    (∀ b46 : Nat,
    (b46 = b46 ∧
    (((!(rdB (x % (32768 : Int)))) = Bool.true →
    (b36 = b36 ∧
     (b1 = b1 ∧
     (b1 = b1 ∧
     (Exists (fun (ro047 : (Option Addr)) => (Exists (fun (rc048 : Nat) => ((Value.tuple (List.toArray [(Value.agg (List.toArray [(Value.int IntKind.i64 (9223372036854775807 : Int)), (Value.slice ao38 rCommandsN cap39)])), (Value.bool Bool.false)])) = (Value.tuple (List.toArray [(Value.agg (List.toArray [(Value.int IntKind.i64 (rcvZ (rcvB rCount x) rCount)), (Value.slice ro047 (rcvN (rcvB rCount x) rCommandsN) rc048)])), (Value.bool (rcvB rCount x))])) ∧
     (((Bool.true = Bool.true ∧
     (ao38 = ro047 ∧
     (41 = 41 ∧
     (4 = 4 ∧
     (rCommandsN = (rcvN (rcvB rCount x) rCommandsN) ∧
     (cap39 = rc048 ∧
     ((∀ i49 : Nat,
     (i49 < rCommandsN →
     (Value.int IntKind.i64 (rCommandsg0 i49)) = (Value.int IntKind.i64 (rcv0 rCommandsN rCommandsg0 x i49)))) ∧
     ((∀ i50 : Nat,
     (i50 < rCommandsN →
     (Value.int IntKind.i64 (rCommandsg1 i50)) = (Value.int IntKind.i64 (rcv1 rCommandsN rCommandsg1 x i50)))) ∧
     ((∀ i51 : Nat,
     (i51 < rCommandsN →
     (Value.int IntKind.i64 (rCommandsg2 i51)) = (Value.int IntKind.i64 (rcv2 rCommandsN rCommandsg2 x i51)))) ∧
     ((∀ i52 : Nat,
     (i52 < rCommandsN →
     (Value.int IntKind.i64 (rCommandsg3 i52)) = (Value.int IntKind.i64 (rcv3 rCommandsN rCommandsg3 x i52)))) ∧
     True)))))))))) ∧
     True) ∧
     Bool.true = Bool.true)))))))))) ∧
    ((!(rdB (x % (32768 : Int)))) = Bool.false →
    (b36 = b36 ∧
     (b46 = b46 ∧
     (∀ b53 : Nat,
     ((ao38 = ao38 ∧
     (rCommandsN = rCommandsN ∧
     (cap39 = cap39 ∧
     (b53 = b53 ∧
     ((∀ i54 : Nat,
     Bool.true = Bool.true) ∧
     (apC rCommandsN 1 32)))))) ∧
     (∀ ao'55 : (Option Addr),
     (∀ cap'56 : Nat,
     (b36 = b36 ∧
     (b0 = b0 ∧
     (b36 = b36 ∧
     (b36 = b36 ∧
     (b1 = b1 ∧
     (b1 = b1 ∧
     (Exists (fun (ro057 : (Option Addr)) => (Exists (fun (rc058 : Nat) => ((Value.tuple (List.toArray [(Value.agg (List.toArray [(Value.int IntKind.i64 (wrapI (9223372036854775808 : Int))), (Value.slice ao'55 (rCommandsN + 1) cap'56)])), (Value.bool Bool.true)])) = (Value.tuple (List.toArray [(Value.agg (List.toArray [(Value.int IntKind.i64 (rcvZ (rcvB rCount x) rCount)), (Value.slice ro057 (rcvN (rcvB rCount x) rCommandsN) rc058)])), (Value.bool (rcvB rCount x))])) ∧
     (((Bool.true = Bool.true ∧
     (ao'55 = ro057 ∧
     (41 = 41 ∧
     (4 = 4 ∧
     ((rCommandsN + 1) = (rcvN (rcvB rCount x) rCommandsN) ∧
     (cap'56 = rc058 ∧
     ((∀ i59 : Nat,
     (i59 < (rCommandsN + 1) →
     (Value.int IntKind.i64 (if i59 < rCommandsN then (rCommandsg0 i59) else (rdK (x % (32768 : Int))))) = (Value.int IntKind.i64 (rcv0 rCommandsN rCommandsg0 x i59)))) ∧
     ((∀ i60 : Nat,
     (i60 < (rCommandsN + 1) →
     (Value.int IntKind.i64 (if i60 < rCommandsN then (rCommandsg1 i60) else (rdBk (x % (32768 : Int))))) = (Value.int IntKind.i64 (rcv1 rCommandsN rCommandsg1 x i60)))) ∧
     ((∀ i61 : Nat,
     (i61 < (rCommandsN + 1) →
     (Value.int IntKind.i64 (if i61 < rCommandsN then (rCommandsg2 i61) else (rdR (x % (32768 : Int))))) = (Value.int IntKind.i64 (rcv2 rCommandsN rCommandsg2 x i61)))) ∧
     ((∀ i62 : Nat,
     (i62 < (rCommandsN + 1) →
     (Value.int IntKind.i64 (if i62 < rCommandsN then (rCommandsg3 i62) else (rdCo (x % (32768 : Int))))) = (Value.int IntKind.i64 (rcv3 rCommandsN rCommandsg3 x i62)))) ∧
     True)))))))))) ∧
     True) ∧
     Bool.true = Bool.true)))))))))))))))))))))))))))))) ∧
  ((!(btw x (0 : Int) (2097151 : Int))) = Bool.true →
  (b36 = b36 ∧
   (b1 = b1 ∧
   (b1 = b1 ∧
   (Exists (fun (ro063 : (Option Addr)) => (Exists (fun (rc064 : Nat) => ((Value.tuple (List.toArray [(Value.agg (List.toArray [(Value.int IntKind.i64 (9223372036854775807 : Int)), (Value.slice ao38 rCommandsN cap39)])), (Value.bool Bool.false)])) = (Value.tuple (List.toArray [(Value.agg (List.toArray [(Value.int IntKind.i64 (rcvZ (rcvB rCount x) rCount)), (Value.slice ro063 (rcvN (rcvB rCount x) rCommandsN) rc064)])), (Value.bool (rcvB rCount x))])) ∧
   (((Bool.true = Bool.true ∧
   (ao38 = ro063 ∧
   (41 = 41 ∧
   (4 = 4 ∧
   (rCommandsN = (rcvN (rcvB rCount x) rCommandsN) ∧
   (cap39 = rc064 ∧
   ((∀ i65 : Nat,
   (i65 < rCommandsN →
   (Value.int IntKind.i64 (rCommandsg0 i65)) = (Value.int IntKind.i64 (rcv0 rCommandsN rCommandsg0 x i65)))) ∧
   ((∀ i66 : Nat,
   (i66 < rCommandsN →
   (Value.int IntKind.i64 (rCommandsg1 i66)) = (Value.int IntKind.i64 (rcv1 rCommandsN rCommandsg1 x i66)))) ∧
   ((∀ i67 : Nat,
   (i67 < rCommandsN →
   (Value.int IntKind.i64 (rCommandsg2 i67)) = (Value.int IntKind.i64 (rcv2 rCommandsN rCommandsg2 x i67)))) ∧
   ((∀ i68 : Nat,
   (i68 < rCommandsN →
   (Value.int IntKind.i64 (rCommandsg3 i68)) = (Value.int IntKind.i64 (rcv3 rCommandsN rCommandsg3 x i68)))) ∧
   True)))))))))) ∧
   True) ∧
   Bool.true = Bool.true)))))))))))))))))))))) ∧
  (∀ b69 : Nat,
  (True ∧
  (∀ b70 : Nat,
  (True ∧
  ((b70 = b70 ∧
  ((rCommandsO = rCommandsO ∧
  rCommandsN = rCommandsN) ∧
  ((∀ i71 : Nat,
  Bool.true = Bool.true) ∧
  (apC 0 rCommandsN 32)))) ∧
  (∀ ao72 : (Option Addr),
  (∀ cap73 : Nat,
  (True ∧
  (b69 = b69 ∧
  (True ∧
  (((!(btw x (0 : Int) (2097151 : Int))) = Bool.false →
  (b0 = b0 ∧
   ((divC x (32768 : Int)) ∧
   (b0 = b0 ∧
   ((((x / (32768 : Int)) != (63 : Int)) = Bool.true →
   (b69 = b69 ∧
    (b1 = b1 ∧
    (b1 = b1 ∧
    (Exists (fun (ro074 : (Option Addr)) => (Exists (fun (rc075 : Nat) => ((Value.tuple (List.toArray [(Value.agg (List.toArray [(Value.int IntKind.i64 (9223372036854775807 : Int)), (Value.slice ao72 rCommandsN cap73)])), (Value.bool Bool.false)])) = (Value.tuple (List.toArray [(Value.agg (List.toArray [(Value.int IntKind.i64 (rcvZ (rcvB rCount x) rCount)), (Value.slice ro074 (rcvN (rcvB rCount x) rCommandsN) rc075)])), (Value.bool (rcvB rCount x))])) ∧
    (((Bool.true = Bool.true ∧
    (ao72 = ro074 ∧
    (41 = 41 ∧
    (4 = 4 ∧
    (rCommandsN = (rcvN (rcvB rCount x) rCommandsN) ∧
    (cap73 = rc075 ∧
    ((∀ i76 : Nat,
    (i76 < rCommandsN →
    (Value.int IntKind.i64 (rCommandsg0 i76)) = (Value.int IntKind.i64 (rcv0 rCommandsN rCommandsg0 x i76)))) ∧
    ((∀ i77 : Nat,
    (i77 < rCommandsN →
    (Value.int IntKind.i64 (rCommandsg1 i77)) = (Value.int IntKind.i64 (rcv1 rCommandsN rCommandsg1 x i77)))) ∧
    ((∀ i78 : Nat,
    (i78 < rCommandsN →
    (Value.int IntKind.i64 (rCommandsg2 i78)) = (Value.int IntKind.i64 (rcv2 rCommandsN rCommandsg2 x i78)))) ∧
    ((∀ i79 : Nat,
    (i79 < rCommandsN →
    (Value.int IntKind.i64 (rCommandsg3 i79)) = (Value.int IntKind.i64 (rcv3 rCommandsN rCommandsg3 x i79)))) ∧
    True)))))))))) ∧
    True) ∧
    Bool.true = Bool.true)))))))))) ∧
   (((x / (32768 : Int)) != (63 : Int)) = Bool.false →
   ((divC x (32768 : Int)) ∧
    ((rdC (x % (32768 : Int))) ∧
    (∀ b80 : Nat,
    (b80 = b80 ∧
    (((!(rdB (x % (32768 : Int)))) = Bool.true →
    (b69 = b69 ∧
     (b1 = b1 ∧
     (b1 = b1 ∧
     (Exists (fun (ro081 : (Option Addr)) => (Exists (fun (rc082 : Nat) => ((Value.tuple (List.toArray [(Value.agg (List.toArray [(Value.int IntKind.i64 (9223372036854775807 : Int)), (Value.slice ao72 rCommandsN cap73)])), (Value.bool Bool.false)])) = (Value.tuple (List.toArray [(Value.agg (List.toArray [(Value.int IntKind.i64 (rcvZ (rcvB rCount x) rCount)), (Value.slice ro081 (rcvN (rcvB rCount x) rCommandsN) rc082)])), (Value.bool (rcvB rCount x))])) ∧
     (((Bool.true = Bool.true ∧
     (ao72 = ro081 ∧
     (41 = 41 ∧
     (4 = 4 ∧
     (rCommandsN = (rcvN (rcvB rCount x) rCommandsN) ∧
     (cap73 = rc082 ∧
     ((∀ i83 : Nat,
     (i83 < rCommandsN →
     (Value.int IntKind.i64 (rCommandsg0 i83)) = (Value.int IntKind.i64 (rcv0 rCommandsN rCommandsg0 x i83)))) ∧
     ((∀ i84 : Nat,
     (i84 < rCommandsN →
     (Value.int IntKind.i64 (rCommandsg1 i84)) = (Value.int IntKind.i64 (rcv1 rCommandsN rCommandsg1 x i84)))) ∧
     ((∀ i85 : Nat,
     (i85 < rCommandsN →
     (Value.int IntKind.i64 (rCommandsg2 i85)) = (Value.int IntKind.i64 (rcv2 rCommandsN rCommandsg2 x i85)))) ∧
     ((∀ i86 : Nat,
     (i86 < rCommandsN →
     (Value.int IntKind.i64 (rCommandsg3 i86)) = (Value.int IntKind.i64 (rcv3 rCommandsN rCommandsg3 x i86)))) ∧
     True)))))))))) ∧
     True) ∧
     Bool.true = Bool.true)))))))))) ∧
    ((!(rdB (x % (32768 : Int)))) = Bool.false →
    (b69 = b69 ∧
     (b80 = b80 ∧
     (∀ b87 : Nat,
     ((ao72 = ao72 ∧
     (rCommandsN = rCommandsN ∧
     (cap73 = cap73 ∧
     (b87 = b87 ∧
     ((∀ i88 : Nat,
     Bool.true = Bool.true) ∧
     (apC rCommandsN 1 32)))))) ∧
     (∀ ao'89 : (Option Addr),
     (∀ cap'90 : Nat,
     (b69 = b69 ∧
     (b0 = b0 ∧
     (b69 = b69 ∧
     (b69 = b69 ∧
     (b1 = b1 ∧
     (b1 = b1 ∧
     (Exists (fun (ro091 : (Option Addr)) => (Exists (fun (rc092 : Nat) => ((Value.tuple (List.toArray [(Value.agg (List.toArray [(Value.int IntKind.i64 (wrapI (9223372036854775808 : Int))), (Value.slice ao'89 (rCommandsN + 1) cap'90)])), (Value.bool Bool.true)])) = (Value.tuple (List.toArray [(Value.agg (List.toArray [(Value.int IntKind.i64 (rcvZ (rcvB rCount x) rCount)), (Value.slice ro091 (rcvN (rcvB rCount x) rCommandsN) rc092)])), (Value.bool (rcvB rCount x))])) ∧
     (((Bool.true = Bool.true ∧
     (ao'89 = ro091 ∧
     (41 = 41 ∧
     (4 = 4 ∧
     ((rCommandsN + 1) = (rcvN (rcvB rCount x) rCommandsN) ∧
     (cap'90 = rc092 ∧
     ((∀ i93 : Nat,
     (i93 < (rCommandsN + 1) →
     (Value.int IntKind.i64 (if i93 < rCommandsN then (rCommandsg0 i93) else (rdK (x % (32768 : Int))))) = (Value.int IntKind.i64 (rcv0 rCommandsN rCommandsg0 x i93)))) ∧
     ((∀ i94 : Nat,
     (i94 < (rCommandsN + 1) →
     (Value.int IntKind.i64 (if i94 < rCommandsN then (rCommandsg1 i94) else (rdBk (x % (32768 : Int))))) = (Value.int IntKind.i64 (rcv1 rCommandsN rCommandsg1 x i94)))) ∧
     ((∀ i95 : Nat,
     (i95 < (rCommandsN + 1) →
     (Value.int IntKind.i64 (if i95 < rCommandsN then (rCommandsg2 i95) else (rdR (x % (32768 : Int))))) = (Value.int IntKind.i64 (rcv2 rCommandsN rCommandsg2 x i95)))) ∧
     ((∀ i96 : Nat,
     (i96 < (rCommandsN + 1) →
     (Value.int IntKind.i64 (if i96 < rCommandsN then (rCommandsg3 i96) else (rdCo (x % (32768 : Int))))) = (Value.int IntKind.i64 (rcv3 rCommandsN rCommandsg3 x i96)))) ∧
     True)))))))))) ∧
     True) ∧
     Bool.true = Bool.true)))))))))))))))))))))))))))))) ∧
  ((!(btw x (0 : Int) (2097151 : Int))) = Bool.true →
  (b69 = b69 ∧
   (b1 = b1 ∧
   (b1 = b1 ∧
   (Exists (fun (ro097 : (Option Addr)) => (Exists (fun (rc098 : Nat) => ((Value.tuple (List.toArray [(Value.agg (List.toArray [(Value.int IntKind.i64 (9223372036854775807 : Int)), (Value.slice ao72 rCommandsN cap73)])), (Value.bool Bool.false)])) = (Value.tuple (List.toArray [(Value.agg (List.toArray [(Value.int IntKind.i64 (rcvZ (rcvB rCount x) rCount)), (Value.slice ro097 (rcvN (rcvB rCount x) rCommandsN) rc098)])), (Value.bool (rcvB rCount x))])) ∧
   (((Bool.true = Bool.true ∧
   (ao72 = ro097 ∧
   (41 = 41 ∧
   (4 = 4 ∧
   (rCommandsN = (rcvN (rcvB rCount x) rCommandsN) ∧
   (cap73 = rc098 ∧
   ((∀ i99 : Nat,
   (i99 < rCommandsN →
   (Value.int IntKind.i64 (rCommandsg0 i99)) = (Value.int IntKind.i64 (rcv0 rCommandsN rCommandsg0 x i99)))) ∧
   ((∀ i100 : Nat,
   (i100 < rCommandsN →
   (Value.int IntKind.i64 (rCommandsg1 i100)) = (Value.int IntKind.i64 (rcv1 rCommandsN rCommandsg1 x i100)))) ∧
   ((∀ i101 : Nat,
   (i101 < rCommandsN →
   (Value.int IntKind.i64 (rCommandsg2 i101)) = (Value.int IntKind.i64 (rcv2 rCommandsN rCommandsg2 x i101)))) ∧
   ((∀ i102 : Nat,
   (i102 < rCommandsN →
   (Value.int IntKind.i64 (rCommandsg3 i102)) = (Value.int IntKind.i64 (rcv3 rCommandsN rCommandsg3 x i102)))) ∧
   True)))))))))) ∧
   True) ∧
   Bool.true = Bool.true))))))))))))))))))))))))))) := by kernel_rfl
theorem recvSM_any (rCount : Int) (rCommandsO : Option Addr) (rCommandsN rCommandsC : Nat) (rCommandsg0 rCommandsg1 rCommandsg2 rCommandsg3 : Nat → Int) (x : Int) (w : World) (hrrCommands : Row.sat w ⟨false, rCommandsO, 0, 4, rCommandsN, 0, [fun i => .int (rCommandsg0 i), fun i => .int (rCommandsg1 i), fun i => .int (rCommandsg2 i), fun i => .int (rCommandsg3 i)]⟩) (hpre : capC rCommandsN ∧ rngC x ∧ rCount = 9223372036854775807) : Calls Try.prog 35 #[.agg #[.int .i64 rCount, .slice rCommandsO rCommandsN rCommandsC], .int .i64 x] w fun e w' => ∃ (ro0 : Option Addr) (rc0 : Nat), e = .returned (.tuple #[.agg #[.int .i64 (rcvZ (rcvB rCount x) rCount), .slice ro0 (rcvN (rcvB rCount x) rCommandsN) rc0], .bool (rcvB rCount x)]) ∧ HS ⟨w, fun _ => False⟩ [.row ⟨true, ro0, 41, 4, rcvN (rcvB rCount x) rCommandsN, rc0, [fun i => .int (rcv0 rCommandsN rCommandsg0 x i), fun i => .int (rcv1 rCommandsN rCommandsg1 x i), fun i => .int (rcv2 rCommandsN rCommandsg2 x i), fun i => .int (rcv3 rCommandsN rCommandsg3 x i)]⟩] w' := by
  obtain ⟨hx1, hx2, rfl⟩ := hpre
  refine fnB (tb := [(48, sBtw), (62, sRead)]) ⟨sBtwS_ok, sRead_ok_readS, trivial⟩ Try.func35 (@Eq.mpr _ _ (recvSM_T  (9223372036854775807 : Int) rCommandsO rCommandsN rCommandsC rCommandsg0 rCommandsg1 rCommandsg2 rCommandsg3 x) ?_) (HS.rows (fun _ => False) [⟨false, rCommandsO, 0, 4, rCommandsN, 0, [fun i => .int (rCommandsg0 i), fun i => .int (rCommandsg1 i), fun i => .int (rCommandsg2 i), fun i => .int (rCommandsg3 i)]⟩] (by simp; exact hrrCommands)) (fun v ch' w' ⟨ro0, rc0, hk⟩ hs => ⟨ro0, rc0, by rw [hk.1], hk.hs hs⟩)
  clear hrrCommands
  cases hb : btw x 0 2097151
  · skip
    have hok : rcvB 9223372036854775807 x = false := by simp [rcvB, hb]
    repeat' (first
      | with_reducible exact rfl
      | exact True.intro
      | with_reducible assumption
      | refine And.intro ?_ ?_
      | apply Exists.intro
      | (intro h; exfalso; simp [hb, bne] at h; done)
      | (intro h; exfalso; simp [hb, bne] at h; omega)
      | intro _
      | omega
      | (simp; omega))
    all_goals (first | (simp_all [rcvZ, rcvN, rcv0, rcv1, rcv2, rcv3, incW]; done) | (simp_all [rcvZ, rcvN, rcv0, rcv1, rcv2, rcv3, incW]; omega) | (rename_i i hi; by_cases hin : i < rCommandsN <;> simp_all [rcvZ, rcvN, rcv0, rcv1, rcv2, rcv3, incW] <;> omega))
  · have hx := btw_facts' hb
    cases he : (x / 32768 == 63)
    · skip
      have hok : rcvB 9223372036854775807 x = false := by simp [rcvB, hb, he]
      repeat' (first
        | with_reducible exact rfl
        | exact True.intro
        | with_reducible assumption
        | refine And.intro ?_ ?_
        | apply Exists.intro
        | (intro h; exfalso; simp [hb, he, bne] at h; done)
        | (intro h; exfalso; simp [hb, he, bne] at h; omega)
        | intro _
        | omega
        | (simp; omega))
      all_goals (first | (simp_all [rcvZ, rcvN, rcv0, rcv1, rcv2, rcv3, incW]; done) | (simp_all [rcvZ, rcvN, rcv0, rcv1, rcv2, rcv3, incW]; omega) | (rename_i i hi; by_cases hin : i < rCommandsN <;> simp_all [rcvZ, rcvN, rcv0, rcv1, rcv2, rcv3, incW] <;> omega))
    · cases hr : rdB (x % 32768)
      · skip
        have hok : rcvB 9223372036854775807 x = false := by simp [rcvB, hb, he, hr]
        repeat' (first
          | with_reducible exact rfl
          | exact True.intro
          | with_reducible assumption
          | refine And.intro ?_ ?_
          | apply Exists.intro
          | (intro h; exfalso; simp [hb, he, hr, bne] at h; done)
          | (intro h; exfalso; simp [hb, he, hr, bne] at h; omega)
          | intro _
          | omega
          | (simp; omega))
        all_goals (first | (simp_all [rcvZ, rcvN, rcv0, rcv1, rcv2, rcv3, incW]; done) | (simp_all [rcvZ, rcvN, rcv0, rcv1, rcv2, rcv3, incW]; omega) | (rename_i i hi; by_cases hin : i < rCommandsN <;> simp_all [rcvZ, rcvN, rcv0, rcv1, rcv2, rcv3, incW] <;> omega))
      · skip
        have hok : rcvB 9223372036854775807 x = true := by simp [rcvB, hb, he, hr]
        repeat' (first
          | with_reducible exact rfl
          | exact True.intro
          | with_reducible assumption
          | refine And.intro ?_ ?_
          | apply Exists.intro
          | (intro h; exfalso; simp [hb, he, hr, bne] at h; done)
          | (intro h; exfalso; simp [hb, he, hr, bne] at h; omega)
          | intro _
          | omega
          | (simp; omega))
        all_goals (first | (simp_all [rcvZ, rcvN, rcv0, rcv1, rcv2, rcv3, incW]; done) | (simp_all [rcvZ, rcvN, rcv0, rcv1, rcv2, rcv3, incW]; omega) | (rename_i i hi; by_cases hin : i < rCommandsN <;> simp_all [rcvZ, rcvN, rcv0, rcv1, rcv2, rcv3, incW] <;> omega))
theorem recvS_any (rCount : Int) (rCommandsO : Option Addr) (rCommandsN rCommandsC : Nat) (rCommandsg0 rCommandsg1 rCommandsg2 rCommandsg3 : Nat → Int) (x : Int) (w : World) (hrrCommands : Row.sat w ⟨false, rCommandsO, 0, 4, rCommandsN, 0, [fun i => .int (rCommandsg0 i), fun i => .int (rCommandsg1 i), fun i => .int (rCommandsg2 i), fun i => .int (rCommandsg3 i)]⟩) (hpre : capC rCommandsN ∧ rngC x ∧ rngC rCount) : Calls Try.prog 35 #[.agg #[.int .i64 rCount, .slice rCommandsO rCommandsN rCommandsC], .int .i64 x] w fun e w' => ∃ (ro0 : Option Addr) (rc0 : Nat), e = .returned (.tuple #[.agg #[.int .i64 (rcvZ (rcvB rCount x) rCount), .slice ro0 (rcvN (rcvB rCount x) rCommandsN) rc0], .bool (rcvB rCount x)]) ∧ HS ⟨w, fun _ => False⟩ [.row ⟨true, ro0, 41, 4, rcvN (rcvB rCount x) rCommandsN, rc0, [fun i => .int (rcv0 rCommandsN rCommandsg0 x i), fun i => .int (rcv1 rCommandsN rCommandsg1 x i), fun i => .int (rcv2 rCommandsN rCommandsg2 x i), fun i => .int (rcv3 rCommandsN rCommandsg3 x i)]⟩] w' := by
  by_cases hm : rCount = 9223372036854775807
  · exact recvSM_any rCount rCommandsO rCommandsN rCommandsC rCommandsg0 rCommandsg1 rCommandsg2 rCommandsg3 x w hrrCommands ⟨hpre.1, hpre.2.1, hm⟩
  · exact recvSL_any rCount rCommandsO rCommandsN rCommandsC rCommandsg0 rCommandsg1 rCommandsg2 rCommandsg3 x w hrrCommands ⟨hpre.1, hpre.2.1, by have := hpre.2.2; omega⟩
def sRecv : Sm := fun args ch kk =>
  match args with
  | [.a (.agg [c0, .sl i0 a0 n0 d0]), .a (.c c1)] =>
    match ch[i0]?, ints [c0, c1] with
    | some (.row r0), some [rCount, x] => ∃ rCommandsg0 rCommandsg1 rCommandsg2 rCommandsg3 : Nat → Int, (a0 = r0.ao ∧ n0 = r0.n ∧ r0.fld = [fun i => .int (rCommandsg0 i), fun i => .int (rCommandsg1 i), fun i => .int (rCommandsg2 i), fun i => .int (rCommandsg3 i)] ∧ capC n0 ∧ rngC x ∧ rngC rCount) ∧ ∀ (ro0 : Option Addr) (rc0 : Nat), kk (.tup [.agg [.int (rcvZ (rcvB rCount x) rCount), .sl (ch.length) ro0 (rcvN (rcvB rCount x) n0) rc0], .c (.bool (rcvB rCount x))]) (ch ++ [.row ⟨true, ro0, 41, 4, rcvN (rcvB rCount x) n0, rc0, [fun i => .int (rcv0 n0 rCommandsg0 x i), fun i => .int (rcv1 n0 rCommandsg1 x i), fun i => .int (rcv2 n0 rCommandsg2 x i), fun i => .int (rcv3 n0 rCommandsg3 x i)]⟩]) []
    | _, _ => False
  | _ => False
theorem sRecv_ok {f : FuncId} (hc : ∀ args w, (callFunc f args).run Try.prog w = .ok (.enter f args) w) (h : ∀ (rCount : Int) (rCommandsO : Option Addr) (rCommandsN rCommandsC : Nat) (rCommandsg0 rCommandsg1 rCommandsg2 rCommandsg3 : Nat → Int) (x : Int) (w : World), Row.sat w ⟨false, rCommandsO, 0, 4, rCommandsN, 0, [fun i => .int (rCommandsg0 i), fun i => .int (rCommandsg1 i), fun i => .int (rCommandsg2 i), fun i => .int (rCommandsg3 i)]⟩ → capC rCommandsN ∧ rngC x ∧ rngC rCount → Calls Try.prog f #[.agg #[.int .i64 rCount, .slice rCommandsO rCommandsN rCommandsC], .int .i64 x] w fun e w' => ∃ (ro0 : Option Addr) (rc0 : Nat), e = .returned (.tuple #[.agg #[.int .i64 (rcvZ (rcvB rCount x) rCount), .slice ro0 (rcvN (rcvB rCount x) rCommandsN) rc0], .bool (rcvB rCount x)]) ∧ HS ⟨w, fun _ => False⟩ [.row ⟨true, ro0, 41, 4, rcvN (rcvB rCount x) rCommandsN, rc0, [fun i => .int (rcv0 rCommandsN rCommandsg0 x i), fun i => .int (rcv1 rCommandsN rCommandsg1 x i), fun i => .int (rcv2 rCommandsN rCommandsg2 x i), fun i => .int (rcv3 rCommandsN rCommandsg3 x i)]⟩] w') : SmOK Try.prog f sRecv := by
  refine smN hc fun args ch kk w X h0 hs => ?_
  unfold sRecv at h0
  split at h0
  · rename_i c0 i0 a0 n0 d0 c1
    split at h0
    · rename_i r0 rCount x hr0 hi
      obtain ⟨rCommandsg0, rCommandsg1, rCommandsg2, rCommandsg3, ⟨rfl, rfl, hf0, hpre⟩, h0⟩ := h0
      obtain ⟨ec0, hi⟩ := ints_cons hi
      obtain ⟨ec1, hi⟩ := ints_cons hi
      refine Calls.mono (?_ : Calls Try.prog f _ w (fun e w' => ∃ (ro0 : Option Addr) (rc0 : Nat), e = .returned (.tuple #[.agg #[.int .i64 (rcvZ (rcvB rCount x) rCount), .slice ro0 (rcvN (rcvB rCount x) r0.n) rc0], .bool (rcvB rCount x)]) ∧ HS ⟨w, fun _ => False⟩ [.row ⟨true, ro0, 41, 4, rcvN (rcvB rCount x) r0.n, rc0, [fun i => .int (rcv0 r0.n rCommandsg0 x i), fun i => .int (rcv1 r0.n rCommandsg1 x i), fun i => .int (rcv2 r0.n rCommandsg2 x i), fun i => .int (rcv3 r0.n rCommandsg3 x i)]⟩] w')) (fun e w' ⟨ro0, rc0, he, hs'⟩ => ⟨_, _, ?_, hs', rfl, h0 ro0 rc0⟩)
      · simp only [List.map_cons, List.map_nil, den_a, den_c, SA.den, den_sl, ec0, ec1]
        exact h rCount r0.ao r0.n d0 rCommandsg0 rCommandsg1 rCommandsg2 rCommandsg3 x w (Row.seenAs (hs.sat i0 _ hr0) hf0 rfl) hpre
      · rw [he]
        rfl
    · exact h0.elim
  · exact h0.elim
theorem sRecv_ok_recvI : SmOK Try.prog 24 sRecv := sRecv_ok Try.call24 (fun rCount rCommandsO rCommandsN rCommandsC rCommandsg0 rCommandsg1 rCommandsg2 rCommandsg3 x w h0 hp => recvI_any rCount rCommandsO rCommandsN rCommandsC rCommandsg0 rCommandsg1 rCommandsg2 rCommandsg3 x w h0 hp)
theorem sRecv_ok_recvS : SmOK Try.prog 35 sRecv := sRecv_ok Try.call35 (fun rCount rCommandsO rCommandsN rCommandsC rCommandsg0 rCommandsg1 rCommandsg2 rCommandsg3 x w h0 hp => recvS_any rCount rCommandsO rCommandsN rCommandsC rCommandsg0 rCommandsg1 rCommandsg2 rCommandsg3 x w h0 hp)
end Go.Proofs.Ytkfinkolllpcgaa

/-
  Trees bumped, as the reference does.
-/
import Derived.Test.YtppeocfcdeiemaaSxTree5
namespace Go.Proofs.Ytppeocfcdeiemaa
set_option linter.unusedVariables false
set_option linter.unusedSimpArgs false
open Go.RowKit
set_option maxRecDepth 100000
set_option maxHeartbeats 8000000

theorem nbT {x lo hi : Int} {q : Prop} (h : ¬ (lo ≤ x ∧ x ≤ hi) → q) : (!btw x lo hi) = true → q := fun e => h fun g => by rw [btw_yes g] at e; cases e
theorem nbF {x lo hi : Int} {q : Prop} (h : (lo ≤ x ∧ x ≤ hi) → q) : (!btw x lo hi) = false → q := fun e => h (btw_facts (by simpa using e))
theorem btw_nay {x lo hi : Int} (h : btw x lo hi = false) : ¬ (lo ≤ x ∧ x ≤ hi) := fun g => by rw [btw_yes g] at h; cases h
theorem bumpS_T (key : Int) (tRoot : Int) (tMidO : Option Addr) (tMidN tMidC : Nat) (tMidg0 tMidg1 : Nat → Int) (tLeafO : Option Addr) (tLeafN tLeafC : Nat) (tLeafg0 tLeafg1 : Nat → Int) (leaf : Int) : (exFn Try.prog {tb := [(37, sCopyT), (39, sBtw), (38, sTOk), (35, sMidT), (36, sLeafT), (40, iNumber)], R := [(15, 5)]} 400 Try.f16 ([.a (.c (.int key)), .a (.agg [.int tRoot, .sl 0 tMidO tMidN tMidC, .sl 1 tLeafO tLeafN tLeafC]), .a (.c (.int leaf))]) ([.row ⟨false, tMidO, 0, 2, tMidN, 0, [fun i => .int (tMidg0 i), fun i => .int (tMidg1 i)]⟩, .row ⟨false, tLeafO, 0, 2, tLeafN, 0, [fun i => .int (tLeafg0 i), fun i => .int (tLeafg1 i)]⟩]) (fun v ch => ∃ (ro0 : Option Addr) (rc0 : Nat) (ro1 : Option Addr) (rc1 : Nat), OutR v ch (.tuple #[.agg #[.int .i64 (bR key tRoot tMidN tLeafN tMidg0 tMidg1 tLeafg0 tLeafg1 leaf), .slice ro0 (tMidN) rc0, .slice ro1 (tLeafN) rc1], .bool (bOk key tRoot tMidN tLeafN tMidg0 tMidg1 tLeafg0 tLeafg1 leaf)]) [.row ⟨true, ro0, 37, 2, tMidN, rc0, [fun i => .int (bMc key tRoot tMidN tLeafN tMidg0 tMidg1 tLeafg0 tLeafg1 leaf i), fun i => .int (bMt key tRoot tMidN tLeafN tMidg0 tMidg1 tLeafg0 tLeafg1 leaf i)]⟩, .row ⟨true, ro1, 37, 2, tLeafN, rc1, [fun i => .int (bLc key tRoot tMidN tLeafN tMidg0 tMidg1 tLeafg0 tLeafg1 leaf i), fun i => .int (bLt key tRoot tMidN tLeafN tMidg0 tMidg1 tLeafg0 tLeafg1 leaf i)]⟩])) = (
  (∀ b0 : Nat,
  (∀ b1 : Nat,
  (b0 = b0 ∧
  (Exists (fun (tMidg02 : (Nat →
  Int)) => (Exists (fun (tMidg13 : (Nat →
  Int)) => (Exists (fun (tLeafg04 : (Nat →
  Int)) => (Exists (fun (tLeafg15 : (Nat →
  Int)) => ((tMidO = tMidO ∧
  (tMidN = tMidN ∧
  ([(fun (i6 : Nat) => (SC.int (tMidg0 i6))), (fun (i7 : Nat) => (SC.int (tMidg1 i7)))] = [(fun (i8 : Nat) => (SC.int (tMidg02 i8))), (fun (i9 : Nat) => (SC.int (tMidg13 i9)))] ∧
  (tLeafO = tLeafO ∧
  (tLeafN = tLeafN ∧
  ([(fun (i10 : Nat) => (SC.int (tLeafg0 i10))), (fun (i11 : Nat) => (SC.int (tLeafg1 i11)))] = [(fun (i12 : Nat) => (SC.int (tLeafg04 i12))), (fun (i13 : Nat) => (SC.int (tLeafg15 i13)))] ∧
  ((capC tMidN) ∧
  (capC tLeafN)))))))) ∧
  (∀ ro014 : (Option Addr),
  (∀ rc015 : Nat,
  (∀ ro116 : (Option Addr),
  (∀ rc117 : Nat,
  (∀ b18 : Nat,
  (b18 = b18 ∧
  (b0 = b0 ∧
  (Exists (fun (tMidg019 : (Nat →
  Int)) => (Exists (fun (tMidg120 : (Nat →
  Int)) => (Exists (fun (tLeafg021 : (Nat →
  Int)) => (Exists (fun (tLeafg122 : (Nat →
  Int)) => ((tMidO = tMidO ∧
  (tMidN = tMidN ∧
  ([(fun (i23 : Nat) => (SC.int (tMidg0 i23))), (fun (i24 : Nat) => (SC.int (tMidg1 i24)))] = [(fun (i25 : Nat) => (SC.int (tMidg019 i25))), (fun (i26 : Nat) => (SC.int (tMidg120 i26)))] ∧
  (tLeafO = tLeafO ∧
  (tLeafN = tLeafN ∧
  [(fun (i27 : Nat) => (SC.int (tLeafg0 i27))), (fun (i28 : Nat) => (SC.int (tLeafg1 i28)))] = [(fun (i29 : Nat) => (SC.int (tLeafg021 i29))), (fun (i30 : Nat) => (SC.int (tLeafg122 i30)))]))))) ∧
  (((!(treeB key tRoot tMidN tLeafN tMidg019 tMidg120 tLeafg021 tLeafg122)) = Bool.false →
  (((!(btw leaf (0 : Int) (7 : Int))) = Bool.true →
   (b18 = b18 ∧
    (b1 = b1 ∧
    (b1 = b1 ∧
    (Exists (fun (ro031 : (Option Addr)) => (Exists (fun (rc032 : Nat) => (Exists (fun (ro133 : (Option Addr)) => (Exists (fun (rc134 : Nat) => ((Value.tuple (List.toArray [(Value.agg (List.toArray [(Value.int IntKind.i64 tRoot), (Value.slice ro014 tMidN rc015), (Value.slice ro116 tLeafN rc117)])), (Value.bool Bool.false)])) = (Value.tuple (List.toArray [(Value.agg (List.toArray [(Value.int IntKind.i64 (bR key tRoot tMidN tLeafN tMidg0 tMidg1 tLeafg0 tLeafg1 leaf)), (Value.slice ro031 tMidN rc032), (Value.slice ro133 tLeafN rc134)])), (Value.bool (bOk key tRoot tMidN tLeafN tMidg0 tMidg1 tLeafg0 tLeafg1 leaf))])) ∧
    (((Bool.true = Bool.true ∧
    (ro014 = ro031 ∧
    (37 = 37 ∧
    (2 = 2 ∧
    (tMidN = tMidN ∧
    (rc015 = rc032 ∧
    ((∀ i35 : Nat,
    (i35 < tMidN →
    (Value.int IntKind.i64 (tMidg02 i35)) = (Value.int IntKind.i64 (bMc key tRoot tMidN tLeafN tMidg0 tMidg1 tLeafg0 tLeafg1 leaf i35)))) ∧
    ((∀ i36 : Nat,
    (i36 < tMidN →
    (Value.int IntKind.i64 (tMidg13 i36)) = (Value.int IntKind.i64 (bMt key tRoot tMidN tLeafN tMidg0 tMidg1 tLeafg0 tLeafg1 leaf i36)))) ∧
    True)))))))) ∧
    ((Bool.true = Bool.true ∧
    (ro116 = ro133 ∧
    (37 = 37 ∧
    (2 = 2 ∧
    (tLeafN = tLeafN ∧
    (rc117 = rc134 ∧
    ((∀ i37 : Nat,
    (i37 < tLeafN →
    (Value.int IntKind.i64 (tLeafg04 i37)) = (Value.int IntKind.i64 (bLc key tRoot tMidN tLeafN tMidg0 tMidg1 tLeafg0 tLeafg1 leaf i37)))) ∧
    ((∀ i38 : Nat,
    (i38 < tLeafN →
    (Value.int IntKind.i64 (tLeafg15 i38)) = (Value.int IntKind.i64 (bLt key tRoot tMidN tLeafN tMidg0 tMidg1 tLeafg0 tLeafg1 leaf i38)))) ∧
    True)))))))) ∧
    True)) ∧
    Bool.true = Bool.true)))))))))))))) ∧
   ((!(btw leaf (0 : Int) (7 : Int))) = Bool.false →
   ((divC leaf (4 : Int)) ∧
    (b18 = b18 ∧
    ((rng (tRoot + (1 : Int))) ∧
    (b18 = b18 ∧
    (b18 = b18 ∧
    (b18 = b18 ∧
    (ro014 = ro014 ∧
    (tMidN = tMidN ∧
    ((0 ≤ (leaf / (4 : Int)) ∧ (leaf / (4 : Int)) < ((tMidN : Nat) : Int)) ∧
    (ro014 = ro014 ∧
    ((Int.toNat (leaf / (4 : Int))) < tMidN ∧
    (ro014 = ro014 ∧
    ((Int.toNat (leaf / (4 : Int))) < tMidN ∧
    ((rng ((tMidg02 (Int.toNat (leaf / (4 : Int)))) + (1 : Int))) ∧
    (ro014 = ro014 ∧
    (tMidN = tMidN ∧
    ((0 ≤ (leaf / (4 : Int)) ∧ (leaf / (4 : Int)) < ((tMidN : Nat) : Int)) ∧
    (ro014 = ro014 ∧
    ((Int.toNat (leaf / (4 : Int))) < tMidN ∧
    (ro014 = ro014 ∧
    ((Int.toNat (leaf / (4 : Int))) < tMidN ∧
    (True ∧
    (b18 = b18 ∧
    (b18 = b18 ∧
    (ro116 = ro116 ∧
    (tLeafN = tLeafN ∧
    ((0 ≤ leaf ∧ leaf < ((tLeafN : Nat) : Int)) ∧
    (ro116 = ro116 ∧
    ((Int.toNat leaf) < tLeafN ∧
    (ro116 = ro116 ∧
    ((Int.toNat leaf) < tLeafN ∧
    ((rng ((tLeafg04 (Int.toNat leaf)) + (1 : Int))) ∧
    (ro116 = ro116 ∧
    (tLeafN = tLeafN ∧
    ((0 ≤ leaf ∧ leaf < ((tLeafN : Nat) : Int)) ∧
    (ro116 = ro116 ∧
    ((Int.toNat leaf) < tLeafN ∧
    (ro116 = ro116 ∧
    ((Int.toNat leaf) < tLeafN ∧
    (True ∧
    (b18 = b18 ∧
    (((!(btw (tRoot + (1 : Int)) (0 : Int) (1000000000 : Int))) = Bool.false →
    (b18 = b18 ∧
     (ro014 = ro014 ∧
     (tMidN = tMidN ∧
     ((0 ≤ (leaf / (4 : Int)) ∧ (leaf / (4 : Int)) < ((tMidN : Nat) : Int)) ∧
     (ro014 = ro014 ∧
     ((Int.toNat (leaf / (4 : Int))) < tMidN ∧
     (ro014 = ro014 ∧
     ((Int.toNat (leaf / (4 : Int))) < tMidN ∧
     (((!(btw (if (Int.toNat (leaf / (4 : Int))) = (Int.toNat (leaf / (4 : Int))) then ((tMidg02 (Int.toNat (leaf / (4 : Int)))) + (1 : Int)) else (tMidg02 (Int.toNat (leaf / (4 : Int))))) (0 : Int) (1000000000 : Int))) = Bool.false →
     (b18 = b18 ∧
      (ro116 = ro116 ∧
      (tLeafN = tLeafN ∧
      ((0 ≤ leaf ∧ leaf < ((tLeafN : Nat) : Int)) ∧
      (ro116 = ro116 ∧
      ((Int.toNat leaf) < tLeafN ∧
      (ro116 = ro116 ∧
      ((Int.toNat leaf) < tLeafN ∧
      (((!(btw (if (Int.toNat leaf) = (Int.toNat leaf) then ((tLeafg04 (Int.toNat leaf)) + (1 : Int)) else (tLeafg04 (Int.toNat leaf))) (0 : Int) (1000000000 : Int))) = Bool.true →
      (b0 = b0 ∧
       (Exists (fun (tMidg039 : (Nat →
       Int)) => (Exists (fun (tMidg140 : (Nat →
       Int)) => (Exists (fun (tLeafg041 : (Nat →
       Int)) => (Exists (fun (tLeafg142 : (Nat →
       Int)) => ((tMidO = tMidO ∧
       (tMidN = tMidN ∧
       ([(fun (i43 : Nat) => (SC.int (tMidg0 i43))), (fun (i44 : Nat) => (SC.int (tMidg1 i44)))] = [(fun (i45 : Nat) => (SC.int (tMidg039 i45))), (fun (i46 : Nat) => (SC.int (tMidg140 i46)))] ∧
       (tLeafO = tLeafO ∧
       (tLeafN = tLeafN ∧
       ([(fun (i47 : Nat) => (SC.int (tLeafg0 i47))), (fun (i48 : Nat) => (SC.int (tLeafg1 i48)))] = [(fun (i49 : Nat) => (SC.int (tLeafg041 i49))), (fun (i50 : Nat) => (SC.int (tLeafg142 i50)))] ∧
       ((capC tMidN) ∧
       (capC tLeafN)))))))) ∧
       (∀ ro051 : (Option Addr),
       (∀ rc052 : Nat,
       (∀ ro153 : (Option Addr),
       (∀ rc154 : Nat,
       (b1 = b1 ∧
       (b1 = b1 ∧
       (Exists (fun (ro055 : (Option Addr)) => (Exists (fun (rc056 : Nat) => (Exists (fun (ro157 : (Option Addr)) => (Exists (fun (rc158 : Nat) => ((Value.tuple (List.toArray [(Value.agg (List.toArray [(Value.int IntKind.i64 tRoot), (Value.slice ro051 tMidN rc052), (Value.slice ro153 tLeafN rc154)])), (Value.bool Bool.false)])) = (Value.tuple (List.toArray [(Value.agg (List.toArray [(Value.int IntKind.i64 (bR key tRoot tMidN tLeafN tMidg0 tMidg1 tLeafg0 tLeafg1 leaf)), (Value.slice ro055 tMidN rc056), (Value.slice ro157 tLeafN rc158)])), (Value.bool (bOk key tRoot tMidN tLeafN tMidg0 tMidg1 tLeafg0 tLeafg1 leaf))])) ∧
       (((Bool.true = Bool.true ∧
       (ro051 = ro055 ∧
       (37 = 37 ∧
       (2 = 2 ∧
       (tMidN = tMidN ∧
       (rc052 = rc056 ∧
       ((∀ i59 : Nat,
       (i59 < tMidN →
       (Value.int IntKind.i64 (tMidg039 i59)) = (Value.int IntKind.i64 (bMc key tRoot tMidN tLeafN tMidg0 tMidg1 tLeafg0 tLeafg1 leaf i59)))) ∧
       ((∀ i60 : Nat,
       (i60 < tMidN →
       (Value.int IntKind.i64 (tMidg140 i60)) = (Value.int IntKind.i64 (bMt key tRoot tMidN tLeafN tMidg0 tMidg1 tLeafg0 tLeafg1 leaf i60)))) ∧
       True)))))))) ∧
       ((Bool.true = Bool.true ∧
       (ro153 = ro157 ∧
       (37 = 37 ∧
       (2 = 2 ∧
       (tLeafN = tLeafN ∧
       (rc154 = rc158 ∧
       ((∀ i61 : Nat,
       (i61 < tLeafN →
       (Value.int IntKind.i64 (tLeafg041 i61)) = (Value.int IntKind.i64 (bLc key tRoot tMidN tLeafN tMidg0 tMidg1 tLeafg0 tLeafg1 leaf i61)))) ∧
       ((∀ i62 : Nat,
       (i62 < tLeafN →
       (Value.int IntKind.i64 (tLeafg142 i62)) = (Value.int IntKind.i64 (bLt key tRoot tMidN tLeafN tMidg0 tMidg1 tLeafg0 tLeafg1 leaf i62)))) ∧
       True)))))))) ∧
       True)) ∧
       Bool.true = Bool.true))))))))))))))))))))))))))) ∧
      ((!(btw (if (Int.toNat leaf) = (Int.toNat leaf) then ((tLeafg04 (Int.toNat leaf)) + (1 : Int)) else (tLeafg04 (Int.toNat leaf))) (0 : Int) (1000000000 : Int))) = Bool.false →
      (b18 = b18 ∧
       (b18 = b18 ∧
       (Exists (fun (g063 : (Nat →
       Int)) => (Exists (fun (g164 : (Nat →
       Int)) => ((ro014 = ro014 ∧
       (tMidN = tMidN ∧
       [(fun (j65 : Nat) => (SC.int (if j65 = (Int.toNat (leaf / (4 : Int))) then ((tMidg02 (Int.toNat (leaf / (4 : Int)))) + (1 : Int)) else (tMidg02 j65)))), (fun (i66 : Nat) => (SC.int (tMidg13 i66)))] = [(fun (i67 : Nat) => (SC.int (g063 i67))), (fun (i68 : Nat) => (SC.int (g164 i68)))])) ∧
       (((0 ≤ (0 : Int) ∧ (0 : Int) < ((tMidN : Nat) : Int)) ∧
       (tagC (0 : Int))) ∧
       (True ∧
       (ro014 = ro014 ∧
       (tMidN = tMidN ∧
       ((0 ≤ (0 : Int) ∧ (0 : Int) < ((tMidN : Nat) : Int)) ∧
       (ro014 = ro014 ∧
       (0 < tMidN ∧
       (ro014 = ro014 ∧
       (0 < tMidN ∧
       (True ∧
       (b18 = b18 ∧
       (b18 = b18 ∧
       (Exists (fun (g069 : (Nat →
       Int)) => (Exists (fun (g170 : (Nat →
       Int)) => ((ro014 = ro014 ∧
       (tMidN = tMidN ∧
       [(fun (j71 : Nat) => (SC.int (if j71 = (Int.toNat (leaf / (4 : Int))) then ((tMidg02 (Int.toNat (leaf / (4 : Int)))) + (1 : Int)) else (tMidg02 j71)))), (fun (j72 : Nat) => (SC.int (if j72 = 0 then (tagW key ((1000 : Int) + (0 : Int)) (tRoot + (1 : Int)) (g063 0)) else (tMidg13 j72))))] = [(fun (i73 : Nat) => (SC.int (g069 i73))), (fun (i74 : Nat) => (SC.int (g170 i74)))])) ∧
       (((0 ≤ (1 : Int) ∧ (1 : Int) < ((tMidN : Nat) : Int)) ∧
       (tagC (1 : Int))) ∧
       (True ∧
       (ro014 = ro014 ∧
       (tMidN = tMidN ∧
       ((0 ≤ (1 : Int) ∧ (1 : Int) < ((tMidN : Nat) : Int)) ∧
       (ro014 = ro014 ∧
       (1 < tMidN ∧
       (ro014 = ro014 ∧
       (1 < tMidN ∧
       (True ∧
       ((rng ((4 : Int) * (leaf / (4 : Int)))) ∧
       ((rng ((4 : Int) * (leaf / (4 : Int)))) ∧
       ((rng (((4 : Int) * (leaf / (4 : Int))) + (4 : Int))) ∧
       (((decide (((4 : Int) * (leaf / (4 : Int))) < (((4 : Int) * (leaf / (4 : Int))) + (4 : Int)))) = Bool.true →
       (b18 = b18 ∧
        (b18 = b18 ∧
        (Exists (fun (g075 : (Nat →
        Int)) => (Exists (fun (g176 : (Nat →
        Int)) => ((ro014 = ro014 ∧
        (tMidN = tMidN ∧
        [(fun (j77 : Nat) => (SC.int (if j77 = (Int.toNat (leaf / (4 : Int))) then ((tMidg02 (Int.toNat (leaf / (4 : Int)))) + (1 : Int)) else (tMidg02 j77)))), (fun (j78 : Nat) => (SC.int (if j78 = 1 then (tagW key ((1000 : Int) + (1 : Int)) (tRoot + (1 : Int)) (g069 1)) else (if j78 = 0 then (tagW key ((1000 : Int) + (0 : Int)) (tRoot + (1 : Int)) (g063 0)) else (tMidg13 j78)))))] = [(fun (i79 : Nat) => (SC.int (g075 i79))), (fun (i80 : Nat) => (SC.int (g176 i80)))])) ∧
        (Exists (fun (g081 : (Nat →
        Int)) => (Exists (fun (g182 : (Nat →
        Int)) => ((ro116 = ro116 ∧
        (tLeafN = tLeafN ∧
        [(fun (j83 : Nat) => (SC.int (if j83 = (Int.toNat leaf) then ((tLeafg04 (Int.toNat leaf)) + (1 : Int)) else (tLeafg04 j83)))), (fun (i84 : Nat) => (SC.int (tLeafg15 i84)))] = [(fun (i85 : Nat) => (SC.int (g081 i85))), (fun (i86 : Nat) => (SC.int (g182 i86)))])) ∧
        (((0 ≤ (((4 : Int) * (leaf / (4 : Int))) / (4 : Int)) ∧ (((4 : Int) * (leaf / (4 : Int))) / (4 : Int)) < ((tMidN : Nat) : Int)) ∧
        ((0 ≤ ((4 : Int) * (leaf / (4 : Int))) ∧ ((4 : Int) * (leaf / (4 : Int))) < ((tLeafN : Nat) : Int)) ∧
        (tagC ((4 : Int) * (leaf / (4 : Int)))))) ∧
        (True ∧
        (ro116 = ro116 ∧
        (tLeafN = tLeafN ∧
        ((0 ≤ ((4 : Int) * (leaf / (4 : Int))) ∧ ((4 : Int) * (leaf / (4 : Int))) < ((tLeafN : Nat) : Int)) ∧
        (ro116 = ro116 ∧
        ((Int.toNat ((4 : Int) * (leaf / (4 : Int)))) < tLeafN ∧
        (ro116 = ro116 ∧
        ((Int.toNat ((4 : Int) * (leaf / (4 : Int)))) < tLeafN ∧
        (True ∧
        ((rng (((4 : Int) * (leaf / (4 : Int))) + (1 : Int))) ∧
        ((rng ((4 : Int) * (leaf / (4 : Int)))) ∧
        ((rng (((4 : Int) * (leaf / (4 : Int))) + (4 : Int))) ∧
        (((decide ((((4 : Int) * (leaf / (4 : Int))) + (1 : Int)) < (((4 : Int) * (leaf / (4 : Int))) + (4 : Int)))) = Bool.true →
        (b18 = b18 ∧
         (b18 = b18 ∧
         (Exists (fun (g087 : (Nat →
         Int)) => (Exists (fun (g188 : (Nat →
         Int)) => ((ro014 = ro014 ∧
         (tMidN = tMidN ∧
         [(fun (j89 : Nat) => (SC.int (if j89 = (Int.toNat (leaf / (4 : Int))) then ((tMidg02 (Int.toNat (leaf / (4 : Int)))) + (1 : Int)) else (tMidg02 j89)))), (fun (j90 : Nat) => (SC.int (if j90 = 1 then (tagW key ((1000 : Int) + (1 : Int)) (tRoot + (1 : Int)) (g069 1)) else (if j90 = 0 then (tagW key ((1000 : Int) + (0 : Int)) (tRoot + (1 : Int)) (g063 0)) else (tMidg13 j90)))))] = [(fun (i91 : Nat) => (SC.int (g087 i91))), (fun (i92 : Nat) => (SC.int (g188 i92)))])) ∧
         (Exists (fun (g093 : (Nat →
         Int)) => (Exists (fun (g194 : (Nat →
         Int)) => ((ro116 = ro116 ∧
         (tLeafN = tLeafN ∧
         [(fun (j95 : Nat) => (SC.int (if j95 = (Int.toNat leaf) then ((tLeafg04 (Int.toNat leaf)) + (1 : Int)) else (tLeafg04 j95)))), (fun (j96 : Nat) => (SC.int (if j96 = (Int.toNat ((4 : Int) * (leaf / (4 : Int)))) then (tagW key ((2000 : Int) + ((4 : Int) * (leaf / (4 : Int)))) (g075 (Int.toNat (((4 : Int) * (leaf / (4 : Int))) / (4 : Int)))) (g081 (Int.toNat ((4 : Int) * (leaf / (4 : Int)))))) else (tLeafg15 j96))))] = [(fun (i97 : Nat) => (SC.int (g093 i97))), (fun (i98 : Nat) => (SC.int (g194 i98)))])) ∧
         (((0 ≤ ((((4 : Int) * (leaf / (4 : Int))) + (1 : Int)) / (4 : Int)) ∧ ((((4 : Int) * (leaf / (4 : Int))) + (1 : Int)) / (4 : Int)) < ((tMidN : Nat) : Int)) ∧
         ((0 ≤ (((4 : Int) * (leaf / (4 : Int))) + (1 : Int)) ∧ (((4 : Int) * (leaf / (4 : Int))) + (1 : Int)) < ((tLeafN : Nat) : Int)) ∧
         (tagC (((4 : Int) * (leaf / (4 : Int))) + (1 : Int))))) ∧
         (True ∧
         (ro116 = ro116 ∧
         (tLeafN = tLeafN ∧
         ((0 ≤ (((4 : Int) * (leaf / (4 : Int))) + (1 : Int)) ∧ (((4 : Int) * (leaf / (4 : Int))) + (1 : Int)) < ((tLeafN : Nat) : Int)) ∧
         (ro116 = ro116 ∧
         ((Int.toNat (((4 : Int) * (leaf / (4 : Int))) + (1 : Int))) < tLeafN ∧
         (ro116 = ro116 ∧
         ((Int.toNat (((4 : Int) * (leaf / (4 : Int))) + (1 : Int))) < tLeafN ∧
         (True ∧
         ((rng ((((4 : Int) * (leaf / (4 : Int))) + (1 : Int)) + (1 : Int))) ∧
         ((rng ((4 : Int) * (leaf / (4 : Int)))) ∧
         ((rng (((4 : Int) * (leaf / (4 : Int))) + (4 : Int))) ∧
         (((decide (((((4 : Int) * (leaf / (4 : Int))) + (1 : Int)) + (1 : Int)) < (((4 : Int) * (leaf / (4 : Int))) + (4 : Int)))) = Bool.true →
         (b18 = b18 ∧
          (b18 = b18 ∧
          (Exists (fun (g099 : (Nat →
          Int)) => (Exists (fun (g1100 : (Nat →
          Int)) => ((ro014 = ro014 ∧
          (tMidN = tMidN ∧
          [(fun (j101 : Nat) => (SC.int (if j101 = (Int.toNat (leaf / (4 : Int))) then ((tMidg02 (Int.toNat (leaf / (4 : Int)))) + (1 : Int)) else (tMidg02 j101)))), (fun (j102 : Nat) => (SC.int (if j102 = 1 then (tagW key ((1000 : Int) + (1 : Int)) (tRoot + (1 : Int)) (g069 1)) else (if j102 = 0 then (tagW key ((1000 : Int) + (0 : Int)) (tRoot + (1 : Int)) (g063 0)) else (tMidg13 j102)))))] = [(fun (i103 : Nat) => (SC.int (g099 i103))), (fun (i104 : Nat) => (SC.int (g1100 i104)))])) ∧
          (Exists (fun (g0105 : (Nat →
          Int)) => (Exists (fun (g1106 : (Nat →
          Int)) => ((ro116 = ro116 ∧
          (tLeafN = tLeafN ∧
          [(fun (j107 : Nat) => (SC.int (if j107 = (Int.toNat leaf) then ((tLeafg04 (Int.toNat leaf)) + (1 : Int)) else (tLeafg04 j107)))), (fun (j108 : Nat) => (SC.int (if j108 = (Int.toNat (((4 : Int) * (leaf / (4 : Int))) + (1 : Int))) then (tagW key ((2000 : Int) + (((4 : Int) * (leaf / (4 : Int))) + (1 : Int))) (g087 (Int.toNat ((((4 : Int) * (leaf / (4 : Int))) + (1 : Int)) / (4 : Int)))) (g093 (Int.toNat (((4 : Int) * (leaf / (4 : Int))) + (1 : Int))))) else (if j108 = (Int.toNat ((4 : Int) * (leaf / (4 : Int)))) then (tagW key ((2000 : Int) + ((4 : Int) * (leaf / (4 : Int)))) (g075 (Int.toNat (((4 : Int) * (leaf / (4 : Int))) / (4 : Int)))) (g081 (Int.toNat ((4 : Int) * (leaf / (4 : Int)))))) else (tLeafg15 j108)))))] = [(fun (i109 : Nat) => (SC.int (g0105 i109))), (fun (i110 : Nat) => (SC.int (g1106 i110)))])) ∧
          (((0 ≤ (((((4 : Int) * (leaf / (4 : Int))) + (1 : Int)) + (1 : Int)) / (4 : Int)) ∧ (((((4 : Int) * (leaf / (4 : Int))) + (1 : Int)) + (1 : Int)) / (4 : Int)) < ((tMidN : Nat) : Int)) ∧
          ((0 ≤ ((((4 : Int) * (leaf / (4 : Int))) + (1 : Int)) + (1 : Int)) ∧ ((((4 : Int) * (leaf / (4 : Int))) + (1 : Int)) + (1 : Int)) < ((tLeafN : Nat) : Int)) ∧
          (tagC ((((4 : Int) * (leaf / (4 : Int))) + (1 : Int)) + (1 : Int))))) ∧
          (True ∧
          (ro116 = ro116 ∧
          (tLeafN = tLeafN ∧
          ((0 ≤ ((((4 : Int) * (leaf / (4 : Int))) + (1 : Int)) + (1 : Int)) ∧ ((((4 : Int) * (leaf / (4 : Int))) + (1 : Int)) + (1 : Int)) < ((tLeafN : Nat) : Int)) ∧
          (ro116 = ro116 ∧
          ((Int.toNat ((((4 : Int) * (leaf / (4 : Int))) + (1 : Int)) + (1 : Int))) < tLeafN ∧
          (ro116 = ro116 ∧
          ((Int.toNat ((((4 : Int) * (leaf / (4 : Int))) + (1 : Int)) + (1 : Int))) < tLeafN ∧
          (True ∧
          ((rng (((((4 : Int) * (leaf / (4 : Int))) + (1 : Int)) + (1 : Int)) + (1 : Int))) ∧
          ((rng ((4 : Int) * (leaf / (4 : Int)))) ∧
          ((rng (((4 : Int) * (leaf / (4 : Int))) + (4 : Int))) ∧
          (((decide ((((((4 : Int) * (leaf / (4 : Int))) + (1 : Int)) + (1 : Int)) + (1 : Int)) < (((4 : Int) * (leaf / (4 : Int))) + (4 : Int)))) = Bool.true →
          (b18 = b18 ∧
           (b18 = b18 ∧
           (Exists (fun (g0111 : (Nat →
           Int)) => (Exists (fun (g1112 : (Nat →
           Int)) => ((ro014 = ro014 ∧
           (tMidN = tMidN ∧
           [(fun (j113 : Nat) => (SC.int (if j113 = (Int.toNat (leaf / (4 : Int))) then ((tMidg02 (Int.toNat (leaf / (4 : Int)))) + (1 : Int)) else (tMidg02 j113)))), (fun (j114 : Nat) => (SC.int (if j114 = 1 then (tagW key ((1000 : Int) + (1 : Int)) (tRoot + (1 : Int)) (g069 1)) else (if j114 = 0 then (tagW key ((1000 : Int) + (0 : Int)) (tRoot + (1 : Int)) (g063 0)) else (tMidg13 j114)))))] = [(fun (i115 : Nat) => (SC.int (g0111 i115))), (fun (i116 : Nat) => (SC.int (g1112 i116)))])) ∧
           (Exists (fun (g0117 : (Nat →
           Int)) => (Exists (fun (g1118 : (Nat →
           Int)) => ((ro116 = ro116 ∧
           (tLeafN = tLeafN ∧
           [(fun (j119 : Nat) => (SC.int (if j119 = (Int.toNat leaf) then ((tLeafg04 (Int.toNat leaf)) + (1 : Int)) else (tLeafg04 j119)))), (fun (j120 : Nat) => (SC.int (if j120 = (Int.toNat ((((4 : Int) * (leaf / (4 : Int))) + (1 : Int)) + (1 : Int))) then (tagW key ((2000 : Int) + ((((4 : Int) * (leaf / (4 : Int))) + (1 : Int)) + (1 : Int))) (g099 (Int.toNat (((((4 : Int) * (leaf / (4 : Int))) + (1 : Int)) + (1 : Int)) / (4 : Int)))) (g0105 (Int.toNat ((((4 : Int) * (leaf / (4 : Int))) + (1 : Int)) + (1 : Int))))) else (if j120 = (Int.toNat (((4 : Int) * (leaf / (4 : Int))) + (1 : Int))) then (tagW key ((2000 : Int) + (((4 : Int) * (leaf / (4 : Int))) + (1 : Int))) (g087 (Int.toNat ((((4 : Int) * (leaf / (4 : Int))) + (1 : Int)) / (4 : Int)))) (g093 (Int.toNat (((4 : Int) * (leaf / (4 : Int))) + (1 : Int))))) else (if j120 = (Int.toNat ((4 : Int) * (leaf / (4 : Int)))) then (tagW key ((2000 : Int) + ((4 : Int) * (leaf / (4 : Int)))) (g075 (Int.toNat (((4 : Int) * (leaf / (4 : Int))) / (4 : Int)))) (g081 (Int.toNat ((4 : Int) * (leaf / (4 : Int)))))) else (tLeafg15 j120))))))] = [(fun (i121 : Nat) => (SC.int (g0117 i121))), (fun (i122 : Nat) => (SC.int (g1118 i122)))])) ∧
           (((0 ≤ ((((((4 : Int) * (leaf / (4 : Int))) + (1 : Int)) + (1 : Int)) + (1 : Int)) / (4 : Int)) ∧ ((((((4 : Int) * (leaf / (4 : Int))) + (1 : Int)) + (1 : Int)) + (1 : Int)) / (4 : Int)) < ((tMidN : Nat) : Int)) ∧
           ((0 ≤ (((((4 : Int) * (leaf / (4 : Int))) + (1 : Int)) + (1 : Int)) + (1 : Int)) ∧ (((((4 : Int) * (leaf / (4 : Int))) + (1 : Int)) + (1 : Int)) + (1 : Int)) < ((tLeafN : Nat) : Int)) ∧
           (tagC (((((4 : Int) * (leaf / (4 : Int))) + (1 : Int)) + (1 : Int)) + (1 : Int))))) ∧
           (True ∧
           (ro116 = ro116 ∧
           (tLeafN = tLeafN ∧
           ((0 ≤ (((((4 : Int) * (leaf / (4 : Int))) + (1 : Int)) + (1 : Int)) + (1 : Int)) ∧ (((((4 : Int) * (leaf / (4 : Int))) + (1 : Int)) + (1 : Int)) + (1 : Int)) < ((tLeafN : Nat) : Int)) ∧
           (ro116 = ro116 ∧
           ((Int.toNat (((((4 : Int) * (leaf / (4 : Int))) + (1 : Int)) + (1 : Int)) + (1 : Int))) < tLeafN ∧
           (ro116 = ro116 ∧
           ((Int.toNat (((((4 : Int) * (leaf / (4 : Int))) + (1 : Int)) + (1 : Int)) + (1 : Int))) < tLeafN ∧
           (True ∧
           ((rng ((((((4 : Int) * (leaf / (4 : Int))) + (1 : Int)) + (1 : Int)) + (1 : Int)) + (1 : Int))) ∧
           ((rng ((4 : Int) * (leaf / (4 : Int)))) ∧
           ((rng (((4 : Int) * (leaf / (4 : Int))) + (4 : Int))) ∧
           (((decide (((((((4 : Int) * (leaf / (4 : Int))) + (1 : Int)) + (1 : Int)) + (1 : Int)) + (1 : Int)) < (((4 : Int) * (leaf / (4 : Int))) + (4 : Int)))) = Bool.true →
           (b18 = b18 ∧
            (b18 = b18 ∧
            (Exists (fun (g0123 : (Nat →
            Int)) => (Exists (fun (g1124 : (Nat →
            Int)) => ((ro014 = ro014 ∧
            (tMidN = tMidN ∧
            [(fun (j125 : Nat) => (SC.int (if j125 = (Int.toNat (leaf / (4 : Int))) then ((tMidg02 (Int.toNat (leaf / (4 : Int)))) + (1 : Int)) else (tMidg02 j125)))), (fun (j126 : Nat) => (SC.int (if j126 = 1 then (tagW key ((1000 : Int) + (1 : Int)) (tRoot + (1 : Int)) (g069 1)) else (if j126 = 0 then (tagW key ((1000 : Int) + (0 : Int)) (tRoot + (1 : Int)) (g063 0)) else (tMidg13 j126)))))] = [(fun (i127 : Nat) => (SC.int (g0123 i127))), (fun (i128 : Nat) => (SC.int (g1124 i128)))])) ∧
            (Exists (fun (g0129 : (Nat →
            Int)) => (Exists (fun (g1130 : (Nat →
            Int)) => ((ro116 = ro116 ∧
            (tLeafN = tLeafN ∧
            [(fun (j131 : Nat) => (SC.int (if j131 = (Int.toNat leaf) then ((tLeafg04 (Int.toNat leaf)) + (1 : Int)) else (tLeafg04 j131)))), (fun (j132 : Nat) => (SC.int (if j132 = (Int.toNat (((((4 : Int) * (leaf / (4 : Int))) + (1 : Int)) + (1 : Int)) + (1 : Int))) then (tagW key ((2000 : Int) + (((((4 : Int) * (leaf / (4 : Int))) + (1 : Int)) + (1 : Int)) + (1 : Int))) (g0111 (Int.toNat ((((((4 : Int) * (leaf / (4 : Int))) + (1 : Int)) + (1 : Int)) + (1 : Int)) / (4 : Int)))) (g0117 (Int.toNat (((((4 : Int) * (leaf / (4 : Int))) + (1 : Int)) + (1 : Int)) + (1 : Int))))) else (if j132 = (Int.toNat ((((4 : Int) * (leaf / (4 : Int))) + (1 : Int)) + (1 : Int))) then (tagW key ((2000 : Int) + ((((4 : Int) * (leaf / (4 : Int))) + (1 : Int)) + (1 : Int))) (g099 (Int.toNat (((((4 : Int) * (leaf / (4 : Int))) + (1 : Int)) + (1 : Int)) / (4 : Int)))) (g0105 (Int.toNat ((((4 : Int) * (leaf / (4 : Int))) + (1 : Int)) + (1 : Int))))) else (if j132 = (Int.toNat (((4 : Int) * (leaf / (4 : Int))) + (1 : Int))) then (tagW key ((2000 : Int) + (((4 : Int) * (leaf / (4 : Int))) + (1 : Int))) (g087 (Int.toNat ((((4 : Int) * (leaf / (4 : Int))) + (1 : Int)) / (4 : Int)))) (g093 (Int.toNat (((4 : Int) * (leaf / (4 : Int))) + (1 : Int))))) else (if j132 = (Int.toNat ((4 : Int) * (leaf / (4 : Int)))) then (tagW key ((2000 : Int) + ((4 : Int) * (leaf / (4 : Int)))) (g075 (Int.toNat (((4 : Int) * (leaf / (4 : Int))) / (4 : Int)))) (g081 (Int.toNat ((4 : Int) * (leaf / (4 : Int)))))) else (tLeafg15 j132)))))))] = [(fun (i133 : Nat) => (SC.int (g0129 i133))), (fun (i134 : Nat) => (SC.int (g1130 i134)))])) ∧
            (((0 ≤ (((((((4 : Int) * (leaf / (4 : Int))) + (1 : Int)) + (1 : Int)) + (1 : Int)) + (1 : Int)) / (4 : Int)) ∧ (((((((4 : Int) * (leaf / (4 : Int))) + (1 : Int)) + (1 : Int)) + (1 : Int)) + (1 : Int)) / (4 : Int)) < ((tMidN : Nat) : Int)) ∧
            ((0 ≤ ((((((4 : Int) * (leaf / (4 : Int))) + (1 : Int)) + (1 : Int)) + (1 : Int)) + (1 : Int)) ∧ ((((((4 : Int) * (leaf / (4 : Int))) + (1 : Int)) + (1 : Int)) + (1 : Int)) + (1 : Int)) < ((tLeafN : Nat) : Int)) ∧
            (tagC ((((((4 : Int) * (leaf / (4 : Int))) + (1 : Int)) + (1 : Int)) + (1 : Int)) + (1 : Int))))) ∧
            (True ∧
            (ro116 = ro116 ∧
            (tLeafN = tLeafN ∧
            ((0 ≤ ((((((4 : Int) * (leaf / (4 : Int))) + (1 : Int)) + (1 : Int)) + (1 : Int)) + (1 : Int)) ∧ ((((((4 : Int) * (leaf / (4 : Int))) + (1 : Int)) + (1 : Int)) + (1 : Int)) + (1 : Int)) < ((tLeafN : Nat) : Int)) ∧
            (ro116 = ro116 ∧
            ((Int.toNat ((((((4 : Int) * (leaf / (4 : Int))) + (1 : Int)) + (1 : Int)) + (1 : Int)) + (1 : Int))) < tLeafN ∧
            (ro116 = ro116 ∧
            ((Int.toNat ((((((4 : Int) * (leaf / (4 : Int))) + (1 : Int)) + (1 : Int)) + (1 : Int)) + (1 : Int))) < tLeafN ∧
            (True ∧
            ((rng (((((((4 : Int) * (leaf / (4 : Int))) + (1 : Int)) + (1 : Int)) + (1 : Int)) + (1 : Int)) + (1 : Int))) ∧
            False)))))))))))))))))))))))) ∧
           ((decide (((((((4 : Int) * (leaf / (4 : Int))) + (1 : Int)) + (1 : Int)) + (1 : Int)) + (1 : Int)) < (((4 : Int) * (leaf / (4 : Int))) + (4 : Int)))) = Bool.false →
           (b18 = b18 ∧
            (b1 = b1 ∧
            (b1 = b1 ∧
            (Exists (fun (ro0135 : (Option Addr)) => (Exists (fun (rc0136 : Nat) => (Exists (fun (ro1137 : (Option Addr)) => (Exists (fun (rc1138 : Nat) => ((Value.tuple (List.toArray [(Value.agg (List.toArray [(Value.int IntKind.i64 (tRoot + (1 : Int))), (Value.slice ro014 tMidN rc015), (Value.slice ro116 tLeafN rc117)])), (Value.bool Bool.true)])) = (Value.tuple (List.toArray [(Value.agg (List.toArray [(Value.int IntKind.i64 (bR key tRoot tMidN tLeafN tMidg0 tMidg1 tLeafg0 tLeafg1 leaf)), (Value.slice ro0135 tMidN rc0136), (Value.slice ro1137 tLeafN rc1138)])), (Value.bool (bOk key tRoot tMidN tLeafN tMidg0 tMidg1 tLeafg0 tLeafg1 leaf))])) ∧
            (((Bool.true = Bool.true ∧
            (ro014 = ro0135 ∧
            (37 = 37 ∧
            (2 = 2 ∧
            (tMidN = tMidN ∧
            (rc015 = rc0136 ∧
            ((∀ i139 : Nat,
            (i139 < tMidN →
            (Value.int IntKind.i64 (if i139 = (Int.toNat (leaf / (4 : Int))) then ((tMidg02 (Int.toNat (leaf / (4 : Int)))) + (1 : Int)) else (tMidg02 i139))) = (Value.int IntKind.i64 (bMc key tRoot tMidN tLeafN tMidg0 tMidg1 tLeafg0 tLeafg1 leaf i139)))) ∧
            ((∀ i140 : Nat,
            (i140 < tMidN →
            (Value.int IntKind.i64 (if i140 = 1 then (tagW key ((1000 : Int) + (1 : Int)) (tRoot + (1 : Int)) (g069 1)) else (if i140 = 0 then (tagW key ((1000 : Int) + (0 : Int)) (tRoot + (1 : Int)) (g063 0)) else (tMidg13 i140)))) = (Value.int IntKind.i64 (bMt key tRoot tMidN tLeafN tMidg0 tMidg1 tLeafg0 tLeafg1 leaf i140)))) ∧
            True)))))))) ∧
            ((Bool.true = Bool.true ∧
            (ro116 = ro1137 ∧
            (37 = 37 ∧
            (2 = 2 ∧
            (tLeafN = tLeafN ∧
            (rc117 = rc1138 ∧
            ((∀ i141 : Nat,
            (i141 < tLeafN →
            (Value.int IntKind.i64 (if i141 = (Int.toNat leaf) then ((tLeafg04 (Int.toNat leaf)) + (1 : Int)) else (tLeafg04 i141))) = (Value.int IntKind.i64 (bLc key tRoot tMidN tLeafN tMidg0 tMidg1 tLeafg0 tLeafg1 leaf i141)))) ∧
            ((∀ i142 : Nat,
            (i142 < tLeafN →
            (Value.int IntKind.i64 (if i142 = (Int.toNat (((((4 : Int) * (leaf / (4 : Int))) + (1 : Int)) + (1 : Int)) + (1 : Int))) then (tagW key ((2000 : Int) + (((((4 : Int) * (leaf / (4 : Int))) + (1 : Int)) + (1 : Int)) + (1 : Int))) (g0111 (Int.toNat ((((((4 : Int) * (leaf / (4 : Int))) + (1 : Int)) + (1 : Int)) + (1 : Int)) / (4 : Int)))) (g0117 (Int.toNat (((((4 : Int) * (leaf / (4 : Int))) + (1 : Int)) + (1 : Int)) + (1 : Int))))) else (if i142 = (Int.toNat ((((4 : Int) * (leaf / (4 : Int))) + (1 : Int)) + (1 : Int))) then (tagW key ((2000 : Int) + ((((4 : Int) * (leaf / (4 : Int))) + (1 : Int)) + (1 : Int))) (g099 (Int.toNat (((((4 : Int) * (leaf / (4 : Int))) + (1 : Int)) + (1 : Int)) / (4 : Int)))) (g0105 (Int.toNat ((((4 : Int) * (leaf / (4 : Int))) + (1 : Int)) + (1 : Int))))) else (if i142 = (Int.toNat (((4 : Int) * (leaf / (4 : Int))) + (1 : Int))) then (tagW key ((2000 : Int) + (((4 : Int) * (leaf / (4 : Int))) + (1 : Int))) (g087 (Int.toNat ((((4 : Int) * (leaf / (4 : Int))) + (1 : Int)) / (4 : Int)))) (g093 (Int.toNat (((4 : Int) * (leaf / (4 : Int))) + (1 : Int))))) else (if i142 = (Int.toNat ((4 : Int) * (leaf / (4 : Int)))) then (tagW key ((2000 : Int) + ((4 : Int) * (leaf / (4 : Int)))) (g075 (Int.toNat (((4 : Int) * (leaf / (4 : Int))) / (4 : Int)))) (g081 (Int.toNat ((4 : Int) * (leaf / (4 : Int)))))) else (tLeafg15 i142)))))) = (Value.int IntKind.i64 (bLt key tRoot tMidN tLeafN tMidg0 tMidg1 tLeafg0 tLeafg1 leaf i142)))) ∧
            True)))))))) ∧
            True)) ∧
            Bool.true = Bool.true))))))))))))))))))))))))))))))))))))))))) ∧
          ((decide ((((((4 : Int) * (leaf / (4 : Int))) + (1 : Int)) + (1 : Int)) + (1 : Int)) < (((4 : Int) * (leaf / (4 : Int))) + (4 : Int)))) = Bool.false →
          (b18 = b18 ∧
           (b1 = b1 ∧
           (b1 = b1 ∧
           (Exists (fun (ro0143 : (Option Addr)) => (Exists (fun (rc0144 : Nat) => (Exists (fun (ro1145 : (Option Addr)) => (Exists (fun (rc1146 : Nat) => ((Value.tuple (List.toArray [(Value.agg (List.toArray [(Value.int IntKind.i64 (tRoot + (1 : Int))), (Value.slice ro014 tMidN rc015), (Value.slice ro116 tLeafN rc117)])), (Value.bool Bool.true)])) = (Value.tuple (List.toArray [(Value.agg (List.toArray [(Value.int IntKind.i64 (bR key tRoot tMidN tLeafN tMidg0 tMidg1 tLeafg0 tLeafg1 leaf)), (Value.slice ro0143 tMidN rc0144), (Value.slice ro1145 tLeafN rc1146)])), (Value.bool (bOk key tRoot tMidN tLeafN tMidg0 tMidg1 tLeafg0 tLeafg1 leaf))])) ∧
           (((Bool.true = Bool.true ∧
           (ro014 = ro0143 ∧
           (37 = 37 ∧
           (2 = 2 ∧
           (tMidN = tMidN ∧
           (rc015 = rc0144 ∧
           ((∀ i147 : Nat,
           (i147 < tMidN →
           (Value.int IntKind.i64 (if i147 = (Int.toNat (leaf / (4 : Int))) then ((tMidg02 (Int.toNat (leaf / (4 : Int)))) + (1 : Int)) else (tMidg02 i147))) = (Value.int IntKind.i64 (bMc key tRoot tMidN tLeafN tMidg0 tMidg1 tLeafg0 tLeafg1 leaf i147)))) ∧
           ((∀ i148 : Nat,
           (i148 < tMidN →
           (Value.int IntKind.i64 (if i148 = 1 then (tagW key ((1000 : Int) + (1 : Int)) (tRoot + (1 : Int)) (g069 1)) else (if i148 = 0 then (tagW key ((1000 : Int) + (0 : Int)) (tRoot + (1 : Int)) (g063 0)) else (tMidg13 i148)))) = (Value.int IntKind.i64 (bMt key tRoot tMidN tLeafN tMidg0 tMidg1 tLeafg0 tLeafg1 leaf i148)))) ∧
           True)))))))) ∧
           ((Bool.true = Bool.true ∧
           (ro116 = ro1145 ∧
           (37 = 37 ∧
           (2 = 2 ∧
           (tLeafN = tLeafN ∧
           (rc117 = rc1146 ∧
           ((∀ i149 : Nat,
           (i149 < tLeafN →
           (Value.int IntKind.i64 (if i149 = (Int.toNat leaf) then ((tLeafg04 (Int.toNat leaf)) + (1 : Int)) else (tLeafg04 i149))) = (Value.int IntKind.i64 (bLc key tRoot tMidN tLeafN tMidg0 tMidg1 tLeafg0 tLeafg1 leaf i149)))) ∧
           ((∀ i150 : Nat,
           (i150 < tLeafN →
           (Value.int IntKind.i64 (if i150 = (Int.toNat ((((4 : Int) * (leaf / (4 : Int))) + (1 : Int)) + (1 : Int))) then (tagW key ((2000 : Int) + ((((4 : Int) * (leaf / (4 : Int))) + (1 : Int)) + (1 : Int))) (g099 (Int.toNat (((((4 : Int) * (leaf / (4 : Int))) + (1 : Int)) + (1 : Int)) / (4 : Int)))) (g0105 (Int.toNat ((((4 : Int) * (leaf / (4 : Int))) + (1 : Int)) + (1 : Int))))) else (if i150 = (Int.toNat (((4 : Int) * (leaf / (4 : Int))) + (1 : Int))) then (tagW key ((2000 : Int) + (((4 : Int) * (leaf / (4 : Int))) + (1 : Int))) (g087 (Int.toNat ((((4 : Int) * (leaf / (4 : Int))) + (1 : Int)) / (4 : Int)))) (g093 (Int.toNat (((4 : Int) * (leaf / (4 : Int))) + (1 : Int))))) else (if i150 = (Int.toNat ((4 : Int) * (leaf / (4 : Int)))) then (tagW key ((2000 : Int) + ((4 : Int) * (leaf / (4 : Int)))) (g075 (Int.toNat (((4 : Int) * (leaf / (4 : Int))) / (4 : Int)))) (g081 (Int.toNat ((4 : Int) * (leaf / (4 : Int)))))) else (tLeafg15 i150))))) = (Value.int IntKind.i64 (bLt key tRoot tMidN tLeafN tMidg0 tMidg1 tLeafg0 tLeafg1 leaf i150)))) ∧
           True)))))))) ∧
           True)) ∧
           Bool.true = Bool.true))))))))))))))))))))))))))))))))))))))))) ∧
         ((decide (((((4 : Int) * (leaf / (4 : Int))) + (1 : Int)) + (1 : Int)) < (((4 : Int) * (leaf / (4 : Int))) + (4 : Int)))) = Bool.false →
         (b18 = b18 ∧
          (b1 = b1 ∧
          (b1 = b1 ∧
          (Exists (fun (ro0151 : (Option Addr)) => (Exists (fun (rc0152 : Nat) => (Exists (fun (ro1153 : (Option Addr)) => (Exists (fun (rc1154 : Nat) => ((Value.tuple (List.toArray [(Value.agg (List.toArray [(Value.int IntKind.i64 (tRoot + (1 : Int))), (Value.slice ro014 tMidN rc015), (Value.slice ro116 tLeafN rc117)])), (Value.bool Bool.true)])) = (Value.tuple (List.toArray [(Value.agg (List.toArray [(Value.int IntKind.i64 (bR key tRoot tMidN tLeafN tMidg0 tMidg1 tLeafg0 tLeafg1 leaf)), (Value.slice ro0151 tMidN rc0152), (Value.slice ro1153 tLeafN rc1154)])), (Value.bool (bOk key tRoot tMidN tLeafN tMidg0 tMidg1 tLeafg0 tLeafg1 leaf))])) ∧
          (((Bool.true = Bool.true ∧
          (ro014 = ro0151 ∧
          (37 = 37 ∧
          (2 = 2 ∧
          (tMidN = tMidN ∧
          (rc015 = rc0152 ∧
          ((∀ i155 : Nat,
          (i155 < tMidN →
          (Value.int IntKind.i64 (if i155 = (Int.toNat (leaf / (4 : Int))) then ((tMidg02 (Int.toNat (leaf / (4 : Int)))) + (1 : Int)) else (tMidg02 i155))) = (Value.int IntKind.i64 (bMc key tRoot tMidN tLeafN tMidg0 tMidg1 tLeafg0 tLeafg1 leaf i155)))) ∧
          ((∀ i156 : Nat,
          (i156 < tMidN →
          (Value.int IntKind.i64 (if i156 = 1 then (tagW key ((1000 : Int) + (1 : Int)) (tRoot + (1 : Int)) (g069 1)) else (if i156 = 0 then (tagW key ((1000 : Int) + (0 : Int)) (tRoot + (1 : Int)) (g063 0)) else (tMidg13 i156)))) = (Value.int IntKind.i64 (bMt key tRoot tMidN tLeafN tMidg0 tMidg1 tLeafg0 tLeafg1 leaf i156)))) ∧
          True)))))))) ∧
          ((Bool.true = Bool.true ∧
          (ro116 = ro1153 ∧
          (37 = 37 ∧
          (2 = 2 ∧
          (tLeafN = tLeafN ∧
          (rc117 = rc1154 ∧
          ((∀ i157 : Nat,
          (i157 < tLeafN →
          (Value.int IntKind.i64 (if i157 = (Int.toNat leaf) then ((tLeafg04 (Int.toNat leaf)) + (1 : Int)) else (tLeafg04 i157))) = (Value.int IntKind.i64 (bLc key tRoot tMidN tLeafN tMidg0 tMidg1 tLeafg0 tLeafg1 leaf i157)))) ∧
          ((∀ i158 : Nat,
          (i158 < tLeafN →
          (Value.int IntKind.i64 (if i158 = (Int.toNat (((4 : Int) * (leaf / (4 : Int))) + (1 : Int))) then (tagW key ((2000 : Int) + (((4 : Int) * (leaf / (4 : Int))) + (1 : Int))) (g087 (Int.toNat ((((4 : Int) * (leaf / (4 : Int))) + (1 : Int)) / (4 : Int)))) (g093 (Int.toNat (((4 : Int) * (leaf / (4 : Int))) + (1 : Int))))) else (if i158 = (Int.toNat ((4 : Int) * (leaf / (4 : Int)))) then (tagW key ((2000 : Int) + ((4 : Int) * (leaf / (4 : Int)))) (g075 (Int.toNat (((4 : Int) * (leaf / (4 : Int))) / (4 : Int)))) (g081 (Int.toNat ((4 : Int) * (leaf / (4 : Int)))))) else (tLeafg15 i158)))) = (Value.int IntKind.i64 (bLt key tRoot tMidN tLeafN tMidg0 tMidg1 tLeafg0 tLeafg1 leaf i158)))) ∧
          True)))))))) ∧
          True)) ∧
          Bool.true = Bool.true))))))))))))))))))))))))))))))))))))))))) ∧
        ((decide ((((4 : Int) * (leaf / (4 : Int))) + (1 : Int)) < (((4 : Int) * (leaf / (4 : Int))) + (4 : Int)))) = Bool.false →
        (b18 = b18 ∧
         (b1 = b1 ∧
         (b1 = b1 ∧
         (Exists (fun (ro0159 : (Option Addr)) => (Exists (fun (rc0160 : Nat) => (Exists (fun (ro1161 : (Option Addr)) => (Exists (fun (rc1162 : Nat) => ((Value.tuple (List.toArray [(Value.agg (List.toArray [(Value.int IntKind.i64 (tRoot + (1 : Int))), (Value.slice ro014 tMidN rc015), (Value.slice ro116 tLeafN rc117)])), (Value.bool Bool.true)])) = (Value.tuple (List.toArray [(Value.agg (List.toArray [(Value.int IntKind.i64 (bR key tRoot tMidN tLeafN tMidg0 tMidg1 tLeafg0 tLeafg1 leaf)), (Value.slice ro0159 tMidN rc0160), (Value.slice ro1161 tLeafN rc1162)])), (Value.bool (bOk key tRoot tMidN tLeafN tMidg0 tMidg1 tLeafg0 tLeafg1 leaf))])) ∧
         (((Bool.true = Bool.true ∧
         (ro014 = ro0159 ∧
         (37 = 37 ∧
         (2 = 2 ∧
         (tMidN = tMidN ∧
         (rc015 = rc0160 ∧
         ((∀ i163 : Nat,
         (i163 < tMidN →
         (Value.int IntKind.i64 (if i163 = (Int.toNat (leaf / (4 : Int))) then ((tMidg02 (Int.toNat (leaf / (4 : Int)))) + (1 : Int)) else (tMidg02 i163))) = (Value.int IntKind.i64 (bMc key tRoot tMidN tLeafN tMidg0 tMidg1 tLeafg0 tLeafg1 leaf i163)))) ∧
         ((∀ i164 : Nat,
         (i164 < tMidN →
         (Value.int IntKind.i64 (if i164 = 1 then (tagW key ((1000 : Int) + (1 : Int)) (tRoot + (1 : Int)) (g069 1)) else (if i164 = 0 then (tagW key ((1000 : Int) + (0 : Int)) (tRoot + (1 : Int)) (g063 0)) else (tMidg13 i164)))) = (Value.int IntKind.i64 (bMt key tRoot tMidN tLeafN tMidg0 tMidg1 tLeafg0 tLeafg1 leaf i164)))) ∧
         True)))))))) ∧
         ((Bool.true = Bool.true ∧
         (ro116 = ro1161 ∧
         (37 = 37 ∧
         (2 = 2 ∧
         (tLeafN = tLeafN ∧
         (rc117 = rc1162 ∧
         ((∀ i165 : Nat,
         (i165 < tLeafN →
         (Value.int IntKind.i64 (if i165 = (Int.toNat leaf) then ((tLeafg04 (Int.toNat leaf)) + (1 : Int)) else (tLeafg04 i165))) = (Value.int IntKind.i64 (bLc key tRoot tMidN tLeafN tMidg0 tMidg1 tLeafg0 tLeafg1 leaf i165)))) ∧
         ((∀ i166 : Nat,
         (i166 < tLeafN →
         (Value.int IntKind.i64 (if i166 = (Int.toNat ((4 : Int) * (leaf / (4 : Int)))) then (tagW key ((2000 : Int) + ((4 : Int) * (leaf / (4 : Int)))) (g075 (Int.toNat (((4 : Int) * (leaf / (4 : Int))) / (4 : Int)))) (g081 (Int.toNat ((4 : Int) * (leaf / (4 : Int)))))) else (tLeafg15 i166))) = (Value.int IntKind.i64 (bLt key tRoot tMidN tLeafN tMidg0 tMidg1 tLeafg0 tLeafg1 leaf i166)))) ∧
         True)))))))) ∧
         True)) ∧
         Bool.true = Bool.true))))))))))))))))))))))))))))))))))))))))) ∧
       ((decide (((4 : Int) * (leaf / (4 : Int))) < (((4 : Int) * (leaf / (4 : Int))) + (4 : Int)))) = Bool.false →
       (b18 = b18 ∧
        (b1 = b1 ∧
        (b1 = b1 ∧
        (Exists (fun (ro0167 : (Option Addr)) => (Exists (fun (rc0168 : Nat) => (Exists (fun (ro1169 : (Option Addr)) => (Exists (fun (rc1170 : Nat) => ((Value.tuple (List.toArray [(Value.agg (List.toArray [(Value.int IntKind.i64 (tRoot + (1 : Int))), (Value.slice ro014 tMidN rc015), (Value.slice ro116 tLeafN rc117)])), (Value.bool Bool.true)])) = (Value.tuple (List.toArray [(Value.agg (List.toArray [(Value.int IntKind.i64 (bR key tRoot tMidN tLeafN tMidg0 tMidg1 tLeafg0 tLeafg1 leaf)), (Value.slice ro0167 tMidN rc0168), (Value.slice ro1169 tLeafN rc1170)])), (Value.bool (bOk key tRoot tMidN tLeafN tMidg0 tMidg1 tLeafg0 tLeafg1 leaf))])) ∧
        (((Bool.true = Bool.true ∧
        (ro014 = ro0167 ∧
        (37 = 37 ∧
        (2 = 2 ∧
        (tMidN = tMidN ∧
        (rc015 = rc0168 ∧
        ((∀ i171 : Nat,
        (i171 < tMidN →
        (Value.int IntKind.i64 (if i171 = (Int.toNat (leaf / (4 : Int))) then ((tMidg02 (Int.toNat (leaf / (4 : Int)))) + (1 : Int)) else (tMidg02 i171))) = (Value.int IntKind.i64 (bMc key tRoot tMidN tLeafN tMidg0 tMidg1 tLeafg0 tLeafg1 leaf i171)))) ∧
        ((∀ i172 : Nat,
        (i172 < tMidN →
        (Value.int IntKind.i64 (if i172 = 1 then (tagW key ((1000 : Int) + (1 : Int)) (tRoot + (1 : Int)) (g069 1)) else (if i172 = 0 then (tagW key ((1000 : Int) + (0 : Int)) (tRoot + (1 : Int)) (g063 0)) else (tMidg13 i172)))) = (Value.int IntKind.i64 (bMt key tRoot tMidN tLeafN tMidg0 tMidg1 tLeafg0 tLeafg1 leaf i172)))) ∧
        True)))))))) ∧
        ((Bool.true = Bool.true ∧
        (ro116 = ro1169 ∧
        (37 = 37 ∧
        (2 = 2 ∧
        (tLeafN = tLeafN ∧
        (rc117 = rc1170 ∧
        ((∀ i173 : Nat,
        (i173 < tLeafN →
        (Value.int IntKind.i64 (if i173 = (Int.toNat leaf) then ((tLeafg04 (Int.toNat leaf)) + (1 : Int)) else (tLeafg04 i173))) = (Value.int IntKind.i64 (bLc key tRoot tMidN tLeafN tMidg0 tMidg1 tLeafg0 tLeafg1 leaf i173)))) ∧
        ((∀ i174 : Nat,
        (i174 < tLeafN →
        (Value.int IntKind.i64 (tLeafg15 i174)) = (Value.int IntKind.i64 (bLt key tRoot tMidN tLeafN tMidg0 tMidg1 tLeafg0 tLeafg1 leaf i174)))) ∧
        True)))))))) ∧
        True)) ∧
        Bool.true = Bool.true))))))))))))))))))))))))))))))))))))))))))))))))))))))))))))))) ∧
     ((!(btw (if (Int.toNat (leaf / (4 : Int))) = (Int.toNat (leaf / (4 : Int))) then ((tMidg02 (Int.toNat (leaf / (4 : Int)))) + (1 : Int)) else (tMidg02 (Int.toNat (leaf / (4 : Int))))) (0 : Int) (1000000000 : Int))) = Bool.true →
     (b0 = b0 ∧
      (Exists (fun (tMidg0175 : (Nat →
      Int)) => (Exists (fun (tMidg1176 : (Nat →
      Int)) => (Exists (fun (tLeafg0177 : (Nat →
      Int)) => (Exists (fun (tLeafg1178 : (Nat →
      Int)) => ((tMidO = tMidO ∧
      (tMidN = tMidN ∧
      ([(fun (i179 : Nat) => (SC.int (tMidg0 i179))), (fun (i180 : Nat) => (SC.int (tMidg1 i180)))] = [(fun (i181 : Nat) => (SC.int (tMidg0175 i181))), (fun (i182 : Nat) => (SC.int (tMidg1176 i182)))] ∧
      (tLeafO = tLeafO ∧
      (tLeafN = tLeafN ∧
      ([(fun (i183 : Nat) => (SC.int (tLeafg0 i183))), (fun (i184 : Nat) => (SC.int (tLeafg1 i184)))] = [(fun (i185 : Nat) => (SC.int (tLeafg0177 i185))), (fun (i186 : Nat) => (SC.int (tLeafg1178 i186)))] ∧
      ((capC tMidN) ∧
      (capC tLeafN)))))))) ∧
      (∀ ro0187 : (Option Addr),
      (∀ rc0188 : Nat,
      (∀ ro1189 : (Option Addr),
      (∀ rc1190 : Nat,
      (b1 = b1 ∧
      (b1 = b1 ∧
      (Exists (fun (ro0191 : (Option Addr)) => (Exists (fun (rc0192 : Nat) => (Exists (fun (ro1193 : (Option Addr)) => (Exists (fun (rc1194 : Nat) => ((Value.tuple (List.toArray [(Value.agg (List.toArray [(Value.int IntKind.i64 tRoot), (Value.slice ro0187 tMidN rc0188), (Value.slice ro1189 tLeafN rc1190)])), (Value.bool Bool.false)])) = (Value.tuple (List.toArray [(Value.agg (List.toArray [(Value.int IntKind.i64 (bR key tRoot tMidN tLeafN tMidg0 tMidg1 tLeafg0 tLeafg1 leaf)), (Value.slice ro0191 tMidN rc0192), (Value.slice ro1193 tLeafN rc1194)])), (Value.bool (bOk key tRoot tMidN tLeafN tMidg0 tMidg1 tLeafg0 tLeafg1 leaf))])) ∧
      (((Bool.true = Bool.true ∧
      (ro0187 = ro0191 ∧
      (37 = 37 ∧
      (2 = 2 ∧
      (tMidN = tMidN ∧
      (rc0188 = rc0192 ∧
      ((∀ i195 : Nat,
      (i195 < tMidN →
      (Value.int IntKind.i64 (tMidg0175 i195)) = (Value.int IntKind.i64 (bMc key tRoot tMidN tLeafN tMidg0 tMidg1 tLeafg0 tLeafg1 leaf i195)))) ∧
      ((∀ i196 : Nat,
      (i196 < tMidN →
      (Value.int IntKind.i64 (tMidg1176 i196)) = (Value.int IntKind.i64 (bMt key tRoot tMidN tLeafN tMidg0 tMidg1 tLeafg0 tLeafg1 leaf i196)))) ∧
      True)))))))) ∧
      ((Bool.true = Bool.true ∧
      (ro1189 = ro1193 ∧
      (37 = 37 ∧
      (2 = 2 ∧
      (tLeafN = tLeafN ∧
      (rc1190 = rc1194 ∧
      ((∀ i197 : Nat,
      (i197 < tLeafN →
      (Value.int IntKind.i64 (tLeafg0177 i197)) = (Value.int IntKind.i64 (bLc key tRoot tMidN tLeafN tMidg0 tMidg1 tLeafg0 tLeafg1 leaf i197)))) ∧
      ((∀ i198 : Nat,
      (i198 < tLeafN →
      (Value.int IntKind.i64 (tLeafg1178 i198)) = (Value.int IntKind.i64 (bLt key tRoot tMidN tLeafN tMidg0 tMidg1 tLeafg0 tLeafg1 leaf i198)))) ∧
      True)))))))) ∧
      True)) ∧
      Bool.true = Bool.true))))))))))))))))))))))))))))))))))))) ∧
    ((!(btw (tRoot + (1 : Int)) (0 : Int) (1000000000 : Int))) = Bool.true →
    (b0 = b0 ∧
     (Exists (fun (tMidg0199 : (Nat →
     Int)) => (Exists (fun (tMidg1200 : (Nat →
     Int)) => (Exists (fun (tLeafg0201 : (Nat →
     Int)) => (Exists (fun (tLeafg1202 : (Nat →
     Int)) => ((tMidO = tMidO ∧
     (tMidN = tMidN ∧
     ([(fun (i203 : Nat) => (SC.int (tMidg0 i203))), (fun (i204 : Nat) => (SC.int (tMidg1 i204)))] = [(fun (i205 : Nat) => (SC.int (tMidg0199 i205))), (fun (i206 : Nat) => (SC.int (tMidg1200 i206)))] ∧
     (tLeafO = tLeafO ∧
     (tLeafN = tLeafN ∧
     ([(fun (i207 : Nat) => (SC.int (tLeafg0 i207))), (fun (i208 : Nat) => (SC.int (tLeafg1 i208)))] = [(fun (i209 : Nat) => (SC.int (tLeafg0201 i209))), (fun (i210 : Nat) => (SC.int (tLeafg1202 i210)))] ∧
     ((capC tMidN) ∧
     (capC tLeafN)))))))) ∧
     (∀ ro0211 : (Option Addr),
     (∀ rc0212 : Nat,
     (∀ ro1213 : (Option Addr),
     (∀ rc1214 : Nat,
     (b1 = b1 ∧
     (b1 = b1 ∧
     (Exists (fun (ro0215 : (Option Addr)) => (Exists (fun (rc0216 : Nat) => (Exists (fun (ro1217 : (Option Addr)) => (Exists (fun (rc1218 : Nat) => ((Value.tuple (List.toArray [(Value.agg (List.toArray [(Value.int IntKind.i64 tRoot), (Value.slice ro0211 tMidN rc0212), (Value.slice ro1213 tLeafN rc1214)])), (Value.bool Bool.false)])) = (Value.tuple (List.toArray [(Value.agg (List.toArray [(Value.int IntKind.i64 (bR key tRoot tMidN tLeafN tMidg0 tMidg1 tLeafg0 tLeafg1 leaf)), (Value.slice ro0215 tMidN rc0216), (Value.slice ro1217 tLeafN rc1218)])), (Value.bool (bOk key tRoot tMidN tLeafN tMidg0 tMidg1 tLeafg0 tLeafg1 leaf))])) ∧
     (((Bool.true = Bool.true ∧
     (ro0211 = ro0215 ∧
     (37 = 37 ∧
     (2 = 2 ∧
     (tMidN = tMidN ∧
     (rc0212 = rc0216 ∧
     ((∀ i219 : Nat,
     (i219 < tMidN →
     (Value.int IntKind.i64 (tMidg0199 i219)) = (Value.int IntKind.i64 (bMc key tRoot tMidN tLeafN tMidg0 tMidg1 tLeafg0 tLeafg1 leaf i219)))) ∧
     ((∀ i220 : Nat,
     (i220 < tMidN →
     (Value.int IntKind.i64 (tMidg1200 i220)) = (Value.int IntKind.i64 (bMt key tRoot tMidN tLeafN tMidg0 tMidg1 tLeafg0 tLeafg1 leaf i220)))) ∧
     True)))))))) ∧
     ((Bool.true = Bool.true ∧
     (ro1213 = ro1217 ∧
     (37 = 37 ∧
     (2 = 2 ∧
     (tLeafN = tLeafN ∧
     (rc1214 = rc1218 ∧
     ((∀ i221 : Nat,
     (i221 < tLeafN →
     (Value.int IntKind.i64 (tLeafg0201 i221)) = (Value.int IntKind.i64 (bLc key tRoot tMidN tLeafN tMidg0 tMidg1 tLeafg0 tLeafg1 leaf i221)))) ∧
     ((∀ i222 : Nat,
     (i222 < tLeafN →
     (Value.int IntKind.i64 (tLeafg1202 i222)) = (Value.int IntKind.i64 (bLt key tRoot tMidN tLeafN tMidg0 tMidg1 tLeafg0 tLeafg1 leaf i222)))) ∧
     True)))))))) ∧
     True)) ∧
     Bool.true = Bool.true)))))))))))))))))))))))))))))))))))))))))))))))))))))))))))))))))))))))) ∧
  ((!(treeB key tRoot tMidN tLeafN tMidg019 tMidg120 tLeafg021 tLeafg122)) = Bool.true →
  (b18 = b18 ∧
   (b1 = b1 ∧
   (b1 = b1 ∧
   (Exists (fun (ro0223 : (Option Addr)) => (Exists (fun (rc0224 : Nat) => (Exists (fun (ro1225 : (Option Addr)) => (Exists (fun (rc1226 : Nat) => ((Value.tuple (List.toArray [(Value.agg (List.toArray [(Value.int IntKind.i64 tRoot), (Value.slice ro014 tMidN rc015), (Value.slice ro116 tLeafN rc117)])), (Value.bool Bool.false)])) = (Value.tuple (List.toArray [(Value.agg (List.toArray [(Value.int IntKind.i64 (bR key tRoot tMidN tLeafN tMidg0 tMidg1 tLeafg0 tLeafg1 leaf)), (Value.slice ro0223 tMidN rc0224), (Value.slice ro1225 tLeafN rc1226)])), (Value.bool (bOk key tRoot tMidN tLeafN tMidg0 tMidg1 tLeafg0 tLeafg1 leaf))])) ∧
   (((Bool.true = Bool.true ∧
   (ro014 = ro0223 ∧
   (37 = 37 ∧
   (2 = 2 ∧
   (tMidN = tMidN ∧
   (rc015 = rc0224 ∧
   ((∀ i227 : Nat,
   (i227 < tMidN →
   (Value.int IntKind.i64 (tMidg02 i227)) = (Value.int IntKind.i64 (bMc key tRoot tMidN tLeafN tMidg0 tMidg1 tLeafg0 tLeafg1 leaf i227)))) ∧
   ((∀ i228 : Nat,
   (i228 < tMidN →
   (Value.int IntKind.i64 (tMidg13 i228)) = (Value.int IntKind.i64 (bMt key tRoot tMidN tLeafN tMidg0 tMidg1 tLeafg0 tLeafg1 leaf i228)))) ∧
   True)))))))) ∧
   ((Bool.true = Bool.true ∧
   (ro116 = ro1225 ∧
   (37 = 37 ∧
   (2 = 2 ∧
   (tLeafN = tLeafN ∧
   (rc117 = rc1226 ∧
   ((∀ i229 : Nat,
   (i229 < tLeafN →
   (Value.int IntKind.i64 (tLeafg04 i229)) = (Value.int IntKind.i64 (bLc key tRoot tMidN tLeafN tMidg0 tMidg1 tLeafg0 tLeafg1 leaf i229)))) ∧
   ((∀ i230 : Nat,
   (i230 < tLeafN →
   (Value.int IntKind.i64 (tLeafg15 i230)) = (Value.int IntKind.i64 (bLt key tRoot tMidN tLeafN tMidg0 tMidg1 tLeafg0 tLeafg1 leaf i230)))) ∧
   True)))))))) ∧
   True)) ∧
   Bool.true = Bool.true)))))))))))))))))))))))))))))))))))))))))))) := by kernel_rfl
theorem bumpS_any (key : Int) (tRoot : Int) (tMidO : Option Addr) (tMidN tMidC : Nat) (tMidg0 tMidg1 : Nat → Int) (tLeafO : Option Addr) (tLeafN tLeafC : Nat) (tLeafg0 tLeafg1 : Nat → Int) (leaf : Int) (w : World) (hrtMid : Row.sat w ⟨false, tMidO, 0, 2, tMidN, 0, [fun i => .int (tMidg0 i), fun i => .int (tMidg1 i)]⟩) (hrtLeaf : Row.sat w ⟨false, tLeafO, 0, 2, tLeafN, 0, [fun i => .int (tLeafg0 i), fun i => .int (tLeafg1 i)]⟩) (hpre : capC tMidN ∧ capC tLeafN) : Calls Try.prog 16 #[.int .i64 key, .agg #[.int .i64 tRoot, .slice tMidO tMidN tMidC, .slice tLeafO tLeafN tLeafC], .int .i64 leaf] w fun e w' => ∃ (ro0 : Option Addr) (rc0 : Nat) (ro1 : Option Addr) (rc1 : Nat), e = .returned (.tuple #[.agg #[.int .i64 (bR key tRoot tMidN tLeafN tMidg0 tMidg1 tLeafg0 tLeafg1 leaf), .slice ro0 (tMidN) rc0, .slice ro1 (tLeafN) rc1], .bool (bOk key tRoot tMidN tLeafN tMidg0 tMidg1 tLeafg0 tLeafg1 leaf)]) ∧ HS ⟨w, fun _ => False⟩ [.row ⟨true, ro0, 37, 2, tMidN, rc0, [fun i => .int (bMc key tRoot tMidN tLeafN tMidg0 tMidg1 tLeafg0 tLeafg1 leaf i), fun i => .int (bMt key tRoot tMidN tLeafN tMidg0 tMidg1 tLeafg0 tLeafg1 leaf i)]⟩, .row ⟨true, ro1, 37, 2, tLeafN, rc1, [fun i => .int (bLc key tRoot tMidN tLeafN tMidg0 tMidg1 tLeafg0 tLeafg1 leaf i), fun i => .int (bLt key tRoot tMidN tLeafN tMidg0 tMidg1 tLeafg0 tLeafg1 leaf i)]⟩] w' := by
  refine fnB (tb := [(37, sCopyT), (39, sBtw), (38, sTOk), (35, sMidT), (36, sLeafT), (40, iNumber)]) (R' := [(15, 5)]) ⟨sCopyT_ok_copyS, sBtwS_ok, sTOk_ok_okS, sMidT_spec, sLeafT_spec, iNumber_ok, trivial⟩ Try.func16 (@Eq.mpr _ _ (bumpS_T key tRoot tMidO tMidN tMidC tMidg0 tMidg1 tLeafO tLeafN tLeafC tLeafg0 tLeafg1 leaf) ?_) (HS.rows (fun _ => False) [⟨false, tMidO, 0, 2, tMidN, 0, [fun i => .int (tMidg0 i), fun i => .int (tMidg1 i)]⟩, ⟨false, tLeafO, 0, 2, tLeafN, 0, [fun i => .int (tLeafg0 i), fun i => .int (tLeafg1 i)]⟩] (by simp; exact ⟨hrtMid, hrtLeaf⟩)) (fun v ch' w' ⟨ro0, rc0, ro1, rc1, hk⟩ hs => ⟨ro0, rc0, ro1, rc1, by rw [hk.1], hk.hs hs⟩)
  clear hrtMid hrtLeaf
  by_cases hok : bOk key tRoot tMidN tLeafN tMidg0 tMidg1 tLeafg0 tLeafg1 leaf = true
  · obtain ⟨hb, ht, h1, h2, h3⟩ := bOk_facts hok
    obtain ⟨hn, hm, hr, hmc, hlc⟩ := treeB_facts ht
    subst hn
    subst hm
    have hl : leaf = 0 ∨ leaf = 1 ∨ leaf = 2 ∨ leaf = 3 ∨ leaf = 4 ∨ leaf = 5 ∨ leaf = 6 ∨ leaf = 7 := by omega
    have m0 := hmc 0 (by omega)
    have m1 := hmc 1 (by omega)
    have l0 := hlc 0 (by omega)
    have l1 := hlc 1 (by omega)
    have l2 := hlc 2 (by omega)
    have l3 := hlc 3 (by omega)
    have l4 := hlc 4 (by omega)
    have l5 := hlc 5 (by omega)
    have l6 := hlc 6 (by omega)
    have l7 := hlc 7 (by omega)
    have hbt := btw_yes hb
    rcases hl with rfl | rfl | rfl | rfl | rfl | rfl | rfl | rfl
    all_goals simp at h2 h3
    all_goals
      repeat' (first
        | with_reducible exact rfl
        | exact True.intro
        | assumption
        | refine And.intro ?_ ?_
        | apply Exists.intro
        | (refine nbT fun h => ?_; exfalso; simp at h; omega)
        | (refine nbF fun h => ?_; exfalso; simp at h; omega)
        | (refine nbT fun h => ?_; (try simp only [↓reduceIte] at h))
        | (refine nbF fun h => ?_; (try simp only [↓reduceIte] at h))
        | (refine dT fun h => ?_; exfalso; simp at h; omega)
        | (refine dF fun h => ?_; exfalso; simp at h; omega)
        | (refine dT fun h => ?_; (try simp only [↓reduceIte] at h))
        | (refine dF fun h => ?_; (try simp only [↓reduceIte] at h))
        | (intro h; exfalso; simp [hbt, ht] at h; done)
        | intro _
        | omega
        | (simp; omega))
    all_goals first
      | (simp [bR, hok]; done)
      | (rename_i i hi; have hi2 : i = 0 ∨ i = 1 := (by omega); rcases hi2 with rfl | rfl <;> simp [bMc, bMt, bR, hok]; done)
      | (rename_i i hi; have hi2 : i = 0 ∨ i = 1 ∨ i = 2 ∨ i = 3 ∨ i = 4 ∨ i = 5 ∨ i = 6 ∨ i = 7 := (by omega); rcases hi2 with rfl | rfl | rfl | rfl | rfl | rfl | rfl | rfl <;> simp [bMc, bLc, bLt, hok]; done)
  · have hok : bOk key tRoot tMidN tLeafN tMidg0 tMidg1 tLeafg0 tLeafg1 leaf = false := by simpa using hok
    by_cases hbt : btw leaf 0 7 = true
    · by_cases ht : treeB key tRoot tMidN tLeafN tMidg0 tMidg1 tLeafg0 tLeafg1 = true
      · obtain ⟨hn, hm, hr, hmc, hlc⟩ := treeB_facts ht
        subst hn
        subst hm
        have hb := btw_facts hbt
        have m0 := hmc (leaf / 4).toNat (by omega)
        have l0 := hlc leaf.toNat (by omega)
        have hbad : tRoot + 1 > 1000000000 ∨ tMidg0 (leaf / 4).toNat + 1 > 1000000000 ∨ tLeafg0 leaf.toNat + 1 > 1000000000 := by
          simp [bOk, hbt, ht] at hok
          omega
        repeat' (first
          | with_reducible exact rfl
          | exact True.intro
          | assumption
          | refine And.intro ?_ ?_
          | apply Exists.intro
          | (refine nbT fun h => ?_; exfalso; simp at h; omega)
          | (refine nbF fun h => ?_; exfalso; simp at h; omega)
          | (refine nbT fun h => ?_; (try simp only [↓reduceIte] at h))
          | (refine nbF fun h => ?_; (try simp only [↓reduceIte] at h))
          | (refine dT fun h => ?_; exfalso; simp at h; omega)
          | (refine dF fun h => ?_; exfalso; simp at h; omega)
          | (refine dT fun h => ?_; (try simp only [↓reduceIte] at h))
          | (refine dF fun h => ?_; (try simp only [↓reduceIte] at h))
          | (intro h; exfalso; simp [hbt, ht] at h; done)
          | intro _
          | omega
          | (simp; omega))
        all_goals simp [bR, bMc, bMt, bLc, bLt, hok]
      · have ht : treeB key tRoot tMidN tLeafN tMidg0 tMidg1 tLeafg0 tLeafg1 = false := by simpa using ht
        repeat' (first
          | with_reducible exact rfl
          | exact True.intro
          | assumption
          | refine And.intro ?_ ?_
          | apply Exists.intro
          | (refine nbT fun h => ?_; exfalso; simp at h; omega)
          | (refine nbF fun h => ?_; exfalso; simp at h; omega)
          | (refine nbT fun h => ?_; (try simp only [↓reduceIte] at h))
          | (refine nbF fun h => ?_; (try simp only [↓reduceIte] at h))
          | (refine dT fun h => ?_; exfalso; simp at h; omega)
          | (refine dF fun h => ?_; exfalso; simp at h; omega)
          | (refine dT fun h => ?_; (try simp only [↓reduceIte] at h))
          | (refine dF fun h => ?_; (try simp only [↓reduceIte] at h))
          | (intro h; exfalso; simp [hbt, ht] at h; done)
          | intro _
          | omega
          | (simp; omega))
        all_goals simp [bR, bMc, bMt, bLc, bLt, hok]
    · have hbt : btw leaf 0 7 = false := by simpa using hbt
      have hb := btw_nay hbt
      have ht : True := True.intro
      repeat' (first
        | with_reducible exact rfl
        | exact True.intro
        | assumption
        | refine And.intro ?_ ?_
        | apply Exists.intro
        | (refine nbT fun h => ?_; exfalso; simp at h; omega)
        | (refine nbF fun h => ?_; exfalso; simp at h; omega)
        | (refine nbT fun h => ?_; (try simp only [↓reduceIte] at h))
        | (refine nbF fun h => ?_; (try simp only [↓reduceIte] at h))
        | (refine dT fun h => ?_; exfalso; simp at h; omega)
        | (refine dF fun h => ?_; exfalso; simp at h; omega)
        | (refine dT fun h => ?_; (try simp only [↓reduceIte] at h))
        | (refine dF fun h => ?_; (try simp only [↓reduceIte] at h))
        | (intro h; exfalso; simp [hbt, ht] at h; done)
        | intro _
        | omega
        | (simp; omega))
      all_goals simp [bR, bMc, bMt, bLc, bLt, hok]
theorem sBump_ok_bumpS : SmOK Try.prog 16 sBump := sBump_ok Try.call16 (fun key tRoot tMidO tMidN tMidC tMidg0 tMidg1 tLeafO tLeafN tLeafC tLeafg0 tLeafg1 leaf w h0 h1 hp => bumpS_any key tRoot tMidO tMidN tMidC tMidg0 tMidg1 tLeafO tLeafN tLeafC tLeafg0 tLeafg1 leaf w h0 h1 hp)
end Go.Proofs.Ytppeocfcdeiemaa

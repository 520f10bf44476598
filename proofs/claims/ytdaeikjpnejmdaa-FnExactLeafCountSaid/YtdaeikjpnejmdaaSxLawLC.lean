/-
  Laws walked by symbols.
-/
import Derived.Test.YtdaeikjpnejmdaaSxTree
namespace Go.Proofs.Ytdaeikjpnejmdaa
open Go.RowKit
set_option maxRecDepth 100000

theorem law_FnExactLeafCount_T (aKey : Int) (aTRoot : Int) (aTMidO : Option Addr) (aTMidN aTMidC : Nat) (aTMidg0 aTMidg1 : Nat → Int) (aTLeafO : Option Addr) (aTLeafN aTLeafC : Nat) (aTLeafg0 aTLeafg1 : Nat → Int) (aLeaf : Int) : (exFn Try.prog {tb := [(43, iToTree), (45, iEqTree), (46, iMarkTree), (47, iHeldTree), (41, iSzTree), (51, sLC), (52, sLC)]} 400 Try.f11 ([.a (.c (.int aKey)), .a (.agg [.int aTRoot, .sl 0 aTMidO aTMidN aTMidC, .sl 1 aTLeafO aTLeafN aTLeafC]), .a (.c (.int aLeaf))]) ([.row ⟨false, aTMidO, 0, 2, aTMidN, 0, [fun i => .int (aTMidg0 i), fun i => .int (aTMidg1 i)]⟩, .row ⟨false, aTLeafO, 0, 2, aTLeafN, 0, [fun i => .int (aTLeafg0 i), fun i => .int (aTLeafg1 i)]⟩]) (fun v _ => v.den = .bool true)) = (
  (∀ b0 : Nat,
  (b0 = b0 ∧
  (∀ b1 : Nat,
  (b1 = b1 ∧
  ((szC aTMidN (1048576 : Int)) ∧
  ((((1048576 : Int) < ((aTMidN : Nat) : Int)) →
  (Value.bool Bool.true) = (Value.bool Bool.true)) ∧
  ((((aTMidN : Nat) : Int) ≤ (1048576 : Int)) →
  (((decide (((1048576 : Int) - ((aTMidN : Nat) : Int)) < (0 : Int))) = Bool.true →
   (Value.bool Bool.true) = (Value.bool Bool.true)) ∧
   ((decide (((1048576 : Int) - ((aTMidN : Nat) : Int)) < (0 : Int))) = Bool.false →
   (b1 = b1 ∧
    ((szC aTLeafN ((1048576 : Int) - ((aTMidN : Nat) : Int))) ∧
    (((((1048576 : Int) - ((aTMidN : Nat) : Int)) < ((aTLeafN : Nat) : Int)) →
    (Value.bool Bool.true) = (Value.bool Bool.true)) ∧
    ((((aTLeafN : Nat) : Int) ≤ ((1048576 : Int) - ((aTMidN : Nat) : Int))) →
    (((decide ((((1048576 : Int) - ((aTMidN : Nat) : Int)) - ((aTLeafN : Nat) : Int)) < (0 : Int))) = Bool.true →
     (Value.bool Bool.true) = (Value.bool Bool.true)) ∧
     ((decide ((((1048576 : Int) - ((aTMidN : Nat) : Int)) - ((aTLeafN : Nat) : Int)) < (0 : Int))) = Bool.false →
     (((decide ((((1048576 : Int) - ((aTMidN : Nat) : Int)) - ((aTLeafN : Nat) : Int)) < (0 : Int))) = Bool.true →
      (Value.bool Bool.true) = (Value.bool Bool.true)) ∧
      ((decide ((((1048576 : Int) - ((aTMidN : Nat) : Int)) - ((aTLeafN : Nat) : Int)) < (0 : Int))) = Bool.false →
      (b0 = b0 ∧
       (∀ b2 : Nat,
       (∀ b3 : Nat,
       (∀ b4 : Nat,
       (b2 = b2 ∧
       (b4 = b4 ∧
       (b2 = b2 ∧
       (Exists (fun (g05 : (Nat →
       Int)) => (Exists (fun (g16 : (Nat →
       Int)) => ((aTMidO = aTMidO ∧
       (aTMidN = aTMidN ∧
       ([(fun (i7 : Nat) => (SC.int (aTMidg0 i7))), (fun (i8 : Nat) => (SC.int (aTMidg1 i8)))] = [(fun (i9 : Nat) => (SC.int (g05 i9))), (fun (i10 : Nat) => (SC.int (g16 i10)))] ∧
       (capC aTMidN)))) ∧
       (∀ b11 : Nat,
       (b4 = b4 ∧
       (b2 = b2 ∧
       (Exists (fun (g012 : (Nat →
       Int)) => (Exists (fun (g113 : (Nat →
       Int)) => ((aTLeafO = aTLeafO ∧
       (aTLeafN = aTLeafN ∧
       ([(fun (i14 : Nat) => (SC.int (aTLeafg0 i14))), (fun (i15 : Nat) => (SC.int (aTLeafg1 i15)))] = [(fun (i16 : Nat) => (SC.int (g012 i16))), (fun (i17 : Nat) => (SC.int (g113 i17)))] ∧
       (capC aTLeafN)))) ∧
       (∀ b18 : Nat,
       (b4 = b4 ∧
       (b4 = b4 ∧
       (b3 = b3 ∧
       (b3 = b3 ∧
       (Exists (fun (mc19 : (Nat →
       Int)) => (Exists (fun (mt20 : (Nat →
       Int)) => (Exists (fun (lc21 : (Nat →
       Int)) => (Exists (fun (lt22 : (Nat →
       Int)) => (((Option.some (Addr.mk b11 0 Option.none)) = (Option.some (Addr.mk b11 0 Option.none)) ∧
       (aTMidN = aTMidN ∧
       ([(fun (i23 : Nat) => (SC.int (g05 i23))), (fun (i24 : Nat) => (SC.int (g16 i24)))] = [(fun (i25 : Nat) => (SC.int (mc19 i25))), (fun (i26 : Nat) => (SC.int (mt20 i26)))] ∧
       ((Option.some (Addr.mk b18 0 Option.none)) = (Option.some (Addr.mk b18 0 Option.none)) ∧
       (aTLeafN = aTLeafN ∧
       [(fun (i27 : Nat) => (SC.int (g012 i27))), (fun (i28 : Nat) => (SC.int (g113 i28)))] = [(fun (i29 : Nat) => (SC.int (lc21 i29))), (fun (i30 : Nat) => (SC.int (lt22 i30)))]))))) ∧
       (b0 = b0 ∧
       (∀ b31 : Nat,
       (∀ b32 : Nat,
       (∀ b33 : Nat,
       (b31 = b31 ∧
       (b33 = b33 ∧
       (b31 = b31 ∧
       (Exists (fun (g034 : (Nat →
       Int)) => (Exists (fun (g135 : (Nat →
       Int)) => ((aTMidO = aTMidO ∧
       (aTMidN = aTMidN ∧
       ([(fun (i36 : Nat) => (SC.int (aTMidg0 i36))), (fun (i37 : Nat) => (SC.int (aTMidg1 i37)))] = [(fun (i38 : Nat) => (SC.int (g034 i38))), (fun (i39 : Nat) => (SC.int (g135 i39)))] ∧
       (capC aTMidN)))) ∧
       (∀ b40 : Nat,
       (b33 = b33 ∧
       (b31 = b31 ∧
       (Exists (fun (g041 : (Nat →
       Int)) => (Exists (fun (g142 : (Nat →
       Int)) => ((aTLeafO = aTLeafO ∧
       (aTLeafN = aTLeafN ∧
       ([(fun (i43 : Nat) => (SC.int (aTLeafg0 i43))), (fun (i44 : Nat) => (SC.int (aTLeafg1 i44)))] = [(fun (i45 : Nat) => (SC.int (g041 i45))), (fun (i46 : Nat) => (SC.int (g142 i46)))] ∧
       (capC aTLeafN)))) ∧
       (∀ b47 : Nat,
       (b33 = b33 ∧
       (b33 = b33 ∧
       (b32 = b32 ∧
       (b32 = b32 ∧
       (∀ b48 : Nat,
       (b48 = b48 ∧
       (b48 = b48 ∧
       (Exists (fun (mc49 : (Nat →
       Int)) => (Exists (fun (mt50 : (Nat →
       Int)) => (Exists (fun (lc51 : (Nat →
       Int)) => (Exists (fun (lt52 : (Nat →
       Int)) => (((Option.some (Addr.mk b40 0 Option.none)) = (Option.some (Addr.mk b40 0 Option.none)) ∧
       (aTMidN = aTMidN ∧
       ([(fun (i53 : Nat) => (SC.int (g034 i53))), (fun (i54 : Nat) => (SC.int (g135 i54)))] = [(fun (i55 : Nat) => (SC.int (mc49 i55))), (fun (i56 : Nat) => (SC.int (mt50 i56)))] ∧
       ((Option.some (Addr.mk b47 0 Option.none)) = (Option.some (Addr.mk b47 0 Option.none)) ∧
       (aTLeafN = aTLeafN ∧
       [(fun (i57 : Nat) => (SC.int (g041 i57))), (fun (i58 : Nat) => (SC.int (g142 i58)))] = [(fun (i59 : Nat) => (SC.int (lc51 i59))), (fun (i60 : Nat) => (SC.int (lt52 i60)))]))))) ∧
       ((((lcV aKey aTRoot aTMidN aTLeafN mc49 mt50 lc51 lt52 aLeaf) != (lcV aKey aTRoot aTMidN aTLeafN mc19 mt20 lc21 lt22 aLeaf)) = Bool.false →
       ((((lcOk aKey aTRoot aTMidN aTLeafN mc49 mt50 lc51 lt52 aLeaf) != (lcOk aKey aTRoot aTMidN aTLeafN mc19 mt20 lc21 lt22 aLeaf)) = Bool.true →
        (Value.bool Bool.false) = (Value.bool Bool.true)) ∧
        (((lcOk aKey aTRoot aTMidN aTLeafN mc49 mt50 lc51 lt52 aLeaf) != (lcOk aKey aTRoot aTMidN aTLeafN mc19 mt20 lc21 lt22 aLeaf)) = Bool.false →
        (b48 = b48 ∧
         (b0 = b0 ∧
         (∀ b61 : Nat,
         (∀ b62 : Nat,
         (∀ b63 : Nat,
         (b61 = b61 ∧
         (b63 = b63 ∧
         (b61 = b61 ∧
         (Exists (fun (g064 : (Nat →
         Int)) => (Exists (fun (g165 : (Nat →
         Int)) => ((aTMidO = aTMidO ∧
         (aTMidN = aTMidN ∧
         ([(fun (i66 : Nat) => (SC.int (aTMidg0 i66))), (fun (i67 : Nat) => (SC.int (aTMidg1 i67)))] = [(fun (i68 : Nat) => (SC.int (g064 i68))), (fun (i69 : Nat) => (SC.int (g165 i69)))] ∧
         (capC aTMidN)))) ∧
         (∀ b70 : Nat,
         (b63 = b63 ∧
         (b61 = b61 ∧
         (Exists (fun (g071 : (Nat →
         Int)) => (Exists (fun (g172 : (Nat →
         Int)) => ((aTLeafO = aTLeafO ∧
         (aTLeafN = aTLeafN ∧
         ([(fun (i73 : Nat) => (SC.int (aTLeafg0 i73))), (fun (i74 : Nat) => (SC.int (aTLeafg1 i74)))] = [(fun (i75 : Nat) => (SC.int (g071 i75))), (fun (i76 : Nat) => (SC.int (g172 i76)))] ∧
         (capC aTLeafN)))) ∧
         (∀ b77 : Nat,
         (b63 = b63 ∧
         (b63 = b63 ∧
         (b62 = b62 ∧
         (b62 = b62 ∧
         ([(Ch.row (Row.mk Bool.false aTMidO 0 2 aTMidN 0 [(fun (i78 : Nat) => (SC.int (aTMidg0 i78))), (fun (i79 : Nat) => (SC.int (aTMidg1 i79)))])), (Ch.row (Row.mk Bool.false aTLeafO 0 2 aTLeafN 0 [(fun (i80 : Nat) => (SC.int (aTLeafg0 i80))), (fun (i81 : Nat) => (SC.int (aTLeafg1 i81)))])), (Ch.cells b0 36 [(SC.int aTRoot), (SC.sl 0 aTMidO aTMidN aTMidC), (SC.sl 1 aTLeafO aTLeafN aTLeafC)]), (Ch.cells b1 36 [(SC.int aTRoot), (SC.sl 0 aTMidO aTMidN aTMidC), (SC.sl 1 aTLeafO aTLeafN aTLeafC)]), (Ch.cells b2 36 [(SC.int aTRoot), (SC.sl 0 aTMidO aTMidN aTMidC), (SC.sl 1 aTLeafO aTLeafN aTLeafC)]), (Ch.cells b3 40 [(SC.int aTRoot), (SC.sl 7 (Option.some (Addr.mk b11 0 Option.none)) aTMidN aTMidN), (SC.sl 8 (Option.some (Addr.mk b18 0 Option.none)) aTLeafN aTLeafN)]), (Ch.cells b4 40 [(SC.int aTRoot), (SC.sl 7 (Option.some (Addr.mk b11 0 Option.none)) aTMidN aTMidN), (SC.sl 8 (Option.some (Addr.mk b18 0 Option.none)) aTLeafN aTLeafN)]), (Ch.row (Row.mk Bool.true (Option.some (Addr.mk b11 0 Option.none)) 55 2 aTMidN aTMidN [(fun (i82 : Nat) => (SC.int (g05 i82))), (fun (i83 : Nat) => (SC.int (g16 i83)))])), (Ch.row (Row.mk Bool.true (Option.some (Addr.mk b18 0 Option.none)) 55 2 aTLeafN aTLeafN [(fun (i84 : Nat) => (SC.int (g012 i84))), (fun (i85 : Nat) => (SC.int (g113 i85)))])), (Ch.cells b31 36 [(SC.int aTRoot), (SC.sl 0 aTMidO aTMidN aTMidC), (SC.sl 1 aTLeafO aTLeafN aTLeafC)]), (Ch.cells b32 40 [(SC.int aTRoot), (SC.sl 12 (Option.some (Addr.mk b40 0 Option.none)) aTMidN aTMidN), (SC.sl 13 (Option.some (Addr.mk b47 0 Option.none)) aTLeafN aTLeafN)]), (Ch.cells b33 40 [(SC.int aTRoot), (SC.sl 12 (Option.some (Addr.mk b40 0 Option.none)) aTMidN aTMidN), (SC.sl 13 (Option.some (Addr.mk b47 0 Option.none)) aTLeafN aTLeafN)]), (Ch.row (Row.mk Bool.true (Option.some (Addr.mk b40 0 Option.none)) 55 2 aTMidN aTMidN [(fun (i86 : Nat) => (SC.int (g034 i86))), (fun (i87 : Nat) => (SC.int (g135 i87)))])), (Ch.row (Row.mk Bool.true (Option.some (Addr.mk b47 0 Option.none)) 55 2 aTLeafN aTLeafN [(fun (i88 : Nat) => (SC.int (g041 i88))), (fun (i89 : Nat) => (SC.int (g142 i89)))])), (Ch.cells b48 40 [(SC.int aTRoot), (SC.sl 12 (Option.some (Addr.mk b40 0 Option.none)) aTMidN aTMidN), (SC.sl 13 (Option.some (Addr.mk b47 0 Option.none)) aTLeafN aTLeafN)])] = [(Ch.row (Row.mk Bool.false aTMidO 0 2 aTMidN 0 [(fun (i90 : Nat) => (SC.int (aTMidg0 i90))), (fun (i91 : Nat) => (SC.int (aTMidg1 i91)))])), (Ch.row (Row.mk Bool.false aTLeafO 0 2 aTLeafN 0 [(fun (i92 : Nat) => (SC.int (aTLeafg0 i92))), (fun (i93 : Nat) => (SC.int (aTLeafg1 i93)))])), (Ch.cells b0 36 [(SC.int aTRoot), (SC.sl 0 aTMidO aTMidN aTMidC), (SC.sl 1 aTLeafO aTLeafN aTLeafC)]), (Ch.cells b1 36 [(SC.int aTRoot), (SC.sl 0 aTMidO aTMidN aTMidC), (SC.sl 1 aTLeafO aTLeafN aTLeafC)]), (Ch.cells b2 36 [(SC.int aTRoot), (SC.sl 0 aTMidO aTMidN aTMidC), (SC.sl 1 aTLeafO aTLeafN aTLeafC)]), (Ch.cells b3 40 [(SC.int aTRoot), (SC.sl 7 (Option.some (Addr.mk b11 0 Option.none)) aTMidN aTMidN), (SC.sl 8 (Option.some (Addr.mk b18 0 Option.none)) aTLeafN aTLeafN)]), (Ch.cells b4 40 [(SC.int aTRoot), (SC.sl 7 (Option.some (Addr.mk b11 0 Option.none)) aTMidN aTMidN), (SC.sl 8 (Option.some (Addr.mk b18 0 Option.none)) aTLeafN aTLeafN)]), (Ch.row (Row.mk Bool.true (Option.some (Addr.mk b11 0 Option.none)) 55 2 aTMidN aTMidN [(fun (i94 : Nat) => (SC.int (g05 i94))), (fun (i95 : Nat) => (SC.int (g16 i95)))])), (Ch.row (Row.mk Bool.true (Option.some (Addr.mk b18 0 Option.none)) 55 2 aTLeafN aTLeafN [(fun (i96 : Nat) => (SC.int (g012 i96))), (fun (i97 : Nat) => (SC.int (g113 i97)))])), (Ch.cells b31 36 [(SC.int aTRoot), (SC.sl 0 aTMidO aTMidN aTMidC), (SC.sl 1 aTLeafO aTLeafN aTLeafC)]), (Ch.cells b32 40 [(SC.int aTRoot), (SC.sl 12 (Option.some (Addr.mk b40 0 Option.none)) aTMidN aTMidN), (SC.sl 13 (Option.some (Addr.mk b47 0 Option.none)) aTLeafN aTLeafN)]), (Ch.cells b33 40 [(SC.int aTRoot), (SC.sl 12 (Option.some (Addr.mk b40 0 Option.none)) aTMidN aTMidN), (SC.sl 13 (Option.some (Addr.mk b47 0 Option.none)) aTLeafN aTLeafN)]), (Ch.row (Row.mk Bool.true (Option.some (Addr.mk b40 0 Option.none)) 55 2 aTMidN aTMidN [(fun (i98 : Nat) => (SC.int (g034 i98))), (fun (i99 : Nat) => (SC.int (g135 i99)))])), (Ch.row (Row.mk Bool.true (Option.some (Addr.mk b47 0 Option.none)) 55 2 aTLeafN aTLeafN [(fun (i100 : Nat) => (SC.int (g041 i100))), (fun (i101 : Nat) => (SC.int (g142 i101)))])), (Ch.cells b48 40 [(SC.int aTRoot), (SC.sl 12 (Option.some (Addr.mk b40 0 Option.none)) aTMidN aTMidN), (SC.sl 13 (Option.some (Addr.mk b47 0 Option.none)) aTLeafN aTLeafN)])] ∧
         (∀ b102 : Nat,
         (∀ b103 : Nat,
         (b102 = b102 ∧
         (b103 = b103 ∧
         (((aTRoot != aTRoot) = Bool.true →
         ([(Ch.row (Row.mk Bool.false aTMidO 0 2 aTMidN 0 [(fun (i104 : Nat) => (SC.int (aTMidg0 i104))), (fun (i105 : Nat) => (SC.int (aTMidg1 i105)))])), (Ch.row (Row.mk Bool.false aTLeafO 0 2 aTLeafN 0 [(fun (i106 : Nat) => (SC.int (aTLeafg0 i106))), (fun (i107 : Nat) => (SC.int (aTLeafg1 i107)))])), (Ch.cells b0 36 [(SC.int aTRoot), (SC.sl 0 aTMidO aTMidN aTMidC), (SC.sl 1 aTLeafO aTLeafN aTLeafC)]), (Ch.cells b1 36 [(SC.int aTRoot), (SC.sl 0 aTMidO aTMidN aTMidC), (SC.sl 1 aTLeafO aTLeafN aTLeafC)]), (Ch.cells b2 36 [(SC.int aTRoot), (SC.sl 0 aTMidO aTMidN aTMidC), (SC.sl 1 aTLeafO aTLeafN aTLeafC)]), (Ch.cells b3 40 [(SC.int aTRoot), (SC.sl 7 (Option.some (Addr.mk b11 0 Option.none)) aTMidN aTMidN), (SC.sl 8 (Option.some (Addr.mk b18 0 Option.none)) aTLeafN aTLeafN)]), (Ch.cells b4 40 [(SC.int aTRoot), (SC.sl 7 (Option.some (Addr.mk b11 0 Option.none)) aTMidN aTMidN), (SC.sl 8 (Option.some (Addr.mk b18 0 Option.none)) aTLeafN aTLeafN)]), (Ch.row (Row.mk Bool.true (Option.some (Addr.mk b11 0 Option.none)) 55 2 aTMidN aTMidN [(fun (i108 : Nat) => (SC.int (g05 i108))), (fun (i109 : Nat) => (SC.int (g16 i109)))])), (Ch.row (Row.mk Bool.true (Option.some (Addr.mk b18 0 Option.none)) 55 2 aTLeafN aTLeafN [(fun (i110 : Nat) => (SC.int (g012 i110))), (fun (i111 : Nat) => (SC.int (g113 i111)))])), (Ch.cells b31 36 [(SC.int aTRoot), (SC.sl 0 aTMidO aTMidN aTMidC), (SC.sl 1 aTLeafO aTLeafN aTLeafC)]), (Ch.cells b32 40 [(SC.int aTRoot), (SC.sl 12 (Option.some (Addr.mk b40 0 Option.none)) aTMidN aTMidN), (SC.sl 13 (Option.some (Addr.mk b47 0 Option.none)) aTLeafN aTLeafN)]), (Ch.cells b33 40 [(SC.int aTRoot), (SC.sl 12 (Option.some (Addr.mk b40 0 Option.none)) aTMidN aTMidN), (SC.sl 13 (Option.some (Addr.mk b47 0 Option.none)) aTLeafN aTLeafN)]), (Ch.row (Row.mk Bool.true (Option.some (Addr.mk b40 0 Option.none)) 55 2 aTMidN aTMidN [(fun (i112 : Nat) => (SC.int (g034 i112))), (fun (i113 : Nat) => (SC.int (g135 i113)))])), (Ch.row (Row.mk Bool.true (Option.some (Addr.mk b47 0 Option.none)) 55 2 aTLeafN aTLeafN [(fun (i114 : Nat) => (SC.int (g041 i114))), (fun (i115 : Nat) => (SC.int (g142 i115)))])), (Ch.cells b48 40 [(SC.int aTRoot), (SC.sl 12 (Option.some (Addr.mk b40 0 Option.none)) aTMidN aTMidN), (SC.sl 13 (Option.some (Addr.mk b47 0 Option.none)) aTLeafN aTLeafN)])] = [(Ch.row (Row.mk Bool.false aTMidO 0 2 aTMidN 0 [(fun (i116 : Nat) => (SC.int (aTMidg0 i116))), (fun (i117 : Nat) => (SC.int (aTMidg1 i117)))])), (Ch.row (Row.mk Bool.false aTLeafO 0 2 aTLeafN 0 [(fun (i118 : Nat) => (SC.int (aTLeafg0 i118))), (fun (i119 : Nat) => (SC.int (aTLeafg1 i119)))])), (Ch.cells b0 36 [(SC.int aTRoot), (SC.sl 0 aTMidO aTMidN aTMidC), (SC.sl 1 aTLeafO aTLeafN aTLeafC)]), (Ch.cells b1 36 [(SC.int aTRoot), (SC.sl 0 aTMidO aTMidN aTMidC), (SC.sl 1 aTLeafO aTLeafN aTLeafC)]), (Ch.cells b2 36 [(SC.int aTRoot), (SC.sl 0 aTMidO aTMidN aTMidC), (SC.sl 1 aTLeafO aTLeafN aTLeafC)]), (Ch.cells b3 40 [(SC.int aTRoot), (SC.sl 7 (Option.some (Addr.mk b11 0 Option.none)) aTMidN aTMidN), (SC.sl 8 (Option.some (Addr.mk b18 0 Option.none)) aTLeafN aTLeafN)]), (Ch.cells b4 40 [(SC.int aTRoot), (SC.sl 7 (Option.some (Addr.mk b11 0 Option.none)) aTMidN aTMidN), (SC.sl 8 (Option.some (Addr.mk b18 0 Option.none)) aTLeafN aTLeafN)]), (Ch.row (Row.mk Bool.true (Option.some (Addr.mk b11 0 Option.none)) 55 2 aTMidN aTMidN [(fun (i120 : Nat) => (SC.int (g05 i120))), (fun (i121 : Nat) => (SC.int (g16 i121)))])), (Ch.row (Row.mk Bool.true (Option.some (Addr.mk b18 0 Option.none)) 55 2 aTLeafN aTLeafN [(fun (i122 : Nat) => (SC.int (g012 i122))), (fun (i123 : Nat) => (SC.int (g113 i123)))])), (Ch.cells b31 36 [(SC.int aTRoot), (SC.sl 0 aTMidO aTMidN aTMidC), (SC.sl 1 aTLeafO aTLeafN aTLeafC)]), (Ch.cells b32 40 [(SC.int aTRoot), (SC.sl 12 (Option.some (Addr.mk b40 0 Option.none)) aTMidN aTMidN), (SC.sl 13 (Option.some (Addr.mk b47 0 Option.none)) aTLeafN aTLeafN)]), (Ch.cells b33 40 [(SC.int aTRoot), (SC.sl 12 (Option.some (Addr.mk b40 0 Option.none)) aTMidN aTMidN), (SC.sl 13 (Option.some (Addr.mk b47 0 Option.none)) aTLeafN aTLeafN)]), (Ch.row (Row.mk Bool.true (Option.some (Addr.mk b40 0 Option.none)) 55 2 aTMidN aTMidN [(fun (i124 : Nat) => (SC.int (g034 i124))), (fun (i125 : Nat) => (SC.int (g135 i125)))])), (Ch.row (Row.mk Bool.true (Option.some (Addr.mk b47 0 Option.none)) 55 2 aTLeafN aTLeafN [(fun (i126 : Nat) => (SC.int (g041 i126))), (fun (i127 : Nat) => (SC.int (g142 i127)))])), (Ch.cells b48 40 [(SC.int aTRoot), (SC.sl 12 (Option.some (Addr.mk b40 0 Option.none)) aTMidN aTMidN), (SC.sl 13 (Option.some (Addr.mk b47 0 Option.none)) aTLeafN aTLeafN)])] ∧
          (Value.bool Bool.false) = (Value.bool Bool.true))) ∧
         ((aTRoot != aTRoot) = Bool.false →
         (b102 = b102 ∧
          (b103 = b103 ∧
          (Exists (fun (g0128 : (Nat →
          Int)) => (Exists (fun (g1129 : (Nat →
          Int)) => (Exists (fun (q0130 : (Nat →
          Int)) => (Exists (fun (q1131 : (Nat →
          Int)) => (((Option.some (Addr.mk b40 0 Option.none)) = (Option.some (Addr.mk b40 0 Option.none)) ∧
          (aTMidN = aTMidN ∧
          ([(fun (i132 : Nat) => (SC.int (g034 i132))), (fun (i133 : Nat) => (SC.int (g135 i133)))] = [(fun (i134 : Nat) => (SC.int (g0128 i134))), (fun (i135 : Nat) => (SC.int (g1129 i135)))] ∧
          ((Option.some (Addr.mk b70 0 Option.none)) = (Option.some (Addr.mk b70 0 Option.none)) ∧
          (aTMidN = aTMidN ∧
          ([(fun (i136 : Nat) => (SC.int (g064 i136))), (fun (i137 : Nat) => (SC.int (g165 i137)))] = [(fun (i138 : Nat) => (SC.int (q0130 i138))), (fun (i139 : Nat) => (SC.int (q1131 i139)))] ∧
          (aTMidN = aTMidN ∧
          (capC aTMidN)))))))) ∧
          ((∀ i140 : Nat,
          (i140 < aTMidN →
          ((g0128 i140) = (q0130 i140) ∧
           (g1129 i140) = (q1131 i140)))) ∧
          (b102 = b102 ∧
          (b103 = b103 ∧
          (Exists (fun (g0141 : (Nat →
          Int)) => (Exists (fun (g1142 : (Nat →
          Int)) => (Exists (fun (q0143 : (Nat →
          Int)) => (Exists (fun (q1144 : (Nat →
          Int)) => (((Option.some (Addr.mk b47 0 Option.none)) = (Option.some (Addr.mk b47 0 Option.none)) ∧
          (aTLeafN = aTLeafN ∧
          ([(fun (i145 : Nat) => (SC.int (g041 i145))), (fun (i146 : Nat) => (SC.int (g142 i146)))] = [(fun (i147 : Nat) => (SC.int (g0141 i147))), (fun (i148 : Nat) => (SC.int (g1142 i148)))] ∧
          ((Option.some (Addr.mk b77 0 Option.none)) = (Option.some (Addr.mk b77 0 Option.none)) ∧
          (aTLeafN = aTLeafN ∧
          ([(fun (i149 : Nat) => (SC.int (g071 i149))), (fun (i150 : Nat) => (SC.int (g172 i150)))] = [(fun (i151 : Nat) => (SC.int (q0143 i151))), (fun (i152 : Nat) => (SC.int (q1144 i152)))] ∧
          (aTLeafN = aTLeafN ∧
          (capC aTLeafN)))))))) ∧
          ((∀ i153 : Nat,
          (i153 < aTLeafN →
          ((g0141 i153) = (q0143 i153) ∧
           (g1142 i153) = (q1144 i153)))) ∧
          ([(Ch.row (Row.mk Bool.false aTMidO 0 2 aTMidN 0 [(fun (i154 : Nat) => (SC.int (aTMidg0 i154))), (fun (i155 : Nat) => (SC.int (aTMidg1 i155)))])), (Ch.row (Row.mk Bool.false aTLeafO 0 2 aTLeafN 0 [(fun (i156 : Nat) => (SC.int (aTLeafg0 i156))), (fun (i157 : Nat) => (SC.int (aTLeafg1 i157)))])), (Ch.cells b0 36 [(SC.int aTRoot), (SC.sl 0 aTMidO aTMidN aTMidC), (SC.sl 1 aTLeafO aTLeafN aTLeafC)]), (Ch.cells b1 36 [(SC.int aTRoot), (SC.sl 0 aTMidO aTMidN aTMidC), (SC.sl 1 aTLeafO aTLeafN aTLeafC)]), (Ch.cells b2 36 [(SC.int aTRoot), (SC.sl 0 aTMidO aTMidN aTMidC), (SC.sl 1 aTLeafO aTLeafN aTLeafC)]), (Ch.cells b3 40 [(SC.int aTRoot), (SC.sl 7 (Option.some (Addr.mk b11 0 Option.none)) aTMidN aTMidN), (SC.sl 8 (Option.some (Addr.mk b18 0 Option.none)) aTLeafN aTLeafN)]), (Ch.cells b4 40 [(SC.int aTRoot), (SC.sl 7 (Option.some (Addr.mk b11 0 Option.none)) aTMidN aTMidN), (SC.sl 8 (Option.some (Addr.mk b18 0 Option.none)) aTLeafN aTLeafN)]), (Ch.row (Row.mk Bool.true (Option.some (Addr.mk b11 0 Option.none)) 55 2 aTMidN aTMidN [(fun (i158 : Nat) => (SC.int (g05 i158))), (fun (i159 : Nat) => (SC.int (g16 i159)))])), (Ch.row (Row.mk Bool.true (Option.some (Addr.mk b18 0 Option.none)) 55 2 aTLeafN aTLeafN [(fun (i160 : Nat) => (SC.int (g012 i160))), (fun (i161 : Nat) => (SC.int (g113 i161)))])), (Ch.cells b31 36 [(SC.int aTRoot), (SC.sl 0 aTMidO aTMidN aTMidC), (SC.sl 1 aTLeafO aTLeafN aTLeafC)]), (Ch.cells b32 40 [(SC.int aTRoot), (SC.sl 12 (Option.some (Addr.mk b40 0 Option.none)) aTMidN aTMidN), (SC.sl 13 (Option.some (Addr.mk b47 0 Option.none)) aTLeafN aTLeafN)]), (Ch.cells b33 40 [(SC.int aTRoot), (SC.sl 12 (Option.some (Addr.mk b40 0 Option.none)) aTMidN aTMidN), (SC.sl 13 (Option.some (Addr.mk b47 0 Option.none)) aTLeafN aTLeafN)]), (Ch.row (Row.mk Bool.true (Option.some (Addr.mk b40 0 Option.none)) 55 2 aTMidN aTMidN [(fun (i162 : Nat) => (SC.int (g034 i162))), (fun (i163 : Nat) => (SC.int (g135 i163)))])), (Ch.row (Row.mk Bool.true (Option.some (Addr.mk b47 0 Option.none)) 55 2 aTLeafN aTLeafN [(fun (i164 : Nat) => (SC.int (g041 i164))), (fun (i165 : Nat) => (SC.int (g142 i165)))])), (Ch.cells b48 40 [(SC.int aTRoot), (SC.sl 12 (Option.some (Addr.mk b40 0 Option.none)) aTMidN aTMidN), (SC.sl 13 (Option.some (Addr.mk b47 0 Option.none)) aTLeafN aTLeafN)])] = [(Ch.row (Row.mk Bool.false aTMidO 0 2 aTMidN 0 [(fun (i166 : Nat) => (SC.int (aTMidg0 i166))), (fun (i167 : Nat) => (SC.int (aTMidg1 i167)))])), (Ch.row (Row.mk Bool.false aTLeafO 0 2 aTLeafN 0 [(fun (i168 : Nat) => (SC.int (aTLeafg0 i168))), (fun (i169 : Nat) => (SC.int (aTLeafg1 i169)))])), (Ch.cells b0 36 [(SC.int aTRoot), (SC.sl 0 aTMidO aTMidN aTMidC), (SC.sl 1 aTLeafO aTLeafN aTLeafC)]), (Ch.cells b1 36 [(SC.int aTRoot), (SC.sl 0 aTMidO aTMidN aTMidC), (SC.sl 1 aTLeafO aTLeafN aTLeafC)]), (Ch.cells b2 36 [(SC.int aTRoot), (SC.sl 0 aTMidO aTMidN aTMidC), (SC.sl 1 aTLeafO aTLeafN aTLeafC)]), (Ch.cells b3 40 [(SC.int aTRoot), (SC.sl 7 (Option.some (Addr.mk b11 0 Option.none)) aTMidN aTMidN), (SC.sl 8 (Option.some (Addr.mk b18 0 Option.none)) aTLeafN aTLeafN)]), (Ch.cells b4 40 [(SC.int aTRoot), (SC.sl 7 (Option.some (Addr.mk b11 0 Option.none)) aTMidN aTMidN), (SC.sl 8 (Option.some (Addr.mk b18 0 Option.none)) aTLeafN aTLeafN)]), (Ch.row (Row.mk Bool.true (Option.some (Addr.mk b11 0 Option.none)) 55 2 aTMidN aTMidN [(fun (i170 : Nat) => (SC.int (g05 i170))), (fun (i171 : Nat) => (SC.int (g16 i171)))])), (Ch.row (Row.mk Bool.true (Option.some (Addr.mk b18 0 Option.none)) 55 2 aTLeafN aTLeafN [(fun (i172 : Nat) => (SC.int (g012 i172))), (fun (i173 : Nat) => (SC.int (g113 i173)))])), (Ch.cells b31 36 [(SC.int aTRoot), (SC.sl 0 aTMidO aTMidN aTMidC), (SC.sl 1 aTLeafO aTLeafN aTLeafC)]), (Ch.cells b32 40 [(SC.int aTRoot), (SC.sl 12 (Option.some (Addr.mk b40 0 Option.none)) aTMidN aTMidN), (SC.sl 13 (Option.some (Addr.mk b47 0 Option.none)) aTLeafN aTLeafN)]), (Ch.cells b33 40 [(SC.int aTRoot), (SC.sl 12 (Option.some (Addr.mk b40 0 Option.none)) aTMidN aTMidN), (SC.sl 13 (Option.some (Addr.mk b47 0 Option.none)) aTLeafN aTLeafN)]), (Ch.row (Row.mk Bool.true (Option.some (Addr.mk b40 0 Option.none)) 55 2 aTMidN aTMidN [(fun (i174 : Nat) => (SC.int (g034 i174))), (fun (i175 : Nat) => (SC.int (g135 i175)))])), (Ch.row (Row.mk Bool.true (Option.some (Addr.mk b47 0 Option.none)) 55 2 aTLeafN aTLeafN [(fun (i176 : Nat) => (SC.int (g041 i176))), (fun (i177 : Nat) => (SC.int (g142 i177)))])), (Ch.cells b48 40 [(SC.int aTRoot), (SC.sl 12 (Option.some (Addr.mk b40 0 Option.none)) aTMidN aTMidN), (SC.sl 13 (Option.some (Addr.mk b47 0 Option.none)) aTLeafN aTLeafN)])] ∧
          (Value.bool Bool.true) = (Value.bool Bool.true)))))))))))))))))))))))))))))))))))))))))))))))))))))))))))))) ∧
       (((lcV aKey aTRoot aTMidN aTLeafN mc49 mt50 lc51 lt52 aLeaf) != (lcV aKey aTRoot aTMidN aTLeafN mc19 mt20 lc21 lt22 aLeaf)) = Bool.true →
       (Value.bool Bool.false) = (Value.bool Bool.true)))))))))))))))))))))))))))))))))))))))))))))))))))))))))))))))))))))))))))))))))))))))))))) := by kernel_rfl
theorem law_FnExactLeafCount_any (aKey : Int) (aTRoot : Int) (aTMidO : Option Addr) (aTMidN aTMidC : Nat) (aTMidg0 aTMidg1 : Nat → Int) (aTLeafO : Option Addr) (aTLeafN aTLeafC : Nat) (aTLeafg0 aTLeafg1 : Nat → Int) (aLeaf : Int) (W : World) (baKey : -9223372036854775808 ≤ aKey ∧ aKey ≤ 9223372036854775807) (baTRoot : -9223372036854775808 ≤ aTRoot ∧ aTRoot ≤ 9223372036854775807) (baLeaf : -9223372036854775808 ≤ aLeaf ∧ aLeaf ≤ 9223372036854775807) (hnaTMid : aTMidN ≤ 9223372036854775807) (hraTMid : Row.sat W ⟨false, aTMidO, 0, 2, aTMidN, 0, [fun i => .int (aTMidg0 i), fun i => .int (aTMidg1 i)]⟩) (hnaTLeaf : aTLeafN ≤ 9223372036854775807) (hraTLeaf : Row.sat W ⟨false, aTLeafO, 0, 2, aTLeafN, 0, [fun i => .int (aTLeafg0 i), fun i => .int (aTLeafg1 i)]⟩) : Calls Try.prog 11 #[.int .i64 aKey, .agg #[.int .i64 aTRoot, .slice aTMidO aTMidN aTMidC, .slice aTLeafO aTLeafN aTLeafC], .int .i64 aLeaf] W fun e W' => e = .returned (.bool true) ∧ Below W.heap.size W W' := by
  refine fnB (tb := [(43, iToTree), (45, iEqTree), (46, iMarkTree), (47, iHeldTree), (41, iSzTree), (51, sLC), (52, sLC)]) ⟨iToTree_ok, iEqTree_ok, iMarkTree_ok, iHeldTree_ok, iSzTree_ok, sLC_impl, sLC_spec, trivial⟩ Try.func11 ((law_FnExactLeafCount_T aKey aTRoot aTMidO aTMidN aTMidC aTMidg0 aTMidg1 aTLeafO aTLeafN aTLeafC aTLeafg0 aTLeafg1 aLeaf).mpr ?_) (HS.rows (fun _ => False) [⟨false, aTMidO, 0, 2, aTMidN, 0, [fun i => .int (aTMidg0 i), fun i => .int (aTMidg1 i)]⟩, ⟨false, aTLeafO, 0, 2, aTLeafN, 0, [fun i => .int (aTLeafg0 i), fun i => .int (aTLeafg1 i)]⟩] (by simp; exact ⟨hraTMid, hraTLeaf⟩)) (fun v ch' w' hk hs => ⟨by rw [hk], hs.below⟩)
  clear hraTMid hraTLeaf
  repeat' (first
    | exact rfl
    | exact True.intro
    | refine And.intro ?_ ?_
    | apply Exists.intro
    | assumption
    | omega
    | (intro h; exfalso; revert h; simp [mk]; done)
    | (intro h; exfalso; simp [mk] at h; omega)
    | intro _)
theorem walk_FnExactLeafCount (aKey : Int) (cs1 : Array Value) (aLeaf : Int) (W : World) (baKey : -9223372036854775808 ≤ aKey ∧ aKey ≤ 9223372036854775807) (h1 : Has W (.cons .int (.cons (.slice (.cons .int (.cons .int .nil))) (.cons (.slice (.cons .int (.cons .int .nil))) .nil))) cs1.toList) (baLeaf : -9223372036854775808 ≤ aLeaf ∧ aLeaf ≤ 9223372036854775807) : Calls Try.prog 11 #[.int .i64 aKey, .agg cs1, .int .i64 aLeaf] W fun e W' => e = .returned (.bool true) ∧ Below W.heap.size W W' := by
  obtain ⟨l1, hl1⟩ : ∃ l, cs1.toList = l := ⟨_, rfl⟩
  rw [hl1] at h1
  obtain ⟨aTRoot, _, rfl, baTRoot, h1⟩ := has_int h1
  obtain ⟨aTMidO, aTMidN, aTMidC, _, rfl, hsaTMid, h1⟩ := has_slice h1
  obtain ⟨hnaTMid, aTMidG, bGaTMid, hraTMid⟩ := row_of_has (s := 2) (.inr rfl) (by omega) rfl hsaTMid
  obtain ⟨aTLeafO, aTLeafN, aTLeafC, _, rfl, hsaTLeaf, h1⟩ := has_slice h1
  obtain ⟨hnaTLeaf, aTLeafG, bGaTLeaf, hraTLeaf⟩ := row_of_has (s := 2) (.inr rfl) (by omega) rfl hsaTLeaf
  obtain rfl := has_nil h1
  rw [arr_of hl1]
  exact law_FnExactLeafCount_any aKey aTRoot aTMidO aTMidN aTMidC (aTMidG 0) (aTMidG 1) aTLeafO aTLeafN aTLeafC (aTLeafG 0) (aTLeafG 1) aLeaf W baKey baTRoot baLeaf hnaTMid hraTMid hnaTLeaf hraTLeaf
end Go.Proofs.Ytdaeikjpnejmdaa

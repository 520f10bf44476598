/-
  FnForged.
-/
import Derived.Test.YtppeocfcdeiemaaSxSameT
import Derived.Test.YtppeocfcdeiemaaSxCode
namespace Go.Proofs.Ytppeocfcdeiemaa
set_option linter.unusedVariables false
set_option linter.unusedSimpArgs false
open Go.RowKit
set_option maxRecDepth 100000
set_option maxHeartbeats 8000000

def sBig : Sm := inlM Try.prog {tb := []} 300 Try.f9
theorem sBig_ok : SmOK Try.prog 9 sBig := inlM_ok mixed (E := {tb := []}) trivial Try.func9 Try.call9 (fun _ _ _ => loopsOK_nil _ _ _)
theorem law_FnForged_T (co : Option Addr) (cn cc : Nat) (cu : Nat → Int) : (exFn Try.prog {tb := [(9, sBig), (10, sPlaces), (15, sTNewX), (16, sBumpX), (14, sLC), (12, sBump), (18, sSameT)]} 400 Try.f5 ([.a (.c (.sl 0 co cn cc))]) ([.row ⟨false, co, 0, 1, cn, 0, [fun i => .u8 (cu i)]⟩]) (fun v _ => v.den = .bool true)) = (
  (((decide (((cn : Nat) : Int) > (1048576 : Int))) = Bool.true →
  (Value.bool Bool.true) = (Value.bool Bool.true)) ∧
  ((decide (((cn : Nat) : Int) > (1048576 : Int))) = Bool.false →
  (Exists (fun (u0 : (Nat →
   Int)) => (((co = co ∧
   (cn = cn ∧
   [(fun (i1 : Nat) => (SC.u8 (cu i1)))] = [(fun (i2 : Nat) => (SC.u8 (u0 i2)))])) ∧
   (codeC cn u0)) ∧
   (∀ p3 : (Nat →
   Int),
   (∀ ro04 : (Option Addr),
   (∀ rc05 : Nat,
   ((plC p3) →
   (ro04 = ro04 ∧
    (12 = 12 ∧
    ((0 ≤ (0 : Int) ∧ (0 : Int) < ((12 : Nat) : Int)) ∧
    (ro04 = ro04 ∧
    (0 < 12 ∧
    ((isW (p3 0)) = Bool.true ∧
    (∀ x6 : TrX,
    (∀ ro07 : (Option Addr),
    (∀ rc08 : Nat,
    (∀ ro19 : (Option Addr),
    (∀ rc110 : Nat,
    (((GoodX (p3 0) x6) ∧
    (x6).1 = (0 : Int)) →
    (∀ b11 : Nat,
     (b11 = b11 ∧
     (ro04 = ro04 ∧
     (12 = 12 ∧
     ((0 ≤ (0 : Int) ∧ (0 : Int) < ((12 : Nat) : Int)) ∧
     (ro04 = ro04 ∧
     (0 < 12 ∧
     (b11 = b11 ∧
     (ro04 = ro04 ∧
     (12 = 12 ∧
     ((0 ≤ (1 : Int) ∧ (1 : Int) < ((12 : Nat) : Int)) ∧
     (ro04 = ro04 ∧
     (1 < 12 ∧
     ((divC (p3 1) (8 : Int)) ∧
     (Exists (fun (x12 : TrX) => ((ro07 = ro07 ∧
     (2 = 2 ∧
     ([(fun (i13 : Nat) => (SC.int ((x6).2 i13))), (fun (i14 : Nat) => (SC.int ((x6).3 i14)))] = [(fun (i15 : Nat) => (SC.int ((x12).2 i15))), (fun (i16 : Nat) => (SC.int ((x12).3 i16)))] ∧
     (ro19 = ro19 ∧
     (8 = 8 ∧
     ([(fun (i17 : Nat) => (SC.int ((x6).4 i17))), (fun (i18 : Nat) => (SC.int ((x6).5 i18)))] = [(fun (i19 : Nat) => (SC.int ((x12).4 i19))), (fun (i20 : Nat) => (SC.int ((x12).5 i20)))] ∧
     (2 = 2 ∧
     (8 = 8 ∧
     ((x6).1 = (x12).1 ∧
     ((GoodX (p3 0) x12) ∧
     ((leZ (x12).1 (1000 : Int)) ∧
     (inR ((p3 1) % (8 : Int)) (0 : Int) (7 : Int))))))))))))) ∧
     (∀ x'21 : TrX,
     (∀ ro022 : (Option Addr),
     (∀ rc023 : Nat,
     (∀ ro124 : (Option Addr),
     (∀ rc125 : Nat,
     (((GoodX (p3 0) x'21) ∧
     (BumpX x12 ((p3 1) % (8 : Int)) x'21)) →
     (True ∧
      (b11 = b11 ∧
      (True ∧
      (ro04 = ro04 ∧
      (12 = 12 ∧
      ((0 ≤ (2 : Int) ∧ (2 : Int) < ((12 : Nat) : Int)) ∧
      (ro04 = ro04 ∧
      (2 < 12 ∧
      ((divC (p3 2) (8 : Int)) ∧
      (b11 = b11 ∧
      (b11 = b11 ∧
      (ro124 = ro124 ∧
      (8 = 8 ∧
      ((0 ≤ ((p3 2) % (8 : Int)) ∧ ((p3 2) % (8 : Int)) < ((8 : Nat) : Int)) ∧
      (ro124 = ro124 ∧
      ((Int.toNat ((p3 2) % (8 : Int))) < 8 ∧
      (ro124 = ro124 ∧
      ((Int.toNat ((p3 2) % (8 : Int))) < 8 ∧
      ((rng (((x'21).4 (Int.toNat ((p3 2) % (8 : Int)))) + (1 : Int))) ∧
      (ro04 = ro04 ∧
      (12 = 12 ∧
      ((0 ≤ (3 : Int) ∧ (3 : Int) < ((12 : Nat) : Int)) ∧
      (ro04 = ro04 ∧
      (3 < 12 ∧
      ((rng ((((x'21).4 (Int.toNat ((p3 2) % (8 : Int)))) + (1 : Int)) + (p3 3))) ∧
      (ro124 = ro124 ∧
      (8 = 8 ∧
      ((0 ≤ ((p3 2) % (8 : Int)) ∧ ((p3 2) % (8 : Int)) < ((8 : Nat) : Int)) ∧
      (ro124 = ro124 ∧
      ((Int.toNat ((p3 2) % (8 : Int))) < 8 ∧
      (ro124 = ro124 ∧
      ((Int.toNat ((p3 2) % (8 : Int))) < 8 ∧
      (True ∧
      (ro04 = ro04 ∧
      (12 = 12 ∧
      ((0 ≤ (0 : Int) ∧ (0 : Int) < ((12 : Nat) : Int)) ∧
      (ro04 = ro04 ∧
      (0 < 12 ∧
      (b11 = b11 ∧
      (Exists (fun (mc26 : (Nat →
      Int)) => (Exists (fun (mt27 : (Nat →
      Int)) => (Exists (fun (lc28 : (Nat →
      Int)) => (Exists (fun (lt29 : (Nat →
      Int)) => ((ro022 = ro022 ∧
      (2 = 2 ∧
      ([(fun (i30 : Nat) => (SC.int ((x'21).2 i30))), (fun (i31 : Nat) => (SC.int ((x'21).3 i31)))] = [(fun (i32 : Nat) => (SC.int (mc26 i32))), (fun (i33 : Nat) => (SC.int (mt27 i33)))] ∧
      (ro124 = ro124 ∧
      (8 = 8 ∧
      [(fun (j34 : Nat) => (SC.int (if j34 = (Int.toNat ((p3 2) % (8 : Int))) then ((((x'21).4 (Int.toNat ((p3 2) % (8 : Int)))) + (1 : Int)) + (p3 3)) else ((x'21).4 j34)))), (fun (i35 : Nat) => (SC.int ((x'21).5 i35)))] = [(fun (i36 : Nat) => (SC.int (lc28 i36))), (fun (i37 : Nat) => (SC.int (lt29 i37)))]))))) ∧
      (True ∧
      (ro04 = ro04 ∧
      (12 = 12 ∧
      ((0 ≤ (0 : Int) ∧ (0 : Int) < ((12 : Nat) : Int)) ∧
      (ro04 = ro04 ∧
      (0 < 12 ∧
      (b11 = b11 ∧
      ((rng (((p3 2) % (8 : Int)) + (1 : Int))) ∧
      ((divC (((p3 2) % (8 : Int)) + (1 : Int)) (8 : Int)) ∧
      (Exists (fun (mc38 : (Nat →
      Int)) => (Exists (fun (mt39 : (Nat →
      Int)) => (Exists (fun (lc40 : (Nat →
      Int)) => (Exists (fun (lt41 : (Nat →
      Int)) => ((ro022 = ro022 ∧
      (2 = 2 ∧
      ([(fun (i42 : Nat) => (SC.int ((x'21).2 i42))), (fun (i43 : Nat) => (SC.int ((x'21).3 i43)))] = [(fun (i44 : Nat) => (SC.int (mc38 i44))), (fun (i45 : Nat) => (SC.int (mt39 i45)))] ∧
      (ro124 = ro124 ∧
      (8 = 8 ∧
      [(fun (j46 : Nat) => (SC.int (if j46 = (Int.toNat ((p3 2) % (8 : Int))) then ((((x'21).4 (Int.toNat ((p3 2) % (8 : Int)))) + (1 : Int)) + (p3 3)) else ((x'21).4 j46)))), (fun (i47 : Nat) => (SC.int ((x'21).5 i47)))] = [(fun (i48 : Nat) => (SC.int (lc40 i48))), (fun (i49 : Nat) => (SC.int (lt41 i49)))]))))) ∧
      (True ∧
      (ro04 = ro04 ∧
      (12 = 12 ∧
      ((0 ≤ (0 : Int) ∧ (0 : Int) < ((12 : Nat) : Int)) ∧
      (ro04 = ro04 ∧
      (0 < 12 ∧
      (b11 = b11 ∧
      ((Exists (fun (tMidg050 : (Nat →
      Int)) => (Exists (fun (tMidg151 : (Nat →
      Int)) => (Exists (fun (tLeafg052 : (Nat →
      Int)) => (Exists (fun (tLeafg153 : (Nat →
      Int)) => ((ro022 = ro022 ∧
      (2 = 2 ∧
      ([(fun (i54 : Nat) => (SC.int ((x'21).2 i54))), (fun (i55 : Nat) => (SC.int ((x'21).3 i55)))] = [(fun (i56 : Nat) => (SC.int (tMidg050 i56))), (fun (i57 : Nat) => (SC.int (tMidg151 i57)))] ∧
      (ro124 = ro124 ∧
      (8 = 8 ∧
      ([(fun (j58 : Nat) => (SC.int (if j58 = (Int.toNat ((p3 2) % (8 : Int))) then ((((x'21).4 (Int.toNat ((p3 2) % (8 : Int)))) + (1 : Int)) + (p3 3)) else ((x'21).4 j58)))), (fun (i59 : Nat) => (SC.int ((x'21).5 i59)))] = [(fun (i60 : Nat) => (SC.int (tLeafg052 i60))), (fun (i61 : Nat) => (SC.int (tLeafg153 i61)))] ∧
      ((capC 2) ∧
      (capC 8)))))))) ∧
      (∀ ro062 : (Option Addr),
      (∀ rc063 : Nat,
      (∀ ro164 : (Option Addr),
      (∀ rc165 : Nat,
      (True ∧
      (∀ b66 : Nat,
      (True ∧
      (b66 = b66 ∧
      (True ∧
      (((!(lcOk (p3 0) (x'21).1 2 8 mc26 mt27 lc28 lt29 ((p3 2) % (8 : Int)))) = Bool.true →
      (((lcOk (p3 0) (x'21).1 2 8 mc38 mt39 lc40 lt41 ((((p3 2) % (8 : Int)) + (1 : Int)) % (8 : Int))) = Bool.true →
       (((!(bOk (p3 0) (x'21).1 2 8 tMidg050 tMidg151 tLeafg052 tLeafg153 (0 : Int))) = Bool.true →
        (b66 = b66 ∧
         (b11 = b11 ∧
         (∀ b67 : Nat,
         (∀ b68 : Nat,
         (b67 = b67 ∧
         (b68 = b68 ∧
         ((((bR (p3 0) (x'21).1 2 8 tMidg050 tMidg151 tLeafg052 tLeafg153 (0 : Int)) == (x'21).1) = Bool.true →
         (b67 = b67 ∧
          (b68 = b68 ∧
          (Exists (fun (g069 : (Nat →
          Int)) => (Exists (fun (g170 : (Nat →
          Int)) => ((ro062 = ro062 ∧
          (2 = 2 ∧
          [(fun (i71 : Nat) => (SC.int (bMc (p3 0) (x'21).1 2 8 tMidg050 tMidg151 tLeafg052 tLeafg153 (0 : Int) i71))), (fun (i72 : Nat) => (SC.int (bMt (p3 0) (x'21).1 2 8 tMidg050 tMidg151 tLeafg052 tLeafg153 (0 : Int) i72)))] = [(fun (i73 : Nat) => (SC.int (g069 i73))), (fun (i74 : Nat) => (SC.int (g170 i74)))])) ∧
          (Exists (fun (g075 : (Nat →
          Int)) => (Exists (fun (g176 : (Nat →
          Int)) => ((ro022 = ro022 ∧
          (2 = 2 ∧
          [(fun (i77 : Nat) => (SC.int ((x'21).2 i77))), (fun (i78 : Nat) => (SC.int ((x'21).3 i78)))] = [(fun (i79 : Nat) => (SC.int (g075 i79))), (fun (i80 : Nat) => (SC.int (g176 i80)))])) ∧
          (((lenC 2) ∧
          (eqN 2 2)) ∧
          (((sameNB 2 g069 g170 g075 g176) = Bool.true →
          (b67 = b67 ∧
           (b68 = b68 ∧
           (Exists (fun (g081 : (Nat →
           Int)) => (Exists (fun (g182 : (Nat →
           Int)) => ((ro164 = ro164 ∧
           (8 = 8 ∧
           [(fun (i83 : Nat) => (SC.int (bLc (p3 0) (x'21).1 2 8 tMidg050 tMidg151 tLeafg052 tLeafg153 (0 : Int) i83))), (fun (i84 : Nat) => (SC.int (bLt (p3 0) (x'21).1 2 8 tMidg050 tMidg151 tLeafg052 tLeafg153 (0 : Int) i84)))] = [(fun (i85 : Nat) => (SC.int (g081 i85))), (fun (i86 : Nat) => (SC.int (g182 i86)))])) ∧
           (Exists (fun (g087 : (Nat →
           Int)) => (Exists (fun (g188 : (Nat →
           Int)) => ((ro124 = ro124 ∧
           (8 = 8 ∧
           [(fun (j89 : Nat) => (SC.int (if j89 = (Int.toNat ((p3 2) % (8 : Int))) then ((((x'21).4 (Int.toNat ((p3 2) % (8 : Int)))) + (1 : Int)) + (p3 3)) else ((x'21).4 j89)))), (fun (i90 : Nat) => (SC.int ((x'21).5 i90)))] = [(fun (i91 : Nat) => (SC.int (g087 i91))), (fun (i92 : Nat) => (SC.int (g188 i92)))])) ∧
           (((lenC 8) ∧
           (eqN 8 8)) ∧
           (Value.bool (sameNB 8 g081 g182 g087 g188)) = (Value.bool Bool.true))))))))))))))) ∧
          ((sameNB 2 g069 g170 g075 g176) = Bool.false →
          (Value.bool Bool.false) = (Value.bool Bool.true))))))))))))))))) ∧
         (((bR (p3 0) (x'21).1 2 8 tMidg050 tMidg151 tLeafg052 tLeafg153 (0 : Int)) == (x'21).1) = Bool.false →
         (Value.bool Bool.false) = (Value.bool Bool.true)))))))))) ∧
        ((!(bOk (p3 0) (x'21).1 2 8 tMidg050 tMidg151 tLeafg052 tLeafg153 (0 : Int))) = Bool.false →
        (Value.bool Bool.false) = (Value.bool Bool.true)))) ∧
       ((lcOk (p3 0) (x'21).1 2 8 mc38 mt39 lc40 lt41 ((((p3 2) % (8 : Int)) + (1 : Int)) % (8 : Int))) = Bool.false →
       (Value.bool Bool.false) = (Value.bool Bool.true)))) ∧
      ((!(lcOk (p3 0) (x'21).1 2 8 mc26 mt27 lc28 lt29 ((p3 2) % (8 : Int)))) = Bool.false →
      (Value.bool Bool.false) = (Value.bool Bool.true))))))))))))))))))))) ∧
      (∀ b93 : Nat,
      (True ∧
      (Exists (fun (tMidg094 : (Nat →
      Int)) => (Exists (fun (tMidg195 : (Nat →
      Int)) => (Exists (fun (tLeafg096 : (Nat →
      Int)) => (Exists (fun (tLeafg197 : (Nat →
      Int)) => ((ro022 = ro022 ∧
      (2 = 2 ∧
      ([(fun (i98 : Nat) => (SC.int ((x'21).2 i98))), (fun (i99 : Nat) => (SC.int ((x'21).3 i99)))] = [(fun (i100 : Nat) => (SC.int (tMidg094 i100))), (fun (i101 : Nat) => (SC.int (tMidg195 i101)))] ∧
      (ro124 = ro124 ∧
      (8 = 8 ∧
      ([(fun (j102 : Nat) => (SC.int (if j102 = (Int.toNat ((p3 2) % (8 : Int))) then ((((x'21).4 (Int.toNat ((p3 2) % (8 : Int)))) + (1 : Int)) + (p3 3)) else ((x'21).4 j102)))), (fun (i103 : Nat) => (SC.int ((x'21).5 i103)))] = [(fun (i104 : Nat) => (SC.int (tLeafg096 i104))), (fun (i105 : Nat) => (SC.int (tLeafg197 i105)))] ∧
      ((capC 2) ∧
      (capC 8)))))))) ∧
      (∀ ro0106 : (Option Addr),
      (∀ rc0107 : Nat,
      (∀ ro1108 : (Option Addr),
      (∀ rc1109 : Nat,
      (True ∧
      (b93 = b93 ∧
      (True ∧
      (((!(lcOk (p3 0) (x'21).1 2 8 mc26 mt27 lc28 lt29 ((p3 2) % (8 : Int)))) = Bool.true →
      (((lcOk (p3 0) (x'21).1 2 8 mc38 mt39 lc40 lt41 ((((p3 2) % (8 : Int)) + (1 : Int)) % (8 : Int))) = Bool.true →
       (((!(bOk (p3 0) (x'21).1 2 8 tMidg094 tMidg195 tLeafg096 tLeafg197 (0 : Int))) = Bool.true →
        (b93 = b93 ∧
         (b11 = b11 ∧
         (∀ b110 : Nat,
         (∀ b111 : Nat,
         (b110 = b110 ∧
         (b111 = b111 ∧
         ((((bR (p3 0) (x'21).1 2 8 tMidg094 tMidg195 tLeafg096 tLeafg197 (0 : Int)) == (x'21).1) = Bool.true →
         (b110 = b110 ∧
          (b111 = b111 ∧
          (Exists (fun (g0112 : (Nat →
          Int)) => (Exists (fun (g1113 : (Nat →
          Int)) => ((ro0106 = ro0106 ∧
          (2 = 2 ∧
          [(fun (i114 : Nat) => (SC.int (bMc (p3 0) (x'21).1 2 8 tMidg094 tMidg195 tLeafg096 tLeafg197 (0 : Int) i114))), (fun (i115 : Nat) => (SC.int (bMt (p3 0) (x'21).1 2 8 tMidg094 tMidg195 tLeafg096 tLeafg197 (0 : Int) i115)))] = [(fun (i116 : Nat) => (SC.int (g0112 i116))), (fun (i117 : Nat) => (SC.int (g1113 i117)))])) ∧
          (Exists (fun (g0118 : (Nat →
          Int)) => (Exists (fun (g1119 : (Nat →
          Int)) => ((ro022 = ro022 ∧
          (2 = 2 ∧
          [(fun (i120 : Nat) => (SC.int ((x'21).2 i120))), (fun (i121 : Nat) => (SC.int ((x'21).3 i121)))] = [(fun (i122 : Nat) => (SC.int (g0118 i122))), (fun (i123 : Nat) => (SC.int (g1119 i123)))])) ∧
          (((lenC 2) ∧
          (eqN 2 2)) ∧
          (((sameNB 2 g0112 g1113 g0118 g1119) = Bool.true →
          (b110 = b110 ∧
           (b111 = b111 ∧
           (Exists (fun (g0124 : (Nat →
           Int)) => (Exists (fun (g1125 : (Nat →
           Int)) => ((ro1108 = ro1108 ∧
           (8 = 8 ∧
           [(fun (i126 : Nat) => (SC.int (bLc (p3 0) (x'21).1 2 8 tMidg094 tMidg195 tLeafg096 tLeafg197 (0 : Int) i126))), (fun (i127 : Nat) => (SC.int (bLt (p3 0) (x'21).1 2 8 tMidg094 tMidg195 tLeafg096 tLeafg197 (0 : Int) i127)))] = [(fun (i128 : Nat) => (SC.int (g0124 i128))), (fun (i129 : Nat) => (SC.int (g1125 i129)))])) ∧
           (Exists (fun (g0130 : (Nat →
           Int)) => (Exists (fun (g1131 : (Nat →
           Int)) => ((ro124 = ro124 ∧
           (8 = 8 ∧
           [(fun (j132 : Nat) => (SC.int (if j132 = (Int.toNat ((p3 2) % (8 : Int))) then ((((x'21).4 (Int.toNat ((p3 2) % (8 : Int)))) + (1 : Int)) + (p3 3)) else ((x'21).4 j132)))), (fun (i133 : Nat) => (SC.int ((x'21).5 i133)))] = [(fun (i134 : Nat) => (SC.int (g0130 i134))), (fun (i135 : Nat) => (SC.int (g1131 i135)))])) ∧
           (((lenC 8) ∧
           (eqN 8 8)) ∧
           (Value.bool (sameNB 8 g0124 g1125 g0130 g1131)) = (Value.bool Bool.true))))))))))))))) ∧
          ((sameNB 2 g0112 g1113 g0118 g1119) = Bool.false →
          (Value.bool Bool.false) = (Value.bool Bool.true))))))))))))))))) ∧
         (((bR (p3 0) (x'21).1 2 8 tMidg094 tMidg195 tLeafg096 tLeafg197 (0 : Int)) == (x'21).1) = Bool.false →
         (Value.bool Bool.false) = (Value.bool Bool.true)))))))))) ∧
        ((!(bOk (p3 0) (x'21).1 2 8 tMidg094 tMidg195 tLeafg096 tLeafg197 (0 : Int))) = Bool.false →
        (Value.bool Bool.false) = (Value.bool Bool.true)))) ∧
       ((lcOk (p3 0) (x'21).1 2 8 mc38 mt39 lc40 lt41 ((((p3 2) % (8 : Int)) + (1 : Int)) % (8 : Int))) = Bool.false →
       (Value.bool Bool.false) = (Value.bool Bool.true)))) ∧
      ((!(lcOk (p3 0) (x'21).1 2 8 mc26 mt27 lc28 lt29 ((p3 2) % (8 : Int)))) = Bool.false →
      (Value.bool Bool.false) = (Value.bool Bool.true)))))))))))))))))))))))))))))))))))))))))))))))))))))))))))))))))))))))))))))))))))))))))))))))))))))))))))))))))))))))))))))))))))))))))))) := by kernel_rfl
theorem law_FnForged_any (co : Option Addr) (cn cc : Nat) (cu : Nat → Int) (W : World) (hr : Row.sat W ⟨false, co, 0, 1, cn, 0, [fun i => .u8 (cu i)]⟩) (hu : ∀ i, 0 ≤ cu i ∧ cu i ≤ 255) : Calls Try.prog 5 #[.slice co cn cc] W fun e W' => e = .returned (.bool true) ∧ Below W.heap.size W W' := by
  refine fn_ok mixed (E := {tb := [(9, sBig), (10, sPlaces), (15, sTNewX), (16, sBumpX), (14, sLC), (12, sBump), (18, sSameT)]}) ⟨sBig_ok, sPlaces_ok, sTNewX_S, sBumpX_S, sLC_impl, sBump_ok_bumpI, sSameT_ok, trivial⟩ Try.func5 (fun _ _ => loopsOK_nil _ _ _) (@Eq.mpr _ _ (law_FnForged_T co cn cc cu) ?_) (HS.rows (fun _ => False) [⟨false, co, 0, 1, cn, 0, [fun i => .u8 (cu i)]⟩] (by simpa using hr)) (fun v ch' w' hk hs => ⟨by rw [hk], hs.below⟩)
  clear hr
  by_cases hle : cn ≤ 1048576
  · have hcode : codeC cn cu := ⟨hle, hu⟩
    refine ⟨fun h => by exfalso; replace h := of_decide_eq_true h; omega, fun h => ?_⟩
    clear h
    refine ⟨cu, ⟨⟨rfl, rfl, rfl⟩, hcode⟩, ?_⟩
    intro p ro rc hp
    have hw : isW (p 0) = true := btw_yes (by have h1 := hp 0; have e : isub 10000 1 = 9999 := rfl; have h2 := h1.1; have h3 := h1.2; omega)
    have h7 := mod8 (x := p 2)
    have p3 : inR (p 3) 0 9999 := hp 3
    repeat' (first
      | with_reducible exact rfl
      | exact True.intro
      | with_reducible assumption
      | with_reducible exact plc_min hp _
      | with_reducible exact plc_max hp _
      | with_reducible exact mod8
      | refine And.intro ?_ ?_
      | apply Exists.intro
      | (intro (h : GoodX _ _ ∧ _ = (0 : Int)); obtain ⟨hX0, hr0⟩ := h; have hb0 : leZ _ 1000 := Int.le_trans (Int.le_of_eq hr0) (by decide))
      | (intro (h : GoodX _ _ ∧ BumpX _ _ _); obtain ⟨hX, hBp⟩ := h; have hyr := hBp.1; obtain ⟨f1, f2, f3, f4, f5⟩ := hX.forge (by rw [hyr, hr0]; decide) h7 p3; have p31 := p3.1; have p32 := p3.2)
      | exact congrArg Value.bool (sameN_yes fun i _ => ⟨by simp [bLc, f3], by simp [bLt, f3]⟩)
      | (intro h; exfalso; rw [sameN_yes fun i _ => ⟨by simp [bMc, f3], by simp [bMt, f3]⟩] at h; cases h; done)
      | (intro h; exfalso; rw [f1] at h; simp at h; done)
      | (intro h; exfalso; rw [f2] at h; simp at h; done)
      | (intro h; exfalso; rw [f3] at h; simp at h; done)
      | (intro h; exfalso; simp only [bR, f3] at h; simp at h; done)
      | intro _
      | omega)
    all_goals trace_state
  · refine ⟨fun _ => rfl, fun h => ?_⟩
    replace h := of_decide_eq_false h
    exfalso
    omega
theorem walk_FnForged (ao : Option Addr) (len cap : Nat) (w : World) (h : Has w (.slice .u8) [.slice ao len cap]) : Calls Try.prog 5 #[.slice ao len cap] w fun e w' => e = .returned (.bool true) ∧ Below w.heap.size w w' := by
  obtain ⟨u, hu, hr⟩ := row_u8_of_has h
  exact law_FnForged_any ao len cap u w hr hu
end Go.Proofs.Ytppeocfcdeiemaa

/-
  FnSecured.
-/
import Derived.Test.YtppeocfcdeiemaaSxDrS3
import Derived.Test.YtppeocfcdeiemaaSxCode
namespace Go.Proofs.Ytppeocfcdeiemaa
set_option linter.unusedVariables false
set_option linter.unusedSimpArgs false
open Go.RowKit
set_option maxRecDepth 100000
set_option maxHeartbeats 8000000

def sBig : Sm := inlM Try.prog {tb := []} 300 Try.f9
theorem sBig_ok : SmOK Try.prog 9 sBig := inlM_ok mixed (E := {tb := []}) trivial Try.func9 Try.call9 (fun _ _ _ => loopsOK_nil _ _ _)
theorem law_FnSecured_T (co : Option Addr) (cn cc : Nat) (cu : Nat → Int) : (exFn Try.prog {tb := [(9, sBig), (10, sPlaces), (19, sDrawS), (25, sSWriteX), (21, sRead), (26, sRead), (24, sSOk)]} 400 Try.f8 ([.a (.c (.sl 0 co cn cc))]) ([.row ⟨false, co, 0, 1, cn, 0, [fun i => .u8 (cu i)]⟩]) (fun v _ => v.den = .bool true)) = (
  (((decide (((cn : Nat) : Int) > (1048576 : Int))) = Bool.true →
  (Value.bool Bool.true) = (Value.bool Bool.true)) ∧
  ((decide (((cn : Nat) : Int) > (1048576 : Int))) = Bool.false →
  (Exists (fun (u0 : (Nat →
   Int)) => (((co = co ∧
   (cn = cn ∧
   [(fun (i1 : Nat) => (SC.u8 (cu i1)))] = [(fun (i2 : Nat) => (SC.u8 (u0 i2)))])) ∧
   (codeC cn u0)) ∧
   (∀ key3 : Int,
   (∀ s4 : SecX,
   (∀ ro05 : (Option Addr),
   (∀ rc06 : Nat,
   (∀ ro17 : (Option Addr),
   (∀ rc18 : Nat,
   (∀ ro29 : (Option Addr),
   (∀ rc210 : Nat,
   (∀ ro311 : (Option Addr),
   (∀ rc312 : Nat,
   (((GoodS key3 s4) ∧
   (leZ ((s4).1).1 (7 : Int))) →
   (∀ b13 : Nat,
    (b13 = b13 ∧
    (Exists (fun (u14 : (Nat →
    Int)) => (((co = co ∧
    (cn = cn ∧
    [(fun (i15 : Nat) => (SC.u8 (cu i15)))] = [(fun (i16 : Nat) => (SC.u8 (u14 i16)))])) ∧
    (codeC cn u14)) ∧
    (∀ p17 : (Nat →
    Int),
    (∀ ro018 : (Option Addr),
    (∀ rc019 : Nat,
    ((plC p17) →
    (ro018 = ro018 ∧
     (12 = 12 ∧
     ((0 ≤ (0 : Int) ∧ (0 : Int) < ((12 : Nat) : Int)) ∧
     (ro018 = ro018 ∧
     (0 < 12 ∧
     ((divC (p17 0) (8 : Int)) ∧
     (ro018 = ro018 ∧
     (12 = 12 ∧
     ((0 ≤ (1 : Int) ∧ (1 : Int) < ((12 : Nat) : Int)) ∧
     (ro018 = ro018 ∧
     (1 < 12 ∧
     ((divC (p17 1) (8 : Int)) ∧
     (b13 = b13 ∧
     (ro018 = ro018 ∧
     (12 = 12 ∧
     ((0 ≤ (2 : Int) ∧ (2 : Int) < ((12 : Nat) : Int)) ∧
     (ro018 = ro018 ∧
     (2 < 12 ∧
     ((Exists (fun (s20 : SecX) => ((ro05 = ro05 ∧
     (2 = 2 ∧
     ([(fun (i21 : Nat) => (SC.int (((s4).1).2 i21))), (fun (i22 : Nat) => (SC.int (((s4).1).3 i22)))] = [(fun (i23 : Nat) => (SC.int (((s20).1).2 i23))), (fun (i24 : Nat) => (SC.int (((s20).1).3 i24)))] ∧
     (ro17 = ro17 ∧
     (8 = 8 ∧
     ([(fun (i25 : Nat) => (SC.int (((s4).1).4 i25))), (fun (i26 : Nat) => (SC.int (((s4).1).5 i26)))] = [(fun (i27 : Nat) => (SC.int (((s20).1).4 i27))), (fun (i28 : Nat) => (SC.int (((s20).1).5 i28)))] ∧
     (ro29 = ro29 ∧
     (8 = 8 ∧
     ([(fun (i29 : Nat) => (SC.int ((s4).3 i29)))] = [(fun (i30 : Nat) => (SC.int ((s20).3 i30)))] ∧
     (ro311 = ro311 ∧
     (8 = 8 ∧
     ([(fun (i31 : Nat) => (SC.int ((s4).4 i31)))] = [(fun (i32 : Nat) => (SC.int ((s20).4 i32)))] ∧
     (2 = 2 ∧
     (8 = 8 ∧
     (8 = 8 ∧
     (8 = 8 ∧
     (((s4).1).1 = ((s20).1).1 ∧
     ((GoodS key3 s20) ∧
     ((leZ ((s20).1).1 (1000 : Int)) ∧
     ((inR ((p17 0) % (8 : Int)) (0 : Int) (7 : Int)) ∧
     (inR (p17 2) (0 : Int) (4294967295 : Int)))))))))))))))))))))) ∧
     (∀ s'33 : SecX,
     (∀ ro034 : (Option Addr),
     (∀ rc035 : Nat,
     (∀ ro136 : (Option Addr),
     (∀ rc137 : Nat,
     (∀ ro238 : (Option Addr),
     (∀ rc239 : Nat,
     (∀ ro340 : (Option Addr),
     (∀ rc341 : Nat,
     (((GoodS key3 s'33) ∧
     (WriteX s20 ((p17 0) % (8 : Int)) (p17 2) s'33)) →
     (True ∧
      (∀ b42 : Nat,
      (True ∧
      (b42 = b42 ∧
      (True ∧
      (b42 = b42 ∧
      (Exists (fun (sTreeMidg043 : (Nat →
      Int)) => (Exists (fun (sTreeMidg144 : (Nat →
      Int)) => (Exists (fun (sTreeLeafg045 : (Nat →
      Int)) => (Exists (fun (sTreeLeafg146 : (Nat →
      Int)) => (Exists (fun (sDatag047 : (Nat →
      Int)) => (Exists (fun (sTagsg048 : (Nat →
      Int)) => ((ro034 = ro034 ∧
      (2 = 2 ∧
      ([(fun (i49 : Nat) => (SC.int (((s'33).1).2 i49))), (fun (i50 : Nat) => (SC.int (((s'33).1).3 i50)))] = [(fun (i51 : Nat) => (SC.int (sTreeMidg043 i51))), (fun (i52 : Nat) => (SC.int (sTreeMidg144 i52)))] ∧
      (ro136 = ro136 ∧
      (8 = 8 ∧
      ([(fun (i53 : Nat) => (SC.int (((s'33).1).4 i53))), (fun (i54 : Nat) => (SC.int (((s'33).1).5 i54)))] = [(fun (i55 : Nat) => (SC.int (sTreeLeafg045 i55))), (fun (i56 : Nat) => (SC.int (sTreeLeafg146 i56)))] ∧
      (ro238 = ro238 ∧
      (8 = 8 ∧
      ([(fun (i57 : Nat) => (SC.int ((s'33).3 i57)))] = [(fun (i58 : Nat) => (SC.int (sDatag047 i58)))] ∧
      (ro340 = ro340 ∧
      (8 = 8 ∧
      [(fun (i59 : Nat) => (SC.int ((s'33).4 i59)))] = [(fun (i60 : Nat) => (SC.int (sTagsg048 i60)))]))))))))))) ∧
      (b42 = b42 ∧
      (Exists (fun (sTreeMidg061 : (Nat →
      Int)) => (Exists (fun (sTreeMidg162 : (Nat →
      Int)) => (Exists (fun (sTreeLeafg063 : (Nat →
      Int)) => (Exists (fun (sTreeLeafg164 : (Nat →
      Int)) => (Exists (fun (sDatag065 : (Nat →
      Int)) => (Exists (fun (sTagsg066 : (Nat →
      Int)) => ((ro034 = ro034 ∧
      (2 = 2 ∧
      ([(fun (i67 : Nat) => (SC.int (((s'33).1).2 i67))), (fun (i68 : Nat) => (SC.int (((s'33).1).3 i68)))] = [(fun (i69 : Nat) => (SC.int (sTreeMidg061 i69))), (fun (i70 : Nat) => (SC.int (sTreeMidg162 i70)))] ∧
      (ro136 = ro136 ∧
      (8 = 8 ∧
      ([(fun (i71 : Nat) => (SC.int (((s'33).1).4 i71))), (fun (i72 : Nat) => (SC.int (((s'33).1).5 i72)))] = [(fun (i73 : Nat) => (SC.int (sTreeLeafg063 i73))), (fun (i74 : Nat) => (SC.int (sTreeLeafg164 i74)))] ∧
      (ro238 = ro238 ∧
      (8 = 8 ∧
      ([(fun (i75 : Nat) => (SC.int ((s'33).3 i75)))] = [(fun (i76 : Nat) => (SC.int (sDatag065 i76)))] ∧
      (ro340 = ro340 ∧
      (8 = 8 ∧
      [(fun (i77 : Nat) => (SC.int ((s'33).4 i77)))] = [(fun (i78 : Nat) => (SC.int (sTagsg066 i78)))]))))))))))) ∧
      (b13 = b13 ∧
      (Exists (fun (sTreeMidg079 : (Nat →
      Int)) => (Exists (fun (sTreeMidg180 : (Nat →
      Int)) => (Exists (fun (sTreeLeafg081 : (Nat →
      Int)) => (Exists (fun (sTreeLeafg182 : (Nat →
      Int)) => (Exists (fun (sDatag083 : (Nat →
      Int)) => (Exists (fun (sTagsg084 : (Nat →
      Int)) => ((ro05 = ro05 ∧
      (2 = 2 ∧
      ([(fun (i85 : Nat) => (SC.int (((s4).1).2 i85))), (fun (i86 : Nat) => (SC.int (((s4).1).3 i86)))] = [(fun (i87 : Nat) => (SC.int (sTreeMidg079 i87))), (fun (i88 : Nat) => (SC.int (sTreeMidg180 i88)))] ∧
      (ro17 = ro17 ∧
      (8 = 8 ∧
      ([(fun (i89 : Nat) => (SC.int (((s4).1).4 i89))), (fun (i90 : Nat) => (SC.int (((s4).1).5 i90)))] = [(fun (i91 : Nat) => (SC.int (sTreeLeafg081 i91))), (fun (i92 : Nat) => (SC.int (sTreeLeafg182 i92)))] ∧
      (ro29 = ro29 ∧
      (8 = 8 ∧
      ([(fun (i93 : Nat) => (SC.int ((s4).3 i93)))] = [(fun (i94 : Nat) => (SC.int (sDatag083 i94)))] ∧
      (ro311 = ro311 ∧
      (8 = 8 ∧
      [(fun (i95 : Nat) => (SC.int ((s4).4 i95)))] = [(fun (i96 : Nat) => (SC.int (sTagsg084 i96)))]))))))))))) ∧
      (((rdOk key3 ((s'33).1).1 2 8 sTreeMidg043 sTreeMidg144 sTreeLeafg045 sTreeLeafg146 8 8 sDatag047 sTagsg048 ((p17 0) % (8 : Int))) = Bool.true →
      (ro018 = ro018 ∧
       (12 = 12 ∧
       ((0 ≤ (2 : Int) ∧ (2 : Int) < ((12 : Nat) : Int)) ∧
       (ro018 = ro018 ∧
       (2 < 12 ∧
       ((((rdV key3 ((s'33).1).1 2 8 sTreeMidg043 sTreeMidg144 sTreeLeafg045 sTreeLeafg146 8 8 sDatag047 sTagsg048 ((p17 0) % (8 : Int))) == (p17 2)) = Bool.true →
       (((rdOk key3 ((s4).1).1 2 8 sTreeMidg079 sTreeMidg180 sTreeLeafg081 sTreeLeafg182 8 8 sDatag083 sTagsg084 ((p17 1) % (8 : Int))) = Bool.true →
        (((((p17 1) % (8 : Int)) == ((p17 0) % (8 : Int))) = Bool.false →
         ((((rdV key3 ((s'33).1).1 2 8 sTreeMidg061 sTreeMidg162 sTreeLeafg063 sTreeLeafg164 8 8 sDatag065 sTagsg066 ((p17 1) % (8 : Int))) == (rdV key3 ((s4).1).1 2 8 sTreeMidg079 sTreeMidg180 sTreeLeafg081 sTreeLeafg182 8 8 sDatag083 sTagsg084 ((p17 1) % (8 : Int)))) = Bool.true →
          (b42 = b42 ∧
           (Exists (fun (sTreeMidg097 : (Nat →
           Int)) => (Exists (fun (sTreeMidg198 : (Nat →
           Int)) => (Exists (fun (sTreeLeafg099 : (Nat →
           Int)) => (Exists (fun (sTreeLeafg1100 : (Nat →
           Int)) => (Exists (fun (sDatag0101 : (Nat →
           Int)) => (Exists (fun (sTagsg0102 : (Nat →
           Int)) => ((ro034 = ro034 ∧
           (2 = 2 ∧
           ([(fun (i103 : Nat) => (SC.int (((s'33).1).2 i103))), (fun (i104 : Nat) => (SC.int (((s'33).1).3 i104)))] = [(fun (i105 : Nat) => (SC.int (sTreeMidg097 i105))), (fun (i106 : Nat) => (SC.int (sTreeMidg198 i106)))] ∧
           (ro136 = ro136 ∧
           (8 = 8 ∧
           ([(fun (i107 : Nat) => (SC.int (((s'33).1).4 i107))), (fun (i108 : Nat) => (SC.int (((s'33).1).5 i108)))] = [(fun (i109 : Nat) => (SC.int (sTreeLeafg099 i109))), (fun (i110 : Nat) => (SC.int (sTreeLeafg1100 i110)))] ∧
           (ro238 = ro238 ∧
           (8 = 8 ∧
           ([(fun (i111 : Nat) => (SC.int ((s'33).3 i111)))] = [(fun (i112 : Nat) => (SC.int (sDatag0101 i112)))] ∧
           (ro340 = ro340 ∧
           (8 = 8 ∧
           [(fun (i113 : Nat) => (SC.int ((s'33).4 i113)))] = [(fun (i114 : Nat) => (SC.int (sTagsg0102 i114)))]))))))))))) ∧
           (((secB key3 ((s'33).1).1 2 8 sTreeMidg097 sTreeMidg198 sTreeLeafg099 sTreeLeafg1100 8 8 sDatag0101 sTagsg0102) = Bool.true →
           (b13 = b13 ∧
            (Exists (fun (sTreeMidg0115 : (Nat →
            Int)) => (Exists (fun (sTreeMidg1116 : (Nat →
            Int)) => (Exists (fun (sTreeLeafg0117 : (Nat →
            Int)) => (Exists (fun (sTreeLeafg1118 : (Nat →
            Int)) => (Exists (fun (sDatag0119 : (Nat →
            Int)) => (Exists (fun (sTagsg0120 : (Nat →
            Int)) => ((ro05 = ro05 ∧
            (2 = 2 ∧
            ([(fun (i121 : Nat) => (SC.int (((s4).1).2 i121))), (fun (i122 : Nat) => (SC.int (((s4).1).3 i122)))] = [(fun (i123 : Nat) => (SC.int (sTreeMidg0115 i123))), (fun (i124 : Nat) => (SC.int (sTreeMidg1116 i124)))] ∧
            (ro17 = ro17 ∧
            (8 = 8 ∧
            ([(fun (i125 : Nat) => (SC.int (((s4).1).4 i125))), (fun (i126 : Nat) => (SC.int (((s4).1).5 i126)))] = [(fun (i127 : Nat) => (SC.int (sTreeLeafg0117 i127))), (fun (i128 : Nat) => (SC.int (sTreeLeafg1118 i128)))] ∧
            (ro29 = ro29 ∧
            (8 = 8 ∧
            ([(fun (i129 : Nat) => (SC.int ((s4).3 i129)))] = [(fun (i130 : Nat) => (SC.int (sDatag0119 i130)))] ∧
            (ro311 = ro311 ∧
            (8 = 8 ∧
            [(fun (i131 : Nat) => (SC.int ((s4).4 i131)))] = [(fun (i132 : Nat) => (SC.int (sTagsg0120 i132)))]))))))))))) ∧
            (Value.bool (secB key3 ((s4).1).1 2 8 sTreeMidg0115 sTreeMidg1116 sTreeLeafg0117 sTreeLeafg1118 8 8 sDatag0119 sTagsg0120)) = (Value.bool Bool.true)))))))))))))))) ∧
           ((secB key3 ((s'33).1).1 2 8 sTreeMidg097 sTreeMidg198 sTreeLeafg099 sTreeLeafg1100 8 8 sDatag0101 sTagsg0102) = Bool.false →
           (Value.bool Bool.false) = (Value.bool Bool.true)))))))))))))))))) ∧
          (((rdV key3 ((s'33).1).1 2 8 sTreeMidg061 sTreeMidg162 sTreeLeafg063 sTreeLeafg164 8 8 sDatag065 sTagsg066 ((p17 1) % (8 : Int))) == (rdV key3 ((s4).1).1 2 8 sTreeMidg079 sTreeMidg180 sTreeLeafg081 sTreeLeafg182 8 8 sDatag083 sTagsg084 ((p17 1) % (8 : Int)))) = Bool.false →
          (Value.bool Bool.false) = (Value.bool Bool.true)))) ∧
         ((((p17 1) % (8 : Int)) == ((p17 0) % (8 : Int))) = Bool.true →
         (b42 = b42 ∧
          (Exists (fun (sTreeMidg0133 : (Nat →
          Int)) => (Exists (fun (sTreeMidg1134 : (Nat →
          Int)) => (Exists (fun (sTreeLeafg0135 : (Nat →
          Int)) => (Exists (fun (sTreeLeafg1136 : (Nat →
          Int)) => (Exists (fun (sDatag0137 : (Nat →
          Int)) => (Exists (fun (sTagsg0138 : (Nat →
          Int)) => ((ro034 = ro034 ∧
          (2 = 2 ∧
          ([(fun (i139 : Nat) => (SC.int (((s'33).1).2 i139))), (fun (i140 : Nat) => (SC.int (((s'33).1).3 i140)))] = [(fun (i141 : Nat) => (SC.int (sTreeMidg0133 i141))), (fun (i142 : Nat) => (SC.int (sTreeMidg1134 i142)))] ∧
          (ro136 = ro136 ∧
          (8 = 8 ∧
          ([(fun (i143 : Nat) => (SC.int (((s'33).1).4 i143))), (fun (i144 : Nat) => (SC.int (((s'33).1).5 i144)))] = [(fun (i145 : Nat) => (SC.int (sTreeLeafg0135 i145))), (fun (i146 : Nat) => (SC.int (sTreeLeafg1136 i146)))] ∧
          (ro238 = ro238 ∧
          (8 = 8 ∧
          ([(fun (i147 : Nat) => (SC.int ((s'33).3 i147)))] = [(fun (i148 : Nat) => (SC.int (sDatag0137 i148)))] ∧
          (ro340 = ro340 ∧
          (8 = 8 ∧
          [(fun (i149 : Nat) => (SC.int ((s'33).4 i149)))] = [(fun (i150 : Nat) => (SC.int (sTagsg0138 i150)))]))))))))))) ∧
          (((secB key3 ((s'33).1).1 2 8 sTreeMidg0133 sTreeMidg1134 sTreeLeafg0135 sTreeLeafg1136 8 8 sDatag0137 sTagsg0138) = Bool.true →
          (b13 = b13 ∧
           (Exists (fun (sTreeMidg0151 : (Nat →
           Int)) => (Exists (fun (sTreeMidg1152 : (Nat →
           Int)) => (Exists (fun (sTreeLeafg0153 : (Nat →
           Int)) => (Exists (fun (sTreeLeafg1154 : (Nat →
           Int)) => (Exists (fun (sDatag0155 : (Nat →
           Int)) => (Exists (fun (sTagsg0156 : (Nat →
           Int)) => ((ro05 = ro05 ∧
           (2 = 2 ∧
           ([(fun (i157 : Nat) => (SC.int (((s4).1).2 i157))), (fun (i158 : Nat) => (SC.int (((s4).1).3 i158)))] = [(fun (i159 : Nat) => (SC.int (sTreeMidg0151 i159))), (fun (i160 : Nat) => (SC.int (sTreeMidg1152 i160)))] ∧
           (ro17 = ro17 ∧
           (8 = 8 ∧
           ([(fun (i161 : Nat) => (SC.int (((s4).1).4 i161))), (fun (i162 : Nat) => (SC.int (((s4).1).5 i162)))] = [(fun (i163 : Nat) => (SC.int (sTreeLeafg0153 i163))), (fun (i164 : Nat) => (SC.int (sTreeLeafg1154 i164)))] ∧
           (ro29 = ro29 ∧
           (8 = 8 ∧
           ([(fun (i165 : Nat) => (SC.int ((s4).3 i165)))] = [(fun (i166 : Nat) => (SC.int (sDatag0155 i166)))] ∧
           (ro311 = ro311 ∧
           (8 = 8 ∧
           [(fun (i167 : Nat) => (SC.int ((s4).4 i167)))] = [(fun (i168 : Nat) => (SC.int (sTagsg0156 i168)))]))))))))))) ∧
           (Value.bool (secB key3 ((s4).1).1 2 8 sTreeMidg0151 sTreeMidg1152 sTreeLeafg0153 sTreeLeafg1154 8 8 sDatag0155 sTagsg0156)) = (Value.bool Bool.true)))))))))))))))) ∧
          ((secB key3 ((s'33).1).1 2 8 sTreeMidg0133 sTreeMidg1134 sTreeLeafg0135 sTreeLeafg1136 8 8 sDatag0137 sTagsg0138) = Bool.false →
          (Value.bool Bool.false) = (Value.bool Bool.true)))))))))))))))))))) ∧
        ((rdOk key3 ((s4).1).1 2 8 sTreeMidg079 sTreeMidg180 sTreeLeafg081 sTreeLeafg182 8 8 sDatag083 sTagsg084 ((p17 1) % (8 : Int))) = Bool.false →
        (Value.bool Bool.false) = (Value.bool Bool.true)))) ∧
       (((rdV key3 ((s'33).1).1 2 8 sTreeMidg043 sTreeMidg144 sTreeLeafg045 sTreeLeafg146 8 8 sDatag047 sTagsg048 ((p17 0) % (8 : Int))) == (p17 2)) = Bool.false →
       (Value.bool Bool.false) = (Value.bool Bool.true))))))))) ∧
      ((rdOk key3 ((s'33).1).1 2 8 sTreeMidg043 sTreeMidg144 sTreeLeafg045 sTreeLeafg146 8 8 sDatag047 sTagsg048 ((p17 0) % (8 : Int))) = Bool.false →
      (Value.bool Bool.false) = (Value.bool Bool.true))))))))))))))))))))))))))))))))))))))))))))))))))))))))))))))) ∧
     (∀ b169 : Nat,
     (True ∧
     (Exists (fun (s170 : SecX) => ((ro05 = ro05 ∧
     (2 = 2 ∧
     ([(fun (i171 : Nat) => (SC.int (((s4).1).2 i171))), (fun (i172 : Nat) => (SC.int (((s4).1).3 i172)))] = [(fun (i173 : Nat) => (SC.int (((s170).1).2 i173))), (fun (i174 : Nat) => (SC.int (((s170).1).3 i174)))] ∧
     (ro17 = ro17 ∧
     (8 = 8 ∧
     ([(fun (i175 : Nat) => (SC.int (((s4).1).4 i175))), (fun (i176 : Nat) => (SC.int (((s4).1).5 i176)))] = [(fun (i177 : Nat) => (SC.int (((s170).1).4 i177))), (fun (i178 : Nat) => (SC.int (((s170).1).5 i178)))] ∧
     (ro29 = ro29 ∧
     (8 = 8 ∧
     ([(fun (i179 : Nat) => (SC.int ((s4).3 i179)))] = [(fun (i180 : Nat) => (SC.int ((s170).3 i180)))] ∧
     (ro311 = ro311 ∧
     (8 = 8 ∧
     ([(fun (i181 : Nat) => (SC.int ((s4).4 i181)))] = [(fun (i182 : Nat) => (SC.int ((s170).4 i182)))] ∧
     (2 = 2 ∧
     (8 = 8 ∧
     (8 = 8 ∧
     (8 = 8 ∧
     (((s4).1).1 = ((s170).1).1 ∧
     ((GoodS key3 s170) ∧
     ((leZ ((s170).1).1 (1000 : Int)) ∧
     ((inR ((p17 0) % (8 : Int)) (0 : Int) (7 : Int)) ∧
     (inR (p17 2) (0 : Int) (4294967295 : Int)))))))))))))))))))))) ∧
     (∀ s'183 : SecX,
     (∀ ro0184 : (Option Addr),
     (∀ rc0185 : Nat,
     (∀ ro1186 : (Option Addr),
     (∀ rc1187 : Nat,
     (∀ ro2188 : (Option Addr),
     (∀ rc2189 : Nat,
     (∀ ro3190 : (Option Addr),
     (∀ rc3191 : Nat,
     (((GoodS key3 s'183) ∧
     (WriteX s170 ((p17 0) % (8 : Int)) (p17 2) s'183)) →
     (True ∧
      (b169 = b169 ∧
      (True ∧
      (b169 = b169 ∧
      (Exists (fun (sTreeMidg0192 : (Nat →
      Int)) => (Exists (fun (sTreeMidg1193 : (Nat →
      Int)) => (Exists (fun (sTreeLeafg0194 : (Nat →
      Int)) => (Exists (fun (sTreeLeafg1195 : (Nat →
      Int)) => (Exists (fun (sDatag0196 : (Nat →
      Int)) => (Exists (fun (sTagsg0197 : (Nat →
      Int)) => ((ro0184 = ro0184 ∧
      (2 = 2 ∧
      ([(fun (i198 : Nat) => (SC.int (((s'183).1).2 i198))), (fun (i199 : Nat) => (SC.int (((s'183).1).3 i199)))] = [(fun (i200 : Nat) => (SC.int (sTreeMidg0192 i200))), (fun (i201 : Nat) => (SC.int (sTreeMidg1193 i201)))] ∧
      (ro1186 = ro1186 ∧
      (8 = 8 ∧
      ([(fun (i202 : Nat) => (SC.int (((s'183).1).4 i202))), (fun (i203 : Nat) => (SC.int (((s'183).1).5 i203)))] = [(fun (i204 : Nat) => (SC.int (sTreeLeafg0194 i204))), (fun (i205 : Nat) => (SC.int (sTreeLeafg1195 i205)))] ∧
      (ro2188 = ro2188 ∧
      (8 = 8 ∧
      ([(fun (i206 : Nat) => (SC.int ((s'183).3 i206)))] = [(fun (i207 : Nat) => (SC.int (sDatag0196 i207)))] ∧
      (ro3190 = ro3190 ∧
      (8 = 8 ∧
      [(fun (i208 : Nat) => (SC.int ((s'183).4 i208)))] = [(fun (i209 : Nat) => (SC.int (sTagsg0197 i209)))]))))))))))) ∧
      (b169 = b169 ∧
      (Exists (fun (sTreeMidg0210 : (Nat →
      Int)) => (Exists (fun (sTreeMidg1211 : (Nat →
      Int)) => (Exists (fun (sTreeLeafg0212 : (Nat →
      Int)) => (Exists (fun (sTreeLeafg1213 : (Nat →
      Int)) => (Exists (fun (sDatag0214 : (Nat →
      Int)) => (Exists (fun (sTagsg0215 : (Nat →
      Int)) => ((ro0184 = ro0184 ∧
      (2 = 2 ∧
      ([(fun (i216 : Nat) => (SC.int (((s'183).1).2 i216))), (fun (i217 : Nat) => (SC.int (((s'183).1).3 i217)))] = [(fun (i218 : Nat) => (SC.int (sTreeMidg0210 i218))), (fun (i219 : Nat) => (SC.int (sTreeMidg1211 i219)))] ∧
      (ro1186 = ro1186 ∧
      (8 = 8 ∧
      ([(fun (i220 : Nat) => (SC.int (((s'183).1).4 i220))), (fun (i221 : Nat) => (SC.int (((s'183).1).5 i221)))] = [(fun (i222 : Nat) => (SC.int (sTreeLeafg0212 i222))), (fun (i223 : Nat) => (SC.int (sTreeLeafg1213 i223)))] ∧
      (ro2188 = ro2188 ∧
      (8 = 8 ∧
      ([(fun (i224 : Nat) => (SC.int ((s'183).3 i224)))] = [(fun (i225 : Nat) => (SC.int (sDatag0214 i225)))] ∧
      (ro3190 = ro3190 ∧
      (8 = 8 ∧
      [(fun (i226 : Nat) => (SC.int ((s'183).4 i226)))] = [(fun (i227 : Nat) => (SC.int (sTagsg0215 i227)))]))))))))))) ∧
      (b13 = b13 ∧
      (Exists (fun (sTreeMidg0228 : (Nat →
      Int)) => (Exists (fun (sTreeMidg1229 : (Nat →
      Int)) => (Exists (fun (sTreeLeafg0230 : (Nat →
      Int)) => (Exists (fun (sTreeLeafg1231 : (Nat →
      Int)) => (Exists (fun (sDatag0232 : (Nat →
      Int)) => (Exists (fun (sTagsg0233 : (Nat →
      Int)) => ((ro05 = ro05 ∧
      (2 = 2 ∧
      ([(fun (i234 : Nat) => (SC.int (((s4).1).2 i234))), (fun (i235 : Nat) => (SC.int (((s4).1).3 i235)))] = [(fun (i236 : Nat) => (SC.int (sTreeMidg0228 i236))), (fun (i237 : Nat) => (SC.int (sTreeMidg1229 i237)))] ∧
      (ro17 = ro17 ∧
      (8 = 8 ∧
      ([(fun (i238 : Nat) => (SC.int (((s4).1).4 i238))), (fun (i239 : Nat) => (SC.int (((s4).1).5 i239)))] = [(fun (i240 : Nat) => (SC.int (sTreeLeafg0230 i240))), (fun (i241 : Nat) => (SC.int (sTreeLeafg1231 i241)))] ∧
      (ro29 = ro29 ∧
      (8 = 8 ∧
      ([(fun (i242 : Nat) => (SC.int ((s4).3 i242)))] = [(fun (i243 : Nat) => (SC.int (sDatag0232 i243)))] ∧
      (ro311 = ro311 ∧
      (8 = 8 ∧
      [(fun (i244 : Nat) => (SC.int ((s4).4 i244)))] = [(fun (i245 : Nat) => (SC.int (sTagsg0233 i245)))]))))))))))) ∧
      (((rdOk key3 ((s'183).1).1 2 8 sTreeMidg0192 sTreeMidg1193 sTreeLeafg0194 sTreeLeafg1195 8 8 sDatag0196 sTagsg0197 ((p17 0) % (8 : Int))) = Bool.true →
      (ro018 = ro018 ∧
       (12 = 12 ∧
       ((0 ≤ (2 : Int) ∧ (2 : Int) < ((12 : Nat) : Int)) ∧
       (ro018 = ro018 ∧
       (2 < 12 ∧
       ((((rdV key3 ((s'183).1).1 2 8 sTreeMidg0192 sTreeMidg1193 sTreeLeafg0194 sTreeLeafg1195 8 8 sDatag0196 sTagsg0197 ((p17 0) % (8 : Int))) == (p17 2)) = Bool.true →
       (((rdOk key3 ((s4).1).1 2 8 sTreeMidg0228 sTreeMidg1229 sTreeLeafg0230 sTreeLeafg1231 8 8 sDatag0232 sTagsg0233 ((p17 1) % (8 : Int))) = Bool.true →
        (((((p17 1) % (8 : Int)) == ((p17 0) % (8 : Int))) = Bool.false →
         ((((rdV key3 ((s'183).1).1 2 8 sTreeMidg0210 sTreeMidg1211 sTreeLeafg0212 sTreeLeafg1213 8 8 sDatag0214 sTagsg0215 ((p17 1) % (8 : Int))) == (rdV key3 ((s4).1).1 2 8 sTreeMidg0228 sTreeMidg1229 sTreeLeafg0230 sTreeLeafg1231 8 8 sDatag0232 sTagsg0233 ((p17 1) % (8 : Int)))) = Bool.true →
          (b169 = b169 ∧
           (Exists (fun (sTreeMidg0246 : (Nat →
           Int)) => (Exists (fun (sTreeMidg1247 : (Nat →
           Int)) => (Exists (fun (sTreeLeafg0248 : (Nat →
           Int)) => (Exists (fun (sTreeLeafg1249 : (Nat →
           Int)) => (Exists (fun (sDatag0250 : (Nat →
           Int)) => (Exists (fun (sTagsg0251 : (Nat →
           Int)) => ((ro0184 = ro0184 ∧
           (2 = 2 ∧
           ([(fun (i252 : Nat) => (SC.int (((s'183).1).2 i252))), (fun (i253 : Nat) => (SC.int (((s'183).1).3 i253)))] = [(fun (i254 : Nat) => (SC.int (sTreeMidg0246 i254))), (fun (i255 : Nat) => (SC.int (sTreeMidg1247 i255)))] ∧
           (ro1186 = ro1186 ∧
           (8 = 8 ∧
           ([(fun (i256 : Nat) => (SC.int (((s'183).1).4 i256))), (fun (i257 : Nat) => (SC.int (((s'183).1).5 i257)))] = [(fun (i258 : Nat) => (SC.int (sTreeLeafg0248 i258))), (fun (i259 : Nat) => (SC.int (sTreeLeafg1249 i259)))] ∧
           (ro2188 = ro2188 ∧
           (8 = 8 ∧
           ([(fun (i260 : Nat) => (SC.int ((s'183).3 i260)))] = [(fun (i261 : Nat) => (SC.int (sDatag0250 i261)))] ∧
           (ro3190 = ro3190 ∧
           (8 = 8 ∧
           [(fun (i262 : Nat) => (SC.int ((s'183).4 i262)))] = [(fun (i263 : Nat) => (SC.int (sTagsg0251 i263)))]))))))))))) ∧
           (((secB key3 ((s'183).1).1 2 8 sTreeMidg0246 sTreeMidg1247 sTreeLeafg0248 sTreeLeafg1249 8 8 sDatag0250 sTagsg0251) = Bool.true →
           (b13 = b13 ∧
            (Exists (fun (sTreeMidg0264 : (Nat →
            Int)) => (Exists (fun (sTreeMidg1265 : (Nat →
            Int)) => (Exists (fun (sTreeLeafg0266 : (Nat →
            Int)) => (Exists (fun (sTreeLeafg1267 : (Nat →
            Int)) => (Exists (fun (sDatag0268 : (Nat →
            Int)) => (Exists (fun (sTagsg0269 : (Nat →
            Int)) => ((ro05 = ro05 ∧
            (2 = 2 ∧
            ([(fun (i270 : Nat) => (SC.int (((s4).1).2 i270))), (fun (i271 : Nat) => (SC.int (((s4).1).3 i271)))] = [(fun (i272 : Nat) => (SC.int (sTreeMidg0264 i272))), (fun (i273 : Nat) => (SC.int (sTreeMidg1265 i273)))] ∧
            (ro17 = ro17 ∧
            (8 = 8 ∧
            ([(fun (i274 : Nat) => (SC.int (((s4).1).4 i274))), (fun (i275 : Nat) => (SC.int (((s4).1).5 i275)))] = [(fun (i276 : Nat) => (SC.int (sTreeLeafg0266 i276))), (fun (i277 : Nat) => (SC.int (sTreeLeafg1267 i277)))] ∧
            (ro29 = ro29 ∧
            (8 = 8 ∧
            ([(fun (i278 : Nat) => (SC.int ((s4).3 i278)))] = [(fun (i279 : Nat) => (SC.int (sDatag0268 i279)))] ∧
            (ro311 = ro311 ∧
            (8 = 8 ∧
            [(fun (i280 : Nat) => (SC.int ((s4).4 i280)))] = [(fun (i281 : Nat) => (SC.int (sTagsg0269 i281)))]))))))))))) ∧
            (Value.bool (secB key3 ((s4).1).1 2 8 sTreeMidg0264 sTreeMidg1265 sTreeLeafg0266 sTreeLeafg1267 8 8 sDatag0268 sTagsg0269)) = (Value.bool Bool.true)))))))))))))))) ∧
           ((secB key3 ((s'183).1).1 2 8 sTreeMidg0246 sTreeMidg1247 sTreeLeafg0248 sTreeLeafg1249 8 8 sDatag0250 sTagsg0251) = Bool.false →
           (Value.bool Bool.false) = (Value.bool Bool.true)))))))))))))))))) ∧
          (((rdV key3 ((s'183).1).1 2 8 sTreeMidg0210 sTreeMidg1211 sTreeLeafg0212 sTreeLeafg1213 8 8 sDatag0214 sTagsg0215 ((p17 1) % (8 : Int))) == (rdV key3 ((s4).1).1 2 8 sTreeMidg0228 sTreeMidg1229 sTreeLeafg0230 sTreeLeafg1231 8 8 sDatag0232 sTagsg0233 ((p17 1) % (8 : Int)))) = Bool.false →
          (Value.bool Bool.false) = (Value.bool Bool.true)))) ∧
         ((((p17 1) % (8 : Int)) == ((p17 0) % (8 : Int))) = Bool.true →
         (b169 = b169 ∧
          (Exists (fun (sTreeMidg0282 : (Nat →
          Int)) => (Exists (fun (sTreeMidg1283 : (Nat →
          Int)) => (Exists (fun (sTreeLeafg0284 : (Nat →
          Int)) => (Exists (fun (sTreeLeafg1285 : (Nat →
          Int)) => (Exists (fun (sDatag0286 : (Nat →
          Int)) => (Exists (fun (sTagsg0287 : (Nat →
          Int)) => ((ro0184 = ro0184 ∧
          (2 = 2 ∧
          ([(fun (i288 : Nat) => (SC.int (((s'183).1).2 i288))), (fun (i289 : Nat) => (SC.int (((s'183).1).3 i289)))] = [(fun (i290 : Nat) => (SC.int (sTreeMidg0282 i290))), (fun (i291 : Nat) => (SC.int (sTreeMidg1283 i291)))] ∧
          (ro1186 = ro1186 ∧
          (8 = 8 ∧
          ([(fun (i292 : Nat) => (SC.int (((s'183).1).4 i292))), (fun (i293 : Nat) => (SC.int (((s'183).1).5 i293)))] = [(fun (i294 : Nat) => (SC.int (sTreeLeafg0284 i294))), (fun (i295 : Nat) => (SC.int (sTreeLeafg1285 i295)))] ∧
          (ro2188 = ro2188 ∧
          (8 = 8 ∧
          ([(fun (i296 : Nat) => (SC.int ((s'183).3 i296)))] = [(fun (i297 : Nat) => (SC.int (sDatag0286 i297)))] ∧
          (ro3190 = ro3190 ∧
          (8 = 8 ∧
          [(fun (i298 : Nat) => (SC.int ((s'183).4 i298)))] = [(fun (i299 : Nat) => (SC.int (sTagsg0287 i299)))]))))))))))) ∧
          (((secB key3 ((s'183).1).1 2 8 sTreeMidg0282 sTreeMidg1283 sTreeLeafg0284 sTreeLeafg1285 8 8 sDatag0286 sTagsg0287) = Bool.true →
          (b13 = b13 ∧
           (Exists (fun (sTreeMidg0300 : (Nat →
           Int)) => (Exists (fun (sTreeMidg1301 : (Nat →
           Int)) => (Exists (fun (sTreeLeafg0302 : (Nat →
           Int)) => (Exists (fun (sTreeLeafg1303 : (Nat →
           Int)) => (Exists (fun (sDatag0304 : (Nat →
           Int)) => (Exists (fun (sTagsg0305 : (Nat →
           Int)) => ((ro05 = ro05 ∧
           (2 = 2 ∧
           ([(fun (i306 : Nat) => (SC.int (((s4).1).2 i306))), (fun (i307 : Nat) => (SC.int (((s4).1).3 i307)))] = [(fun (i308 : Nat) => (SC.int (sTreeMidg0300 i308))), (fun (i309 : Nat) => (SC.int (sTreeMidg1301 i309)))] ∧
           (ro17 = ro17 ∧
           (8 = 8 ∧
           ([(fun (i310 : Nat) => (SC.int (((s4).1).4 i310))), (fun (i311 : Nat) => (SC.int (((s4).1).5 i311)))] = [(fun (i312 : Nat) => (SC.int (sTreeLeafg0302 i312))), (fun (i313 : Nat) => (SC.int (sTreeLeafg1303 i313)))] ∧
           (ro29 = ro29 ∧
           (8 = 8 ∧
           ([(fun (i314 : Nat) => (SC.int ((s4).3 i314)))] = [(fun (i315 : Nat) => (SC.int (sDatag0304 i315)))] ∧
           (ro311 = ro311 ∧
           (8 = 8 ∧
           [(fun (i316 : Nat) => (SC.int ((s4).4 i316)))] = [(fun (i317 : Nat) => (SC.int (sTagsg0305 i317)))]))))))))))) ∧
           (Value.bool (secB key3 ((s4).1).1 2 8 sTreeMidg0300 sTreeMidg1301 sTreeLeafg0302 sTreeLeafg1303 8 8 sDatag0304 sTagsg0305)) = (Value.bool Bool.true)))))))))))))))) ∧
          ((secB key3 ((s'183).1).1 2 8 sTreeMidg0282 sTreeMidg1283 sTreeLeafg0284 sTreeLeafg1285 8 8 sDatag0286 sTagsg0287) = Bool.false →
          (Value.bool Bool.false) = (Value.bool Bool.true)))))))))))))))))))) ∧
        ((rdOk key3 ((s4).1).1 2 8 sTreeMidg0228 sTreeMidg1229 sTreeLeafg0230 sTreeLeafg1231 8 8 sDatag0232 sTagsg0233 ((p17 1) % (8 : Int))) = Bool.false →
        (Value.bool Bool.false) = (Value.bool Bool.true)))) ∧
       (((rdV key3 ((s'183).1).1 2 8 sTreeMidg0192 sTreeMidg1193 sTreeLeafg0194 sTreeLeafg1195 8 8 sDatag0196 sTagsg0197 ((p17 0) % (8 : Int))) == (p17 2)) = Bool.false →
       (Value.bool Bool.false) = (Value.bool Bool.true))))))))) ∧
      ((rdOk key3 ((s'183).1).1 2 8 sTreeMidg0192 sTreeMidg1193 sTreeLeafg0194 sTreeLeafg1195 8 8 sDatag0196 sTagsg0197 ((p17 0) % (8 : Int))) = Bool.false →
      (Value.bool Bool.false) = (Value.bool Bool.true)))))))))))))))))))))))))))))))))))))))))))))))))))))))))))))))))))))))))))))))))))))))))))))))))))))))))))) := by kernel_rfl
theorem law_FnSecured_any (co : Option Addr) (cn cc : Nat) (cu : Nat → Int) (W : World) (hr : Row.sat W ⟨false, co, 0, 1, cn, 0, [fun i => .u8 (cu i)]⟩) (hu : ∀ i, 0 ≤ cu i ∧ cu i ≤ 255) : Calls Try.prog 8 #[.slice co cn cc] W fun e W' => e = .returned (.bool true) ∧ Below W.heap.size W W' := by
  refine fn_ok mixed (E := {tb := [(9, sBig), (10, sPlaces), (19, sDrawS), (25, sSWriteX), (21, sRead), (26, sRead), (24, sSOk)]}) ⟨sBig_ok, sPlaces_ok, sDrawS_ok, sSWriteX_I, sRead_ok_readI, sRead_ok_readS, sSOk_ok_sokI, trivial⟩ Try.func8 (fun _ _ => loopsOK_nil _ _ _) (@Eq.mpr _ _ (law_FnSecured_T co cn cc cu) ?_) (HS.rows (fun _ => False) [⟨false, co, 0, 1, cn, 0, [fun i => .u8 (cu i)]⟩] (by simpa using hr)) (fun v ch' w' hk hs => ⟨by rw [hk], hs.below⟩)
  clear hr
  by_cases hle : cn ≤ 1048576
  · have hcode : codeC cn cu := ⟨hle, hu⟩
    refine ⟨fun h => by exfalso; replace h := of_decide_eq_true h; omega, fun h => ?_⟩
    clear h
    refine ⟨cu, ⟨⟨rfl, rfl, rfl⟩, hcode⟩, ?_⟩
    intro key s ro0 rc0 ro1 rc1 ro2 rc2 ro3 rc3 ⟨hS, hb7⟩
    have hb7' : s.t.root ≤ 7 := hb7
    have hb : leZ s.t.root 1000 := by show _ ≤ _; omega
    have hb' : s.t.root ≤ 1000 := hb
    intro bb
    refine ⟨rfl, cu, ⟨⟨rfl, rfl, rfl⟩, hcode⟩, ?_⟩
    intro p po pc hp
    have hk := mod8 (x := p 0)
    have hj := mod8 (x := p 1)
    have hx : inR (p 2) 0 4294967295 := by have h1 := hp 2; have e : isub 10000 1 = 9999 := rfl; have h2 := h1.1; have h3 := h1.2; exact ⟨h2, by omega⟩
    have g1 := hS.rd hb' hj
    have g2 := hS.sec hb'
    repeat' (first
      | with_reducible exact rfl
      | exact True.intro
      | with_reducible assumption
      | with_reducible exact plc_min hp _
      | with_reducible exact plc_max hp _
      | with_reducible exact mod8
      | refine And.intro ?_ ?_
      | apply Exists.intro
      | (intro (h : GoodS _ _ ∧ WriteX _ _ _ _); obtain ⟨hY, hBp⟩ := h; have hyr := hBp.1.1; have hyb := hBp.1.le hb7'; have f1 := hY.rd hyb hk; have f2 := hY.rd hyb hj; have f3 := hY.sec hyb)
      | (intro h; exfalso; rw [f1.1] at h; simp at h; done)
      | (intro h; exfalso; rw [f2.1] at h; simp at h; done)
      | (intro h; exfalso; rw [f3] at h; simp at h; done)
      | (intro h; exfalso; rw [g1.1] at h; simp at h; done)
      | (intro h; exfalso; rw [g2] at h; simp at h; done)
      | (intro h; exfalso; rw [f1.2] at h; simp at h; done)
      | (intro h; exfalso; rw [f2.2, g1.2, hBp.2] at h; simp at h; done)
      | exact congrArg Value.bool g2
      | (intro h; have hne : p 1 % 8 ≠ p 0 % 8 := by simpa using h)
      | (intro h; exfalso; rw [f2.2, g1.2, hBp.2, if_neg (by have h3 := hk.1; have h4 := hj.1; omega)] at h; simp at h; done)
      | (intro h; exfalso; rw [f1.2, hBp.2] at h; simp at h; done)
      | (intro (h : _ ∧ _); obtain ⟨_, _⟩ := h)
      | intro _
      | omega)
    all_goals trace_state
  · refine ⟨fun _ => rfl, fun h => ?_⟩
    replace h := of_decide_eq_false h
    exfalso
    omega
theorem walk_FnSecured (ao : Option Addr) (len cap : Nat) (w : World) (h : Has w (.slice .u8) [.slice ao len cap]) : Calls Try.prog 8 #[.slice ao len cap] w fun e w' => e = .returned (.bool true) ∧ Below w.heap.size w w' := by
  obtain ⟨u, hu, hr⟩ := row_u8_of_has h
  exact law_FnSecured_any ao len cap u w hr hu
end Go.Proofs.Ytppeocfcdeiemaa

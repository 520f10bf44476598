/-
  FnReplayed.
-/
import Derived.Test.YtppeocfcdeiemaaSxDrS3
import Derived.Test.YtppeocfcdeiemaaSxCode
namespace Go.Proofs.Ytppeocfcdeiemaa
set_option linter.unusedVariables false
set_option linter.unusedSimpArgs false
open Go.RowKit
set_option maxRecDepth 100000
set_option maxHeartbeats 8000000

def sBig : Sm := inlM Try.prog {tb := []} 300 Try.f9
theorem sBig_ok : SmOK Try.prog 9 sBig := inlM_ok mixed (E := {tb := []}) trivial Try.func9 Try.call9 (fun _ _ _ => loopsOK_nil _ _ _)
theorem law_FnReplayed_T (co : Option Addr) (cn cc : Nat) (cu : Nat → Int) : (exFn Try.prog {tb := [(9, sBig), (10, sPlaces), (19, sDrawS), (22, sSWriteX), (23, sSRepX), (21, sRead), (24, sSOk)]} 400 Try.f7 ([.a (.c (.sl 0 co cn cc))]) ([.row ⟨false, co, 0, 1, cn, 0, [fun i => .u8 (cu i)]⟩]) (fun v _ => v.den = .bool true)) = (
  (((decide (((cn : Nat) : Int) > (1048576 : Int))) = Bool.true →
  (Value.bool Bool.true) = (Value.bool Bool.true)) ∧
  ((decide (((cn : Nat) : Int) > (1048576 : Int))) = Bool.false →
  (Exists (fun (u0 : (Nat →
   Int)) => (((co = co ∧
   (cn = cn ∧
   [(fun (i1 : Nat) => (SC.u8 (cu i1)))] = [(fun (i2 : Nat) => (SC.u8 (u0 i2)))])) ∧
   (codeC cn u0)) ∧
   (∀ key3 : Int,
   (∀ s4 : SecX,
   (∀ ro05 : (Option Addr),
   (∀ rc06 : Nat,
   (∀ ro17 : (Option Addr),
   (∀ rc18 : Nat,
   (∀ ro29 : (Option Addr),
   (∀ rc210 : Nat,
   (∀ ro311 : (Option Addr),
   (∀ rc312 : Nat,
   (((GoodS key3 s4) ∧
   (leZ ((s4).1).1 (7 : Int))) →
   (∀ b13 : Nat,
    (b13 = b13 ∧
    (Exists (fun (u14 : (Nat →
    Int)) => (((co = co ∧
    (cn = cn ∧
    [(fun (i15 : Nat) => (SC.u8 (cu i15)))] = [(fun (i16 : Nat) => (SC.u8 (u14 i16)))])) ∧
    (codeC cn u14)) ∧
    (∀ p17 : (Nat →
    Int),
    (∀ ro018 : (Option Addr),
    (∀ rc019 : Nat,
    ((plC p17) →
    (ro018 = ro018 ∧
     (12 = 12 ∧
     ((0 ≤ (0 : Int) ∧ (0 : Int) < ((12 : Nat) : Int)) ∧
     (ro018 = ro018 ∧
     (0 < 12 ∧
     ((divC (p17 0) (8 : Int)) ∧
     (b13 = b13 ∧
     (ro018 = ro018 ∧
     (12 = 12 ∧
     ((0 ≤ (1 : Int) ∧ (1 : Int) < ((12 : Nat) : Int)) ∧
     (ro018 = ro018 ∧
     (1 < 12 ∧
     ((Exists (fun (s20 : SecX) => ((ro05 = ro05 ∧
     (2 = 2 ∧
     ([(fun (i21 : Nat) => (SC.int (((s4).1).2 i21))), (fun (i22 : Nat) => (SC.int (((s4).1).3 i22)))] = [(fun (i23 : Nat) => (SC.int (((s20).1).2 i23))), (fun (i24 : Nat) => (SC.int (((s20).1).3 i24)))] ∧
     (ro17 = ro17 ∧
     (8 = 8 ∧
     ([(fun (i25 : Nat) => (SC.int (((s4).1).4 i25))), (fun (i26 : Nat) => (SC.int (((s4).1).5 i26)))] = [(fun (i27 : Nat) => (SC.int (((s20).1).4 i27))), (fun (i28 : Nat) => (SC.int (((s20).1).5 i28)))] ∧
     (ro29 = ro29 ∧
     (8 = 8 ∧
     ([(fun (i29 : Nat) => (SC.int ((s4).3 i29)))] = [(fun (i30 : Nat) => (SC.int ((s20).3 i30)))] ∧
     (ro311 = ro311 ∧
     (8 = 8 ∧
     ([(fun (i31 : Nat) => (SC.int ((s4).4 i31)))] = [(fun (i32 : Nat) => (SC.int ((s20).4 i32)))] ∧
     (2 = 2 ∧
     (8 = 8 ∧
     (8 = 8 ∧
     (8 = 8 ∧
     (((s4).1).1 = ((s20).1).1 ∧
     ((GoodS key3 s20) ∧
     ((leZ ((s20).1).1 (1000 : Int)) ∧
     ((inR ((p17 0) % (8 : Int)) (0 : Int) (7 : Int)) ∧
     (inR (p17 1) (0 : Int) (4294967295 : Int)))))))))))))))))))))) ∧
     (∀ s'33 : SecX,
     (∀ ro034 : (Option Addr),
     (∀ rc035 : Nat,
     (∀ ro136 : (Option Addr),
     (∀ rc137 : Nat,
     (∀ ro238 : (Option Addr),
     (∀ rc239 : Nat,
     (∀ ro340 : (Option Addr),
     (∀ rc341 : Nat,
     (((GoodS key3 s'33) ∧
     (WriteX s20 ((p17 0) % (8 : Int)) (p17 1) s'33)) →
     (True ∧
      (∀ b42 : Nat,
      (True ∧
      (b42 = b42 ∧
      (True ∧
      (b42 = b42 ∧
      (b13 = b13 ∧
      (Exists (fun (gMid043 : (Nat →
      Int)) => (Exists (fun (gMid144 : (Nat →
      Int)) => (Exists (fun (gLeaf045 : (Nat →
      Int)) => (Exists (fun (gLeaf146 : (Nat →
      Int)) => (Exists (fun (gDa47 : (Nat →
      Int)) => (Exists (fun (gTa48 : (Nat →
      Int)) => (Exists (fun (hMid049 : (Nat →
      Int)) => (Exists (fun (hMid150 : (Nat →
      Int)) => (Exists (fun (hLeaf051 : (Nat →
      Int)) => (Exists (fun (hLeaf152 : (Nat →
      Int)) => (Exists (fun (hDa53 : (Nat →
      Int)) => (Exists (fun (hTa54 : (Nat →
      Int)) => ((ro034 = ro034 ∧
      (2 = 2 ∧
      ([(fun (i55 : Nat) => (SC.int (((s'33).1).2 i55))), (fun (i56 : Nat) => (SC.int (((s'33).1).3 i56)))] = [(fun (i57 : Nat) => (SC.int (gMid043 i57))), (fun (i58 : Nat) => (SC.int (gMid144 i58)))] ∧
      (ro136 = ro136 ∧
      (8 = 8 ∧
      ([(fun (i59 : Nat) => (SC.int (((s'33).1).4 i59))), (fun (i60 : Nat) => (SC.int (((s'33).1).5 i60)))] = [(fun (i61 : Nat) => (SC.int (gLeaf045 i61))), (fun (i62 : Nat) => (SC.int (gLeaf146 i62)))] ∧
      (ro238 = ro238 ∧
      (8 = 8 ∧
      ([(fun (i63 : Nat) => (SC.int ((s'33).3 i63)))] = [(fun (i64 : Nat) => (SC.int (gDa47 i64)))] ∧
      (ro340 = ro340 ∧
      (8 = 8 ∧
      ([(fun (i65 : Nat) => (SC.int ((s'33).4 i65)))] = [(fun (i66 : Nat) => (SC.int (gTa48 i66)))] ∧
      (ro05 = ro05 ∧
      (2 = 2 ∧
      ([(fun (i67 : Nat) => (SC.int (((s4).1).2 i67))), (fun (i68 : Nat) => (SC.int (((s4).1).3 i68)))] = [(fun (i69 : Nat) => (SC.int (hMid049 i69))), (fun (i70 : Nat) => (SC.int (hMid150 i70)))] ∧
      (ro17 = ro17 ∧
      (8 = 8 ∧
      ([(fun (i71 : Nat) => (SC.int (((s4).1).4 i71))), (fun (i72 : Nat) => (SC.int (((s4).1).5 i72)))] = [(fun (i73 : Nat) => (SC.int (hLeaf051 i73))), (fun (i74 : Nat) => (SC.int (hLeaf152 i74)))] ∧
      (ro29 = ro29 ∧
      (8 = 8 ∧
      ([(fun (i75 : Nat) => (SC.int ((s4).3 i75)))] = [(fun (i76 : Nat) => (SC.int (hDa53 i76)))] ∧
      (ro311 = ro311 ∧
      (8 = 8 ∧
      ([(fun (i77 : Nat) => (SC.int ((s4).4 i77)))] = [(fun (i78 : Nat) => (SC.int (hTa54 i78)))] ∧
      (2 = 2 ∧
      (8 = 8 ∧
      (8 = 8 ∧
      (8 = 8 ∧
      (2 = 2 ∧
      (8 = 8 ∧
      (8 = 8 ∧
      (8 = 8 ∧
      (inR ((p17 0) % (8 : Int)) (0 : Int) (7 : Int)))))))))))))))))))))))))))))))))) ∧
      (∀ ro079 : (Option Addr),
      (∀ rc080 : Nat,
      (∀ ro181 : (Option Addr),
      (∀ rc182 : Nat,
      (∀ ro283 : (Option Addr),
      (∀ rc284 : Nat,
      (∀ ro385 : (Option Addr),
      (∀ rc386 : Nat,
      (∀ b87 : Nat,
      (b87 = b87 ∧
      (b87 = b87 ∧
      (Exists (fun (sTreeMidg088 : (Nat →
      Int)) => (Exists (fun (sTreeMidg189 : (Nat →
      Int)) => (Exists (fun (sTreeLeafg090 : (Nat →
      Int)) => (Exists (fun (sTreeLeafg191 : (Nat →
      Int)) => (Exists (fun (sDatag092 : (Nat →
      Int)) => (Exists (fun (sTagsg093 : (Nat →
      Int)) => ((ro079 = ro079 ∧
      (2 = 2 ∧
      ([(fun (i94 : Nat) => (SC.int (hMid049 i94))), (fun (i95 : Nat) => (SC.int (hMid150 i95)))] = [(fun (i96 : Nat) => (SC.int (sTreeMidg088 i96))), (fun (i97 : Nat) => (SC.int (sTreeMidg189 i97)))] ∧
      (ro181 = ro181 ∧
      (8 = 8 ∧
      ([(fun (i98 : Nat) => (SC.int (hLeaf051 i98))), (fun (i99 : Nat) => (SC.int (hLeaf152 i99)))] = [(fun (i100 : Nat) => (SC.int (sTreeLeafg090 i100))), (fun (i101 : Nat) => (SC.int (sTreeLeafg191 i101)))] ∧
      (ro283 = ro283 ∧
      (8 = 8 ∧
      ([(fun (i102 : Nat) => (SC.int (pD ((p17 0) % (8 : Int)) gDa47 hDa53 i102)))] = [(fun (i103 : Nat) => (SC.int (sDatag092 i103)))] ∧
      (ro385 = ro385 ∧
      (8 = 8 ∧
      [(fun (i104 : Nat) => (SC.int (pD ((p17 0) % (8 : Int)) gTa48 hTa54 i104)))] = [(fun (i105 : Nat) => (SC.int (sTagsg093 i105)))]))))))))))) ∧
      (b42 = b42 ∧
      (Exists (fun (sTreeMidg0106 : (Nat →
      Int)) => (Exists (fun (sTreeMidg1107 : (Nat →
      Int)) => (Exists (fun (sTreeLeafg0108 : (Nat →
      Int)) => (Exists (fun (sTreeLeafg1109 : (Nat →
      Int)) => (Exists (fun (sDatag0110 : (Nat →
      Int)) => (Exists (fun (sTagsg0111 : (Nat →
      Int)) => ((ro034 = ro034 ∧
      (2 = 2 ∧
      ([(fun (i112 : Nat) => (SC.int (((s'33).1).2 i112))), (fun (i113 : Nat) => (SC.int (((s'33).1).3 i113)))] = [(fun (i114 : Nat) => (SC.int (sTreeMidg0106 i114))), (fun (i115 : Nat) => (SC.int (sTreeMidg1107 i115)))] ∧
      (ro136 = ro136 ∧
      (8 = 8 ∧
      ([(fun (i116 : Nat) => (SC.int (((s'33).1).4 i116))), (fun (i117 : Nat) => (SC.int (((s'33).1).5 i117)))] = [(fun (i118 : Nat) => (SC.int (sTreeLeafg0108 i118))), (fun (i119 : Nat) => (SC.int (sTreeLeafg1109 i119)))] ∧
      (ro238 = ro238 ∧
      (8 = 8 ∧
      ([(fun (i120 : Nat) => (SC.int ((s'33).3 i120)))] = [(fun (i121 : Nat) => (SC.int (sDatag0110 i121)))] ∧
      (ro340 = ro340 ∧
      (8 = 8 ∧
      [(fun (i122 : Nat) => (SC.int ((s'33).4 i122)))] = [(fun (i123 : Nat) => (SC.int (sTagsg0111 i123)))]))))))))))) ∧
      (((!(rdOk key3 ((s'33).1).1 2 8 sTreeMidg088 sTreeMidg189 sTreeLeafg090 sTreeLeafg191 8 8 sDatag092 sTagsg093 ((p17 0) % (8 : Int)))) = Bool.true →
      (((rdOk key3 ((s'33).1).1 2 8 sTreeMidg0106 sTreeMidg1107 sTreeLeafg0108 sTreeLeafg1109 8 8 sDatag0110 sTagsg0111 ((p17 0) % (8 : Int))) = Bool.true →
       (ro018 = ro018 ∧
        (12 = 12 ∧
        ((0 ≤ (1 : Int) ∧ (1 : Int) < ((12 : Nat) : Int)) ∧
        (ro018 = ro018 ∧
        (1 < 12 ∧
        ((((rdV key3 ((s'33).1).1 2 8 sTreeMidg0106 sTreeMidg1107 sTreeLeafg0108 sTreeLeafg1109 8 8 sDatag0110 sTagsg0111 ((p17 0) % (8 : Int))) == (p17 1)) = Bool.true →
        (b87 = b87 ∧
         ((((8 : Int) == (8 : Int)) = Bool.true →
         (b87 = b87 ∧
          (ro283 = ro283 ∧
          (8 = 8 ∧
          ((0 ≤ ((p17 0) % (8 : Int)) ∧ ((p17 0) % (8 : Int)) < ((8 : Nat) : Int)) ∧
          (ro283 = ro283 ∧
          ((Int.toNat ((p17 0) % (8 : Int))) < 8 ∧
          (b13 = b13 ∧
          (ro29 = ro29 ∧
          (8 = 8 ∧
          ((0 ≤ ((p17 0) % (8 : Int)) ∧ ((p17 0) % (8 : Int)) < ((8 : Nat) : Int)) ∧
          (ro29 = ro29 ∧
          ((Int.toNat ((p17 0) % (8 : Int))) < 8 ∧
          ((((pD ((p17 0) % (8 : Int)) gDa47 hDa53 (Int.toNat ((p17 0) % (8 : Int)))) == ((s4).3 (Int.toNat ((p17 0) % (8 : Int))))) = Bool.true →
          (b87 = b87 ∧
           (Exists (fun (sTreeMidg0124 : (Nat →
           Int)) => (Exists (fun (sTreeMidg1125 : (Nat →
           Int)) => (Exists (fun (sTreeLeafg0126 : (Nat →
           Int)) => (Exists (fun (sTreeLeafg1127 : (Nat →
           Int)) => (Exists (fun (sDatag0128 : (Nat →
           Int)) => (Exists (fun (sTagsg0129 : (Nat →
           Int)) => ((ro079 = ro079 ∧
           (2 = 2 ∧
           ([(fun (i130 : Nat) => (SC.int (hMid049 i130))), (fun (i131 : Nat) => (SC.int (hMid150 i131)))] = [(fun (i132 : Nat) => (SC.int (sTreeMidg0124 i132))), (fun (i133 : Nat) => (SC.int (sTreeMidg1125 i133)))] ∧
           (ro181 = ro181 ∧
           (8 = 8 ∧
           ([(fun (i134 : Nat) => (SC.int (hLeaf051 i134))), (fun (i135 : Nat) => (SC.int (hLeaf152 i135)))] = [(fun (i136 : Nat) => (SC.int (sTreeLeafg0126 i136))), (fun (i137 : Nat) => (SC.int (sTreeLeafg1127 i137)))] ∧
           (ro283 = ro283 ∧
           (8 = 8 ∧
           ([(fun (i138 : Nat) => (SC.int (pD ((p17 0) % (8 : Int)) gDa47 hDa53 i138)))] = [(fun (i139 : Nat) => (SC.int (sDatag0128 i139)))] ∧
           (ro385 = ro385 ∧
           (8 = 8 ∧
           [(fun (i140 : Nat) => (SC.int (pD ((p17 0) % (8 : Int)) gTa48 hTa54 i140)))] = [(fun (i141 : Nat) => (SC.int (sTagsg0129 i141)))]))))))))))) ∧
           (True ∧
           (Value.bool (!(secB key3 ((s'33).1).1 2 8 sTreeMidg0124 sTreeMidg1125 sTreeLeafg0126 sTreeLeafg1127 8 8 sDatag0128 sTagsg0129))) = (Value.bool Bool.true))))))))))))))))) ∧
          (((pD ((p17 0) % (8 : Int)) gDa47 hDa53 (Int.toNat ((p17 0) % (8 : Int)))) == ((s4).3 (Int.toNat ((p17 0) % (8 : Int))))) = Bool.false →
          (Value.bool Bool.false) = (Value.bool Bool.true)))))))))))))))) ∧
         (((8 : Int) == (8 : Int)) = Bool.false →
         (Value.bool Bool.false) = (Value.bool Bool.true))))) ∧
        (((rdV key3 ((s'33).1).1 2 8 sTreeMidg0106 sTreeMidg1107 sTreeLeafg0108 sTreeLeafg1109 8 8 sDatag0110 sTagsg0111 ((p17 0) % (8 : Int))) == (p17 1)) = Bool.false →
        (Value.bool Bool.false) = (Value.bool Bool.true))))))))) ∧
       ((rdOk key3 ((s'33).1).1 2 8 sTreeMidg0106 sTreeMidg1107 sTreeLeafg0108 sTreeLeafg1109 8 8 sDatag0110 sTagsg0111 ((p17 0) % (8 : Int))) = Bool.false →
       (Value.bool Bool.false) = (Value.bool Bool.true)))) ∧
      ((!(rdOk key3 ((s'33).1).1 2 8 sTreeMidg088 sTreeMidg189 sTreeLeafg090 sTreeLeafg191 8 8 sDatag092 sTagsg093 ((p17 0) % (8 : Int)))) = Bool.false →
      (Value.bool Bool.false) = (Value.bool Bool.true)))))))))))))))))))))))))))))))))))))))))))))))))))))))))))))))))))))))))))))))))))))) ∧
     (∀ b142 : Nat,
     (True ∧
     (Exists (fun (s143 : SecX) => ((ro05 = ro05 ∧
     (2 = 2 ∧
     ([(fun (i144 : Nat) => (SC.int (((s4).1).2 i144))), (fun (i145 : Nat) => (SC.int (((s4).1).3 i145)))] = [(fun (i146 : Nat) => (SC.int (((s143).1).2 i146))), (fun (i147 : Nat) => (SC.int (((s143).1).3 i147)))] ∧
     (ro17 = ro17 ∧
     (8 = 8 ∧
     ([(fun (i148 : Nat) => (SC.int (((s4).1).4 i148))), (fun (i149 : Nat) => (SC.int (((s4).1).5 i149)))] = [(fun (i150 : Nat) => (SC.int (((s143).1).4 i150))), (fun (i151 : Nat) => (SC.int (((s143).1).5 i151)))] ∧
     (ro29 = ro29 ∧
     (8 = 8 ∧
     ([(fun (i152 : Nat) => (SC.int ((s4).3 i152)))] = [(fun (i153 : Nat) => (SC.int ((s143).3 i153)))] ∧
     (ro311 = ro311 ∧
     (8 = 8 ∧
     ([(fun (i154 : Nat) => (SC.int ((s4).4 i154)))] = [(fun (i155 : Nat) => (SC.int ((s143).4 i155)))] ∧
     (2 = 2 ∧
     (8 = 8 ∧
     (8 = 8 ∧
     (8 = 8 ∧
     (((s4).1).1 = ((s143).1).1 ∧
     ((GoodS key3 s143) ∧
     ((leZ ((s143).1).1 (1000 : Int)) ∧
     ((inR ((p17 0) % (8 : Int)) (0 : Int) (7 : Int)) ∧
     (inR (p17 1) (0 : Int) (4294967295 : Int)))))))))))))))))))))) ∧
     (∀ s'156 : SecX,
     (∀ ro0157 : (Option Addr),
     (∀ rc0158 : Nat,
     (∀ ro1159 : (Option Addr),
     (∀ rc1160 : Nat,
     (∀ ro2161 : (Option Addr),
     (∀ rc2162 : Nat,
     (∀ ro3163 : (Option Addr),
     (∀ rc3164 : Nat,
     (((GoodS key3 s'156) ∧
     (WriteX s143 ((p17 0) % (8 : Int)) (p17 1) s'156)) →
     (True ∧
      (b142 = b142 ∧
      (True ∧
      (b142 = b142 ∧
      (b13 = b13 ∧
      (Exists (fun (gMid0165 : (Nat →
      Int)) => (Exists (fun (gMid1166 : (Nat →
      Int)) => (Exists (fun (gLeaf0167 : (Nat →
      Int)) => (Exists (fun (gLeaf1168 : (Nat →
      Int)) => (Exists (fun (gDa169 : (Nat →
      Int)) => (Exists (fun (gTa170 : (Nat →
      Int)) => (Exists (fun (hMid0171 : (Nat →
      Int)) => (Exists (fun (hMid1172 : (Nat →
      Int)) => (Exists (fun (hLeaf0173 : (Nat →
      Int)) => (Exists (fun (hLeaf1174 : (Nat →
      Int)) => (Exists (fun (hDa175 : (Nat →
      Int)) => (Exists (fun (hTa176 : (Nat →
      Int)) => ((ro0157 = ro0157 ∧
      (2 = 2 ∧
      ([(fun (i177 : Nat) => (SC.int (((s'156).1).2 i177))), (fun (i178 : Nat) => (SC.int (((s'156).1).3 i178)))] = [(fun (i179 : Nat) => (SC.int (gMid0165 i179))), (fun (i180 : Nat) => (SC.int (gMid1166 i180)))] ∧
      (ro1159 = ro1159 ∧
      (8 = 8 ∧
      ([(fun (i181 : Nat) => (SC.int (((s'156).1).4 i181))), (fun (i182 : Nat) => (SC.int (((s'156).1).5 i182)))] = [(fun (i183 : Nat) => (SC.int (gLeaf0167 i183))), (fun (i184 : Nat) => (SC.int (gLeaf1168 i184)))] ∧
      (ro2161 = ro2161 ∧
      (8 = 8 ∧
      ([(fun (i185 : Nat) => (SC.int ((s'156).3 i185)))] = [(fun (i186 : Nat) => (SC.int (gDa169 i186)))] ∧
      (ro3163 = ro3163 ∧
      (8 = 8 ∧
      ([(fun (i187 : Nat) => (SC.int ((s'156).4 i187)))] = [(fun (i188 : Nat) => (SC.int (gTa170 i188)))] ∧
      (ro05 = ro05 ∧
      (2 = 2 ∧
      ([(fun (i189 : Nat) => (SC.int (((s4).1).2 i189))), (fun (i190 : Nat) => (SC.int (((s4).1).3 i190)))] = [(fun (i191 : Nat) => (SC.int (hMid0171 i191))), (fun (i192 : Nat) => (SC.int (hMid1172 i192)))] ∧
      (ro17 = ro17 ∧
      (8 = 8 ∧
      ([(fun (i193 : Nat) => (SC.int (((s4).1).4 i193))), (fun (i194 : Nat) => (SC.int (((s4).1).5 i194)))] = [(fun (i195 : Nat) => (SC.int (hLeaf0173 i195))), (fun (i196 : Nat) => (SC.int (hLeaf1174 i196)))] ∧
      (ro29 = ro29 ∧
      (8 = 8 ∧
      ([(fun (i197 : Nat) => (SC.int ((s4).3 i197)))] = [(fun (i198 : Nat) => (SC.int (hDa175 i198)))] ∧
      (ro311 = ro311 ∧
      (8 = 8 ∧
      ([(fun (i199 : Nat) => (SC.int ((s4).4 i199)))] = [(fun (i200 : Nat) => (SC.int (hTa176 i200)))] ∧
      (2 = 2 ∧
      (8 = 8 ∧
      (8 = 8 ∧
      (8 = 8 ∧
      (2 = 2 ∧
      (8 = 8 ∧
      (8 = 8 ∧
      (8 = 8 ∧
      (inR ((p17 0) % (8 : Int)) (0 : Int) (7 : Int)))))))))))))))))))))))))))))))))) ∧
      (∀ ro0201 : (Option Addr),
      (∀ rc0202 : Nat,
      (∀ ro1203 : (Option Addr),
      (∀ rc1204 : Nat,
      (∀ ro2205 : (Option Addr),
      (∀ rc2206 : Nat,
      (∀ ro3207 : (Option Addr),
      (∀ rc3208 : Nat,
      (∀ b209 : Nat,
      (b209 = b209 ∧
      (b209 = b209 ∧
      (Exists (fun (sTreeMidg0210 : (Nat →
      Int)) => (Exists (fun (sTreeMidg1211 : (Nat →
      Int)) => (Exists (fun (sTreeLeafg0212 : (Nat →
      Int)) => (Exists (fun (sTreeLeafg1213 : (Nat →
      Int)) => (Exists (fun (sDatag0214 : (Nat →
      Int)) => (Exists (fun (sTagsg0215 : (Nat →
      Int)) => ((ro0201 = ro0201 ∧
      (2 = 2 ∧
      ([(fun (i216 : Nat) => (SC.int (hMid0171 i216))), (fun (i217 : Nat) => (SC.int (hMid1172 i217)))] = [(fun (i218 : Nat) => (SC.int (sTreeMidg0210 i218))), (fun (i219 : Nat) => (SC.int (sTreeMidg1211 i219)))] ∧
      (ro1203 = ro1203 ∧
      (8 = 8 ∧
      ([(fun (i220 : Nat) => (SC.int (hLeaf0173 i220))), (fun (i221 : Nat) => (SC.int (hLeaf1174 i221)))] = [(fun (i222 : Nat) => (SC.int (sTreeLeafg0212 i222))), (fun (i223 : Nat) => (SC.int (sTreeLeafg1213 i223)))] ∧
      (ro2205 = ro2205 ∧
      (8 = 8 ∧
      ([(fun (i224 : Nat) => (SC.int (pD ((p17 0) % (8 : Int)) gDa169 hDa175 i224)))] = [(fun (i225 : Nat) => (SC.int (sDatag0214 i225)))] ∧
      (ro3207 = ro3207 ∧
      (8 = 8 ∧
      [(fun (i226 : Nat) => (SC.int (pD ((p17 0) % (8 : Int)) gTa170 hTa176 i226)))] = [(fun (i227 : Nat) => (SC.int (sTagsg0215 i227)))]))))))))))) ∧
      (b142 = b142 ∧
      (Exists (fun (sTreeMidg0228 : (Nat →
      Int)) => (Exists (fun (sTreeMidg1229 : (Nat →
      Int)) => (Exists (fun (sTreeLeafg0230 : (Nat →
      Int)) => (Exists (fun (sTreeLeafg1231 : (Nat →
      Int)) => (Exists (fun (sDatag0232 : (Nat →
      Int)) => (Exists (fun (sTagsg0233 : (Nat →
      Int)) => ((ro0157 = ro0157 ∧
      (2 = 2 ∧
      ([(fun (i234 : Nat) => (SC.int (((s'156).1).2 i234))), (fun (i235 : Nat) => (SC.int (((s'156).1).3 i235)))] = [(fun (i236 : Nat) => (SC.int (sTreeMidg0228 i236))), (fun (i237 : Nat) => (SC.int (sTreeMidg1229 i237)))] ∧
      (ro1159 = ro1159 ∧
      (8 = 8 ∧
      ([(fun (i238 : Nat) => (SC.int (((s'156).1).4 i238))), (fun (i239 : Nat) => (SC.int (((s'156).1).5 i239)))] = [(fun (i240 : Nat) => (SC.int (sTreeLeafg0230 i240))), (fun (i241 : Nat) => (SC.int (sTreeLeafg1231 i241)))] ∧
      (ro2161 = ro2161 ∧
      (8 = 8 ∧
      ([(fun (i242 : Nat) => (SC.int ((s'156).3 i242)))] = [(fun (i243 : Nat) => (SC.int (sDatag0232 i243)))] ∧
      (ro3163 = ro3163 ∧
      (8 = 8 ∧
      [(fun (i244 : Nat) => (SC.int ((s'156).4 i244)))] = [(fun (i245 : Nat) => (SC.int (sTagsg0233 i245)))]))))))))))) ∧
      (((!(rdOk key3 ((s'156).1).1 2 8 sTreeMidg0210 sTreeMidg1211 sTreeLeafg0212 sTreeLeafg1213 8 8 sDatag0214 sTagsg0215 ((p17 0) % (8 : Int)))) = Bool.true →
      (((rdOk key3 ((s'156).1).1 2 8 sTreeMidg0228 sTreeMidg1229 sTreeLeafg0230 sTreeLeafg1231 8 8 sDatag0232 sTagsg0233 ((p17 0) % (8 : Int))) = Bool.true →
       (ro018 = ro018 ∧
        (12 = 12 ∧
        ((0 ≤ (1 : Int) ∧ (1 : Int) < ((12 : Nat) : Int)) ∧
        (ro018 = ro018 ∧
        (1 < 12 ∧
        ((((rdV key3 ((s'156).1).1 2 8 sTreeMidg0228 sTreeMidg1229 sTreeLeafg0230 sTreeLeafg1231 8 8 sDatag0232 sTagsg0233 ((p17 0) % (8 : Int))) == (p17 1)) = Bool.true →
        (b209 = b209 ∧
         ((((8 : Int) == (8 : Int)) = Bool.true →
         (b209 = b209 ∧
          (ro2205 = ro2205 ∧
          (8 = 8 ∧
          ((0 ≤ ((p17 0) % (8 : Int)) ∧ ((p17 0) % (8 : Int)) < ((8 : Nat) : Int)) ∧
          (ro2205 = ro2205 ∧
          ((Int.toNat ((p17 0) % (8 : Int))) < 8 ∧
          (b13 = b13 ∧
          (ro29 = ro29 ∧
          (8 = 8 ∧
          ((0 ≤ ((p17 0) % (8 : Int)) ∧ ((p17 0) % (8 : Int)) < ((8 : Nat) : Int)) ∧
          (ro29 = ro29 ∧
          ((Int.toNat ((p17 0) % (8 : Int))) < 8 ∧
          ((((pD ((p17 0) % (8 : Int)) gDa169 hDa175 (Int.toNat ((p17 0) % (8 : Int)))) == ((s4).3 (Int.toNat ((p17 0) % (8 : Int))))) = Bool.true →
          (b209 = b209 ∧
           (Exists (fun (sTreeMidg0246 : (Nat →
           Int)) => (Exists (fun (sTreeMidg1247 : (Nat →
           Int)) => (Exists (fun (sTreeLeafg0248 : (Nat →
           Int)) => (Exists (fun (sTreeLeafg1249 : (Nat →
           Int)) => (Exists (fun (sDatag0250 : (Nat →
           Int)) => (Exists (fun (sTagsg0251 : (Nat →
           Int)) => ((ro0201 = ro0201 ∧
           (2 = 2 ∧
           ([(fun (i252 : Nat) => (SC.int (hMid0171 i252))), (fun (i253 : Nat) => (SC.int (hMid1172 i253)))] = [(fun (i254 : Nat) => (SC.int (sTreeMidg0246 i254))), (fun (i255 : Nat) => (SC.int (sTreeMidg1247 i255)))] ∧
           (ro1203 = ro1203 ∧
           (8 = 8 ∧
           ([(fun (i256 : Nat) => (SC.int (hLeaf0173 i256))), (fun (i257 : Nat) => (SC.int (hLeaf1174 i257)))] = [(fun (i258 : Nat) => (SC.int (sTreeLeafg0248 i258))), (fun (i259 : Nat) => (SC.int (sTreeLeafg1249 i259)))] ∧
           (ro2205 = ro2205 ∧
           (8 = 8 ∧
           ([(fun (i260 : Nat) => (SC.int (pD ((p17 0) % (8 : Int)) gDa169 hDa175 i260)))] = [(fun (i261 : Nat) => (SC.int (sDatag0250 i261)))] ∧
           (ro3207 = ro3207 ∧
           (8 = 8 ∧
           [(fun (i262 : Nat) => (SC.int (pD ((p17 0) % (8 : Int)) gTa170 hTa176 i262)))] = [(fun (i263 : Nat) => (SC.int (sTagsg0251 i263)))]))))))))))) ∧
           (True ∧
           (Value.bool (!(secB key3 ((s'156).1).1 2 8 sTreeMidg0246 sTreeMidg1247 sTreeLeafg0248 sTreeLeafg1249 8 8 sDatag0250 sTagsg0251))) = (Value.bool Bool.true))))))))))))))))) ∧
          (((pD ((p17 0) % (8 : Int)) gDa169 hDa175 (Int.toNat ((p17 0) % (8 : Int)))) == ((s4).3 (Int.toNat ((p17 0) % (8 : Int))))) = Bool.false →
          (Value.bool Bool.false) = (Value.bool Bool.true)))))))))))))))) ∧
         (((8 : Int) == (8 : Int)) = Bool.false →
         (Value.bool Bool.false) = (Value.bool Bool.true))))) ∧
        (((rdV key3 ((s'156).1).1 2 8 sTreeMidg0228 sTreeMidg1229 sTreeLeafg0230 sTreeLeafg1231 8 8 sDatag0232 sTagsg0233 ((p17 0) % (8 : Int))) == (p17 1)) = Bool.false →
        (Value.bool Bool.false) = (Value.bool Bool.true))))))))) ∧
       ((rdOk key3 ((s'156).1).1 2 8 sTreeMidg0228 sTreeMidg1229 sTreeLeafg0230 sTreeLeafg1231 8 8 sDatag0232 sTagsg0233 ((p17 0) % (8 : Int))) = Bool.false →
       (Value.bool Bool.false) = (Value.bool Bool.true)))) ∧
      ((!(rdOk key3 ((s'156).1).1 2 8 sTreeMidg0210 sTreeMidg1211 sTreeLeafg0212 sTreeLeafg1213 8 8 sDatag0214 sTagsg0215 ((p17 0) % (8 : Int)))) = Bool.false →
      (Value.bool Bool.false) = (Value.bool Bool.true))))))))))))))))))))))))))))))))))))))))))))))))))))))))))))))))))))))))))))))))))))))))))))))))))))))))))))))))))))))))))))) := by kernel_rfl
theorem law_FnReplayed_any (co : Option Addr) (cn cc : Nat) (cu : Nat → Int) (W : World) (hr : Row.sat W ⟨false, co, 0, 1, cn, 0, [fun i => .u8 (cu i)]⟩) (hu : ∀ i, 0 ≤ cu i ∧ cu i ≤ 255) : Calls Try.prog 7 #[.slice co cn cc] W fun e W' => e = .returned (.bool true) ∧ Below W.heap.size W W' := by
  refine fn_ok mixed (E := {tb := [(9, sBig), (10, sPlaces), (19, sDrawS), (22, sSWriteX), (23, sSRepX), (21, sRead), (24, sSOk)]}) ⟨sBig_ok, sPlaces_ok, sDrawS_ok, sSWriteX_S, sSRepX_I, sRead_ok_readI, sSOk_ok_sokI, trivial⟩ Try.func7 (fun _ _ => loopsOK_nil _ _ _) (@Eq.mpr _ _ (law_FnReplayed_T co cn cc cu) ?_) (HS.rows (fun _ => False) [⟨false, co, 0, 1, cn, 0, [fun i => .u8 (cu i)]⟩] (by simpa using hr)) (fun v ch' w' hk hs => ⟨by rw [hk], hs.below⟩)
  clear hr
  by_cases hle : cn ≤ 1048576
  · have hcode : codeC cn cu := ⟨hle, hu⟩
    refine ⟨fun h => by exfalso; replace h := of_decide_eq_true h; omega, fun h => ?_⟩
    clear h
    refine ⟨cu, ⟨⟨rfl, rfl, rfl⟩, hcode⟩, ?_⟩
    intro key s ro0 rc0 ro1 rc1 ro2 rc2 ro3 rc3 ⟨hS, hb7⟩
    have hb7' : s.t.root ≤ 7 := hb7
    have hb : leZ s.t.root 1000 := by show _ ≤ _; omega
    have hb' : s.t.root ≤ 1000 := hb
    intro bb
    refine ⟨rfl, cu, ⟨⟨rfl, rfl, rfl⟩, hcode⟩, ?_⟩
    intro p po pc hp
    have hk := mod8 (x := p 0)
    have hj := mod8 (x := p 1)
    have hx : inR (p 1) 0 4294967295 := by have h1 := hp 1; have e : isub 10000 1 = 9999 := rfl; have h2 := h1.1; have h3 := h1.2; exact ⟨h2, by omega⟩
    repeat' (first
      | with_reducible exact rfl
      | exact True.intro
      | with_reducible assumption
      | with_reducible exact plc_min hp _
      | with_reducible exact plc_max hp _
      | with_reducible exact mod8
      | refine And.intro ?_ ?_
      | apply Exists.intro
      | (intro (h : GoodS _ _ ∧ WriteX _ _ _ _); obtain ⟨hY, hBp⟩ := h; have hyr := hBp.1.1; have hyb := hBp.1.le hb7'; have f1 := hY.rd hyb hk; have f2 := fun da ta => hS.replay hb' (da := da) (ta := ta) hk; have f3 := fun da ta => hS.replay' hb' (da := da) (ta := ta); rw [← hyr] at f2 f3)
      | (intro h; exfalso; rw [f1.1] at h; simp at h; done)
      | (intro h; exfalso; rw [f2] at h; simp at h; done)
      | (intro h; exfalso; rw [f3] at h; simp at h; done)
      | (intro h; exfalso; rw [f1.2, hBp.2] at h; simp at h; done)
      | (intro h; exfalso; simp [pD] at h; done)
      | (rw [f3]; rfl)
      | (intro (h : _ ∧ _); obtain ⟨_, _⟩ := h)
      | intro _
      | omega)
    all_goals trace_state
  · refine ⟨fun _ => rfl, fun h => ?_⟩
    replace h := of_decide_eq_false h
    exfalso
    omega
theorem walk_FnReplayed (ao : Option Addr) (len cap : Nat) (w : World) (h : Has w (.slice .u8) [.slice ao len cap]) : Calls Try.prog 7 #[.slice ao len cap] w fun e w' => e = .returned (.bool true) ∧ Below w.heap.size w w' := by
  obtain ⟨u, hu, hr⟩ := row_u8_of_has h
  exact law_FnReplayed_any ao len cap u w hr hu
end Go.Proofs.Ytppeocfcdeiemaa

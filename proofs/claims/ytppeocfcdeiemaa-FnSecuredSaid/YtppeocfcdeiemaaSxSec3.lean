/-
  Secured lines: checked.
-/
import Derived.Test.YtppeocfcdeiemaaSxSec2
namespace Go.Proofs.Ytppeocfcdeiemaa
set_option linter.unusedVariables false
set_option linter.unusedSimpArgs false
open Go.RowKit
set_option maxRecDepth 100000
set_option maxHeartbeats 8000000

def secB (key root : Int) (n m : Nat) (mc mt lc lt : Nat → Int) (dn un : Nat) (da ta : Nat → Int) : Bool := rdOk key root n m mc mt lc lt dn un da ta 0 && rdOk key root n m mc mt lc lt dn un da ta 1 && rdOk key root n m mc mt lc lt dn un da ta 2 && rdOk key root n m mc mt lc lt dn un da ta 3 && rdOk key root n m mc mt lc lt dn un da ta 4 && rdOk key root n m mc mt lc lt dn un da ta 5 && rdOk key root n m mc mt lc lt dn un da ta 6 && rdOk key root n m mc mt lc lt dn un da ta 7
theorem sokI_T (sKey : Int) (sTreeRoot : Int) (sTreeMidO : Option Addr) (sTreeMidN sTreeMidC : Nat) (sTreeMidg0 sTreeMidg1 : Nat → Int) (sTreeLeafO : Option Addr) (sTreeLeafN sTreeLeafC : Nat) (sTreeLeafg0 sTreeLeafg1 : Nat → Int) (sDataO : Option Addr) (sDataN sDataC : Nat) (sDatag0 : Nat → Int) (sTagsO : Option Addr) (sTagsN sTagsC : Nat) (sTagsg0 : Nat → Int) : (exFn Try.prog {tb := [(21, sRead), (13, sTOk)]} 400 Try.f24 ([.a (.agg [.int sKey, .int sTreeRoot, .sl 0 sTreeMidO sTreeMidN sTreeMidC, .sl 1 sTreeLeafO sTreeLeafN sTreeLeafC, .sl 2 sDataO sDataN sDataC, .sl 3 sTagsO sTagsN sTagsC])]) ([.row ⟨false, sTreeMidO, 0, 2, sTreeMidN, 0, [fun i => .int (sTreeMidg0 i), fun i => .int (sTreeMidg1 i)]⟩, .row ⟨false, sTreeLeafO, 0, 2, sTreeLeafN, 0, [fun i => .int (sTreeLeafg0 i), fun i => .int (sTreeLeafg1 i)]⟩, .row ⟨false, sDataO, 0, 1, sDataN, 0, [fun i => .int (sDatag0 i)]⟩, .row ⟨false, sTagsO, 0, 1, sTagsN, 0, [fun i => .int (sTagsg0 i)]⟩]) (fun v _ => v.den = .bool (secB sKey sTreeRoot sTreeMidN sTreeLeafN sTreeMidg0 sTreeMidg1 sTreeLeafg0 sTreeLeafg1 sDataN sTagsN sDatag0 sTagsg0))) = (
  (∀ b0 : Nat,
  (b0 = b0 ∧
  (Exists (fun (sTreeMidg01 : (Nat →
  Int)) => (Exists (fun (sTreeMidg12 : (Nat →
  Int)) => (Exists (fun (sTreeLeafg03 : (Nat →
  Int)) => (Exists (fun (sTreeLeafg14 : (Nat →
  Int)) => (Exists (fun (sDatag05 : (Nat →
  Int)) => (Exists (fun (sTagsg06 : (Nat →
  Int)) => ((sTreeMidO = sTreeMidO ∧
  (sTreeMidN = sTreeMidN ∧
  ([(fun (i7 : Nat) => (SC.int (sTreeMidg0 i7))), (fun (i8 : Nat) => (SC.int (sTreeMidg1 i8)))] = [(fun (i9 : Nat) => (SC.int (sTreeMidg01 i9))), (fun (i10 : Nat) => (SC.int (sTreeMidg12 i10)))] ∧
  (sTreeLeafO = sTreeLeafO ∧
  (sTreeLeafN = sTreeLeafN ∧
  ([(fun (i11 : Nat) => (SC.int (sTreeLeafg0 i11))), (fun (i12 : Nat) => (SC.int (sTreeLeafg1 i12)))] = [(fun (i13 : Nat) => (SC.int (sTreeLeafg03 i13))), (fun (i14 : Nat) => (SC.int (sTreeLeafg14 i14)))] ∧
  (sDataO = sDataO ∧
  (sDataN = sDataN ∧
  ([(fun (i15 : Nat) => (SC.int (sDatag0 i15)))] = [(fun (i16 : Nat) => (SC.int (sDatag05 i16)))] ∧
  (sTagsO = sTagsO ∧
  (sTagsN = sTagsN ∧
  [(fun (i17 : Nat) => (SC.int (sTagsg0 i17)))] = [(fun (i18 : Nat) => (SC.int (sTagsg06 i18)))]))))))))))) ∧
  (((!(rdOk sKey sTreeRoot sTreeMidN sTreeLeafN sTreeMidg01 sTreeMidg12 sTreeLeafg03 sTreeLeafg14 sDataN sTagsN sDatag05 sTagsg06 (0 : Int))) = Bool.true →
  (Value.bool Bool.false) = (Value.bool (secB sKey sTreeRoot sTreeMidN sTreeLeafN sTreeMidg0 sTreeMidg1 sTreeLeafg0 sTreeLeafg1 sDataN sTagsN sDatag0 sTagsg0))) ∧
  ((!(rdOk sKey sTreeRoot sTreeMidN sTreeLeafN sTreeMidg01 sTreeMidg12 sTreeLeafg03 sTreeLeafg14 sDataN sTagsN sDatag05 sTagsg06 (0 : Int))) = Bool.false →
  (b0 = b0 ∧
   (Exists (fun (sTreeMidg019 : (Nat →
   Int)) => (Exists (fun (sTreeMidg120 : (Nat →
   Int)) => (Exists (fun (sTreeLeafg021 : (Nat →
   Int)) => (Exists (fun (sTreeLeafg122 : (Nat →
   Int)) => (Exists (fun (sDatag023 : (Nat →
   Int)) => (Exists (fun (sTagsg024 : (Nat →
   Int)) => ((sTreeMidO = sTreeMidO ∧
   (sTreeMidN = sTreeMidN ∧
   ([(fun (i25 : Nat) => (SC.int (sTreeMidg0 i25))), (fun (i26 : Nat) => (SC.int (sTreeMidg1 i26)))] = [(fun (i27 : Nat) => (SC.int (sTreeMidg019 i27))), (fun (i28 : Nat) => (SC.int (sTreeMidg120 i28)))] ∧
   (sTreeLeafO = sTreeLeafO ∧
   (sTreeLeafN = sTreeLeafN ∧
   ([(fun (i29 : Nat) => (SC.int (sTreeLeafg0 i29))), (fun (i30 : Nat) => (SC.int (sTreeLeafg1 i30)))] = [(fun (i31 : Nat) => (SC.int (sTreeLeafg021 i31))), (fun (i32 : Nat) => (SC.int (sTreeLeafg122 i32)))] ∧
   (sDataO = sDataO ∧
   (sDataN = sDataN ∧
   ([(fun (i33 : Nat) => (SC.int (sDatag0 i33)))] = [(fun (i34 : Nat) => (SC.int (sDatag023 i34)))] ∧
   (sTagsO = sTagsO ∧
   (sTagsN = sTagsN ∧
   [(fun (i35 : Nat) => (SC.int (sTagsg0 i35)))] = [(fun (i36 : Nat) => (SC.int (sTagsg024 i36)))]))))))))))) ∧
   (((!(rdOk sKey sTreeRoot sTreeMidN sTreeLeafN sTreeMidg019 sTreeMidg120 sTreeLeafg021 sTreeLeafg122 sDataN sTagsN sDatag023 sTagsg024 (1 : Int))) = Bool.true →
   (Value.bool Bool.false) = (Value.bool (secB sKey sTreeRoot sTreeMidN sTreeLeafN sTreeMidg0 sTreeMidg1 sTreeLeafg0 sTreeLeafg1 sDataN sTagsN sDatag0 sTagsg0))) ∧
   ((!(rdOk sKey sTreeRoot sTreeMidN sTreeLeafN sTreeMidg019 sTreeMidg120 sTreeLeafg021 sTreeLeafg122 sDataN sTagsN sDatag023 sTagsg024 (1 : Int))) = Bool.false →
   (b0 = b0 ∧
    (Exists (fun (sTreeMidg037 : (Nat →
    Int)) => (Exists (fun (sTreeMidg138 : (Nat →
    Int)) => (Exists (fun (sTreeLeafg039 : (Nat →
    Int)) => (Exists (fun (sTreeLeafg140 : (Nat →
    Int)) => (Exists (fun (sDatag041 : (Nat →
    Int)) => (Exists (fun (sTagsg042 : (Nat →
    Int)) => ((sTreeMidO = sTreeMidO ∧
    (sTreeMidN = sTreeMidN ∧
    ([(fun (i43 : Nat) => (SC.int (sTreeMidg0 i43))), (fun (i44 : Nat) => (SC.int (sTreeMidg1 i44)))] = [(fun (i45 : Nat) => (SC.int (sTreeMidg037 i45))), (fun (i46 : Nat) => (SC.int (sTreeMidg138 i46)))] ∧
    (sTreeLeafO = sTreeLeafO ∧
    (sTreeLeafN = sTreeLeafN ∧
    ([(fun (i47 : Nat) => (SC.int (sTreeLeafg0 i47))), (fun (i48 : Nat) => (SC.int (sTreeLeafg1 i48)))] = [(fun (i49 : Nat) => (SC.int (sTreeLeafg039 i49))), (fun (i50 : Nat) => (SC.int (sTreeLeafg140 i50)))] ∧
    (sDataO = sDataO ∧
    (sDataN = sDataN ∧
    ([(fun (i51 : Nat) => (SC.int (sDatag0 i51)))] = [(fun (i52 : Nat) => (SC.int (sDatag041 i52)))] ∧
    (sTagsO = sTagsO ∧
    (sTagsN = sTagsN ∧
    [(fun (i53 : Nat) => (SC.int (sTagsg0 i53)))] = [(fun (i54 : Nat) => (SC.int (sTagsg042 i54)))]))))))))))) ∧
    (((!(rdOk sKey sTreeRoot sTreeMidN sTreeLeafN sTreeMidg037 sTreeMidg138 sTreeLeafg039 sTreeLeafg140 sDataN sTagsN sDatag041 sTagsg042 (2 : Int))) = Bool.true →
    (Value.bool Bool.false) = (Value.bool (secB sKey sTreeRoot sTreeMidN sTreeLeafN sTreeMidg0 sTreeMidg1 sTreeLeafg0 sTreeLeafg1 sDataN sTagsN sDatag0 sTagsg0))) ∧
    ((!(rdOk sKey sTreeRoot sTreeMidN sTreeLeafN sTreeMidg037 sTreeMidg138 sTreeLeafg039 sTreeLeafg140 sDataN sTagsN sDatag041 sTagsg042 (2 : Int))) = Bool.false →
    (b0 = b0 ∧
     (Exists (fun (sTreeMidg055 : (Nat →
     Int)) => (Exists (fun (sTreeMidg156 : (Nat →
     Int)) => (Exists (fun (sTreeLeafg057 : (Nat →
     Int)) => (Exists (fun (sTreeLeafg158 : (Nat →
     Int)) => (Exists (fun (sDatag059 : (Nat →
     Int)) => (Exists (fun (sTagsg060 : (Nat →
     Int)) => ((sTreeMidO = sTreeMidO ∧
     (sTreeMidN = sTreeMidN ∧
     ([(fun (i61 : Nat) => (SC.int (sTreeMidg0 i61))), (fun (i62 : Nat) => (SC.int (sTreeMidg1 i62)))] = [(fun (i63 : Nat) => (SC.int (sTreeMidg055 i63))), (fun (i64 : Nat) => (SC.int (sTreeMidg156 i64)))] ∧
     (sTreeLeafO = sTreeLeafO ∧
     (sTreeLeafN = sTreeLeafN ∧
     ([(fun (i65 : Nat) => (SC.int (sTreeLeafg0 i65))), (fun (i66 : Nat) => (SC.int (sTreeLeafg1 i66)))] = [(fun (i67 : Nat) => (SC.int (sTreeLeafg057 i67))), (fun (i68 : Nat) => (SC.int (sTreeLeafg158 i68)))] ∧
     (sDataO = sDataO ∧
     (sDataN = sDataN ∧
     ([(fun (i69 : Nat) => (SC.int (sDatag0 i69)))] = [(fun (i70 : Nat) => (SC.int (sDatag059 i70)))] ∧
     (sTagsO = sTagsO ∧
     (sTagsN = sTagsN ∧
     [(fun (i71 : Nat) => (SC.int (sTagsg0 i71)))] = [(fun (i72 : Nat) => (SC.int (sTagsg060 i72)))]))))))))))) ∧
     (((!(rdOk sKey sTreeRoot sTreeMidN sTreeLeafN sTreeMidg055 sTreeMidg156 sTreeLeafg057 sTreeLeafg158 sDataN sTagsN sDatag059 sTagsg060 (3 : Int))) = Bool.true →
     (Value.bool Bool.false) = (Value.bool (secB sKey sTreeRoot sTreeMidN sTreeLeafN sTreeMidg0 sTreeMidg1 sTreeLeafg0 sTreeLeafg1 sDataN sTagsN sDatag0 sTagsg0))) ∧
     ((!(rdOk sKey sTreeRoot sTreeMidN sTreeLeafN sTreeMidg055 sTreeMidg156 sTreeLeafg057 sTreeLeafg158 sDataN sTagsN sDatag059 sTagsg060 (3 : Int))) = Bool.false →
     (b0 = b0 ∧
      (Exists (fun (sTreeMidg073 : (Nat →
      Int)) => (Exists (fun (sTreeMidg174 : (Nat →
      Int)) => (Exists (fun (sTreeLeafg075 : (Nat →
      Int)) => (Exists (fun (sTreeLeafg176 : (Nat →
      Int)) => (Exists (fun (sDatag077 : (Nat →
      Int)) => (Exists (fun (sTagsg078 : (Nat →
      Int)) => ((sTreeMidO = sTreeMidO ∧
      (sTreeMidN = sTreeMidN ∧
      ([(fun (i79 : Nat) => (SC.int (sTreeMidg0 i79))), (fun (i80 : Nat) => (SC.int (sTreeMidg1 i80)))] = [(fun (i81 : Nat) => (SC.int (sTreeMidg073 i81))), (fun (i82 : Nat) => (SC.int (sTreeMidg174 i82)))] ∧
      (sTreeLeafO = sTreeLeafO ∧
      (sTreeLeafN = sTreeLeafN ∧
      ([(fun (i83 : Nat) => (SC.int (sTreeLeafg0 i83))), (fun (i84 : Nat) => (SC.int (sTreeLeafg1 i84)))] = [(fun (i85 : Nat) => (SC.int (sTreeLeafg075 i85))), (fun (i86 : Nat) => (SC.int (sTreeLeafg176 i86)))] ∧
      (sDataO = sDataO ∧
      (sDataN = sDataN ∧
      ([(fun (i87 : Nat) => (SC.int (sDatag0 i87)))] = [(fun (i88 : Nat) => (SC.int (sDatag077 i88)))] ∧
      (sTagsO = sTagsO ∧
      (sTagsN = sTagsN ∧
      [(fun (i89 : Nat) => (SC.int (sTagsg0 i89)))] = [(fun (i90 : Nat) => (SC.int (sTagsg078 i90)))]))))))))))) ∧
      (((!(rdOk sKey sTreeRoot sTreeMidN sTreeLeafN sTreeMidg073 sTreeMidg174 sTreeLeafg075 sTreeLeafg176 sDataN sTagsN sDatag077 sTagsg078 (4 : Int))) = Bool.true →
      (Value.bool Bool.false) = (Value.bool (secB sKey sTreeRoot sTreeMidN sTreeLeafN sTreeMidg0 sTreeMidg1 sTreeLeafg0 sTreeLeafg1 sDataN sTagsN sDatag0 sTagsg0))) ∧
      ((!(rdOk sKey sTreeRoot sTreeMidN sTreeLeafN sTreeMidg073 sTreeMidg174 sTreeLeafg075 sTreeLeafg176 sDataN sTagsN sDatag077 sTagsg078 (4 : Int))) = Bool.false →
      (b0 = b0 ∧
       (Exists (fun (sTreeMidg091 : (Nat →
       Int)) => (Exists (fun (sTreeMidg192 : (Nat →
       Int)) => (Exists (fun (sTreeLeafg093 : (Nat →
       Int)) => (Exists (fun (sTreeLeafg194 : (Nat →
       Int)) => (Exists (fun (sDatag095 : (Nat →
       Int)) => (Exists (fun (sTagsg096 : (Nat →
       Int)) => ((sTreeMidO = sTreeMidO ∧
       (sTreeMidN = sTreeMidN ∧
       ([(fun (i97 : Nat) => (SC.int (sTreeMidg0 i97))), (fun (i98 : Nat) => (SC.int (sTreeMidg1 i98)))] = [(fun (i99 : Nat) => (SC.int (sTreeMidg091 i99))), (fun (i100 : Nat) => (SC.int (sTreeMidg192 i100)))] ∧
       (sTreeLeafO = sTreeLeafO ∧
       (sTreeLeafN = sTreeLeafN ∧
       ([(fun (i101 : Nat) => (SC.int (sTreeLeafg0 i101))), (fun (i102 : Nat) => (SC.int (sTreeLeafg1 i102)))] = [(fun (i103 : Nat) => (SC.int (sTreeLeafg093 i103))), (fun (i104 : Nat) => (SC.int (sTreeLeafg194 i104)))] ∧
       (sDataO = sDataO ∧
       (sDataN = sDataN ∧
       ([(fun (i105 : Nat) => (SC.int (sDatag0 i105)))] = [(fun (i106 : Nat) => (SC.int (sDatag095 i106)))] ∧
       (sTagsO = sTagsO ∧
       (sTagsN = sTagsN ∧
       [(fun (i107 : Nat) => (SC.int (sTagsg0 i107)))] = [(fun (i108 : Nat) => (SC.int (sTagsg096 i108)))]))))))))))) ∧
       (((!(rdOk sKey sTreeRoot sTreeMidN sTreeLeafN sTreeMidg091 sTreeMidg192 sTreeLeafg093 sTreeLeafg194 sDataN sTagsN sDatag095 sTagsg096 (5 : Int))) = Bool.true →
       (Value.bool Bool.false) = (Value.bool (secB sKey sTreeRoot sTreeMidN sTreeLeafN sTreeMidg0 sTreeMidg1 sTreeLeafg0 sTreeLeafg1 sDataN sTagsN sDatag0 sTagsg0))) ∧
       ((!(rdOk sKey sTreeRoot sTreeMidN sTreeLeafN sTreeMidg091 sTreeMidg192 sTreeLeafg093 sTreeLeafg194 sDataN sTagsN sDatag095 sTagsg096 (5 : Int))) = Bool.false →
       (b0 = b0 ∧
        (Exists (fun (sTreeMidg0109 : (Nat →
        Int)) => (Exists (fun (sTreeMidg1110 : (Nat →
        Int)) => (Exists (fun (sTreeLeafg0111 : (Nat →
        Int)) => (Exists (fun (sTreeLeafg1112 : (Nat →
        Int)) => (Exists (fun (sDatag0113 : (Nat →
        Int)) => (Exists (fun (sTagsg0114 : (Nat →
        Int)) => ((sTreeMidO = sTreeMidO ∧
        (sTreeMidN = sTreeMidN ∧
        ([(fun (i115 : Nat) => (SC.int (sTreeMidg0 i115))), (fun (i116 : Nat) => (SC.int (sTreeMidg1 i116)))] = [(fun (i117 : Nat) => (SC.int (sTreeMidg0109 i117))), (fun (i118 : Nat) => (SC.int (sTreeMidg1110 i118)))] ∧
        (sTreeLeafO = sTreeLeafO ∧
        (sTreeLeafN = sTreeLeafN ∧
        ([(fun (i119 : Nat) => (SC.int (sTreeLeafg0 i119))), (fun (i120 : Nat) => (SC.int (sTreeLeafg1 i120)))] = [(fun (i121 : Nat) => (SC.int (sTreeLeafg0111 i121))), (fun (i122 : Nat) => (SC.int (sTreeLeafg1112 i122)))] ∧
        (sDataO = sDataO ∧
        (sDataN = sDataN ∧
        ([(fun (i123 : Nat) => (SC.int (sDatag0 i123)))] = [(fun (i124 : Nat) => (SC.int (sDatag0113 i124)))] ∧
        (sTagsO = sTagsO ∧
        (sTagsN = sTagsN ∧
        [(fun (i125 : Nat) => (SC.int (sTagsg0 i125)))] = [(fun (i126 : Nat) => (SC.int (sTagsg0114 i126)))]))))))))))) ∧
        (((!(rdOk sKey sTreeRoot sTreeMidN sTreeLeafN sTreeMidg0109 sTreeMidg1110 sTreeLeafg0111 sTreeLeafg1112 sDataN sTagsN sDatag0113 sTagsg0114 (6 : Int))) = Bool.true →
        (Value.bool Bool.false) = (Value.bool (secB sKey sTreeRoot sTreeMidN sTreeLeafN sTreeMidg0 sTreeMidg1 sTreeLeafg0 sTreeLeafg1 sDataN sTagsN sDatag0 sTagsg0))) ∧
        ((!(rdOk sKey sTreeRoot sTreeMidN sTreeLeafN sTreeMidg0109 sTreeMidg1110 sTreeLeafg0111 sTreeLeafg1112 sDataN sTagsN sDatag0113 sTagsg0114 (6 : Int))) = Bool.false →
        (b0 = b0 ∧
         (Exists (fun (sTreeMidg0127 : (Nat →
         Int)) => (Exists (fun (sTreeMidg1128 : (Nat →
         Int)) => (Exists (fun (sTreeLeafg0129 : (Nat →
         Int)) => (Exists (fun (sTreeLeafg1130 : (Nat →
         Int)) => (Exists (fun (sDatag0131 : (Nat →
         Int)) => (Exists (fun (sTagsg0132 : (Nat →
         Int)) => ((sTreeMidO = sTreeMidO ∧
         (sTreeMidN = sTreeMidN ∧
         ([(fun (i133 : Nat) => (SC.int (sTreeMidg0 i133))), (fun (i134 : Nat) => (SC.int (sTreeMidg1 i134)))] = [(fun (i135 : Nat) => (SC.int (sTreeMidg0127 i135))), (fun (i136 : Nat) => (SC.int (sTreeMidg1128 i136)))] ∧
         (sTreeLeafO = sTreeLeafO ∧
         (sTreeLeafN = sTreeLeafN ∧
         ([(fun (i137 : Nat) => (SC.int (sTreeLeafg0 i137))), (fun (i138 : Nat) => (SC.int (sTreeLeafg1 i138)))] = [(fun (i139 : Nat) => (SC.int (sTreeLeafg0129 i139))), (fun (i140 : Nat) => (SC.int (sTreeLeafg1130 i140)))] ∧
         (sDataO = sDataO ∧
         (sDataN = sDataN ∧
         ([(fun (i141 : Nat) => (SC.int (sDatag0 i141)))] = [(fun (i142 : Nat) => (SC.int (sDatag0131 i142)))] ∧
         (sTagsO = sTagsO ∧
         (sTagsN = sTagsN ∧
         [(fun (i143 : Nat) => (SC.int (sTagsg0 i143)))] = [(fun (i144 : Nat) => (SC.int (sTagsg0132 i144)))]))))))))))) ∧
         (((!(rdOk sKey sTreeRoot sTreeMidN sTreeLeafN sTreeMidg0127 sTreeMidg1128 sTreeLeafg0129 sTreeLeafg1130 sDataN sTagsN sDatag0131 sTagsg0132 (7 : Int))) = Bool.true →
         (Value.bool Bool.false) = (Value.bool (secB sKey sTreeRoot sTreeMidN sTreeLeafN sTreeMidg0 sTreeMidg1 sTreeLeafg0 sTreeLeafg1 sDataN sTagsN sDatag0 sTagsg0))) ∧
         ((!(rdOk sKey sTreeRoot sTreeMidN sTreeLeafN sTreeMidg0127 sTreeMidg1128 sTreeLeafg0129 sTreeLeafg1130 sDataN sTagsN sDatag0131 sTagsg0132 (7 : Int))) = Bool.false →
         (b0 = b0 ∧
          (b0 = b0 ∧
          (Exists (fun (tMidg0145 : (Nat →
          Int)) => (Exists (fun (tMidg1146 : (Nat →
          Int)) => (Exists (fun (tLeafg0147 : (Nat →
          Int)) => (Exists (fun (tLeafg1148 : (Nat →
          Int)) => ((sTreeMidO = sTreeMidO ∧
          (sTreeMidN = sTreeMidN ∧
          ([(fun (i149 : Nat) => (SC.int (sTreeMidg0 i149))), (fun (i150 : Nat) => (SC.int (sTreeMidg1 i150)))] = [(fun (i151 : Nat) => (SC.int (tMidg0145 i151))), (fun (i152 : Nat) => (SC.int (tMidg1146 i152)))] ∧
          (sTreeLeafO = sTreeLeafO ∧
          (sTreeLeafN = sTreeLeafN ∧
          [(fun (i153 : Nat) => (SC.int (sTreeLeafg0 i153))), (fun (i154 : Nat) => (SC.int (sTreeLeafg1 i154)))] = [(fun (i155 : Nat) => (SC.int (tLeafg0147 i155))), (fun (i156 : Nat) => (SC.int (tLeafg1148 i156)))]))))) ∧
          (Value.bool (treeB sKey sTreeRoot sTreeMidN sTreeLeafN tMidg0145 tMidg1146 tLeafg0147 tLeafg1148)) = (Value.bool (secB sKey sTreeRoot sTreeMidN sTreeLeafN sTreeMidg0 sTreeMidg1 sTreeLeafg0 sTreeLeafg1 sDataN sTagsN sDatag0 sTagsg0))))))))))))))))))))))))))))))))))))))))))))))))))))))))))))))))))))))))))))))))))))))))))))))))))))))))))))))))))))))))))))))))))))))))))))))) := by kernel_rfl
theorem sokI_any (sKey : Int) (sTreeRoot : Int) (sTreeMidO : Option Addr) (sTreeMidN sTreeMidC : Nat) (sTreeMidg0 sTreeMidg1 : Nat → Int) (sTreeLeafO : Option Addr) (sTreeLeafN sTreeLeafC : Nat) (sTreeLeafg0 sTreeLeafg1 : Nat → Int) (sDataO : Option Addr) (sDataN sDataC : Nat) (sDatag0 : Nat → Int) (sTagsO : Option Addr) (sTagsN sTagsC : Nat) (sTagsg0 : Nat → Int) (w : World) (hrsTreeMid : Row.sat w ⟨false, sTreeMidO, 0, 2, sTreeMidN, 0, [fun i => .int (sTreeMidg0 i), fun i => .int (sTreeMidg1 i)]⟩) (hrsTreeLeaf : Row.sat w ⟨false, sTreeLeafO, 0, 2, sTreeLeafN, 0, [fun i => .int (sTreeLeafg0 i), fun i => .int (sTreeLeafg1 i)]⟩) (hrsData : Row.sat w ⟨false, sDataO, 0, 1, sDataN, 0, [fun i => .int (sDatag0 i)]⟩) (hrsTags : Row.sat w ⟨false, sTagsO, 0, 1, sTagsN, 0, [fun i => .int (sTagsg0 i)]⟩) : Calls Try.prog 24 #[.agg #[.int .i64 sKey, .int .i64 sTreeRoot, .slice sTreeMidO sTreeMidN sTreeMidC, .slice sTreeLeafO sTreeLeafN sTreeLeafC, .slice sDataO sDataN sDataC, .slice sTagsO sTagsN sTagsC]] w fun e w' => e = .returned (.bool (secB sKey sTreeRoot sTreeMidN sTreeLeafN sTreeMidg0 sTreeMidg1 sTreeLeafg0 sTreeLeafg1 sDataN sTagsN sDatag0 sTagsg0)) ∧ Below w.heap.size w w' := by
  refine fnB (tb := [(21, sRead), (13, sTOk)]) ⟨sRead_ok_readI, sTOk_ok_okI, trivial⟩ Try.func24 (@Eq.mpr _ _ (sokI_T sKey sTreeRoot sTreeMidO sTreeMidN sTreeMidC sTreeMidg0 sTreeMidg1 sTreeLeafO sTreeLeafN sTreeLeafC sTreeLeafg0 sTreeLeafg1 sDataO sDataN sDataC sDatag0 sTagsO sTagsN sTagsC sTagsg0) ?_) (HS.rows (fun _ => False) [⟨false, sTreeMidO, 0, 2, sTreeMidN, 0, [fun i => .int (sTreeMidg0 i), fun i => .int (sTreeMidg1 i)]⟩, ⟨false, sTreeLeafO, 0, 2, sTreeLeafN, 0, [fun i => .int (sTreeLeafg0 i), fun i => .int (sTreeLeafg1 i)]⟩, ⟨false, sDataO, 0, 1, sDataN, 0, [fun i => .int (sDatag0 i)]⟩, ⟨false, sTagsO, 0, 1, sTagsN, 0, [fun i => .int (sTagsg0 i)]⟩] (by simp; exact ⟨hrsTreeMid, hrsTreeLeaf, hrsData, hrsTags⟩)) (fun v ch' w' hk hs => ⟨by rw [hk], hs.below⟩)
  clear hrsTreeMid hrsTreeLeaf hrsData hrsTags
  repeat' (first
    | exact rfl
    | exact True.intro
    | refine And.intro ?_ ?_
    | apply Exists.intro
    | assumption
    | intro _)
  all_goals first
    | (simp_all [secB]; done)
    | (simp_all [secB, treeB, rdOk]; done)
def sSOk : Sm := fun args ch kk =>
  match args with
  | [.a (.agg [c0, c1, .sl i0 a0 n0 d0, .sl i1 a1 n1 d1, .sl i2 a2 n2 d2, .sl i3 a3 n3 d3])] =>
    match ch[i0]?, ch[i1]?, ch[i2]?, ch[i3]?, ints [c0, c1] with
    | some (.row r0), some (.row r1), some (.row r2), some (.row r3), some [sKey, sTreeRoot] => ∃ sTreeMidg0 sTreeMidg1 sTreeLeafg0 sTreeLeafg1 sDatag0 sTagsg0 : Nat → Int, (a0 = r0.ao ∧ n0 = r0.n ∧ r0.fld = [fun i => .int (sTreeMidg0 i), fun i => .int (sTreeMidg1 i)] ∧ a1 = r1.ao ∧ n1 = r1.n ∧ r1.fld = [fun i => .int (sTreeLeafg0 i), fun i => .int (sTreeLeafg1 i)] ∧ a2 = r2.ao ∧ n2 = r2.n ∧ r2.fld = [fun i => .int (sDatag0 i)] ∧ a3 = r3.ao ∧ n3 = r3.n ∧ r3.fld = [fun i => .int (sTagsg0 i)]) ∧ kk (.a (.c (.bool (secB sKey sTreeRoot n0 n1 sTreeMidg0 sTreeMidg1 sTreeLeafg0 sTreeLeafg1 n2 n3 sDatag0 sTagsg0)))) ch []
    | _, _, _, _, _ => False
  | _ => False
theorem sSOk_ok {f : FuncId} (hc : ∀ args w, (callFunc f args).run Try.prog w = .ok (.enter f args) w) (h : ∀ (sKey : Int) (sTreeRoot : Int) (sTreeMidO : Option Addr) (sTreeMidN sTreeMidC : Nat) (sTreeMidg0 sTreeMidg1 : Nat → Int) (sTreeLeafO : Option Addr) (sTreeLeafN sTreeLeafC : Nat) (sTreeLeafg0 sTreeLeafg1 : Nat → Int) (sDataO : Option Addr) (sDataN sDataC : Nat) (sDatag0 : Nat → Int) (sTagsO : Option Addr) (sTagsN sTagsC : Nat) (sTagsg0 : Nat → Int) (w : World), Row.sat w ⟨false, sTreeMidO, 0, 2, sTreeMidN, 0, [fun i => .int (sTreeMidg0 i), fun i => .int (sTreeMidg1 i)]⟩ → Row.sat w ⟨false, sTreeLeafO, 0, 2, sTreeLeafN, 0, [fun i => .int (sTreeLeafg0 i), fun i => .int (sTreeLeafg1 i)]⟩ → Row.sat w ⟨false, sDataO, 0, 1, sDataN, 0, [fun i => .int (sDatag0 i)]⟩ → Row.sat w ⟨false, sTagsO, 0, 1, sTagsN, 0, [fun i => .int (sTagsg0 i)]⟩ → Calls Try.prog f #[.agg #[.int .i64 sKey, .int .i64 sTreeRoot, .slice sTreeMidO sTreeMidN sTreeMidC, .slice sTreeLeafO sTreeLeafN sTreeLeafC, .slice sDataO sDataN sDataC, .slice sTagsO sTagsN sTagsC]] w fun e w' => e = .returned (.bool (secB sKey sTreeRoot sTreeMidN sTreeLeafN sTreeMidg0 sTreeMidg1 sTreeLeafg0 sTreeLeafg1 sDataN sTagsN sDatag0 sTagsg0)) ∧ Below w.heap.size w w') : SmOK Try.prog f sSOk := by
  refine smB hc fun args ch kk w X h0 hs => ?_
  unfold sSOk at h0
  split at h0
  · rename_i c0 c1 i0 a0 n0 d0 i1 a1 n1 d1 i2 a2 n2 d2 i3 a3 n3 d3
    split at h0
    · rename_i r0 r1 r2 r3 sKey sTreeRoot hr0 hr1 hr2 hr3 hi
      obtain ⟨sTreeMidg0, sTreeMidg1, sTreeLeafg0, sTreeLeafg1, sDatag0, sTagsg0, ⟨rfl, rfl, hf0, rfl, rfl, hf1, rfl, rfl, hf2, rfl, rfl, hf3⟩, h0⟩ := h0
      obtain ⟨ec0, hi⟩ := ints_cons hi
      obtain ⟨ec1, hi⟩ := ints_cons hi
      refine ⟨_, h0, ?_⟩
      simp only [List.map_cons, List.map_nil, den_a, den_c, SA.den, den_sl, ec0, ec1]
      exact h sKey sTreeRoot r0.ao r0.n d0 sTreeMidg0 sTreeMidg1 r1.ao r1.n d1 sTreeLeafg0 sTreeLeafg1 r2.ao r2.n d2 sDatag0 r3.ao r3.n d3 sTagsg0 w (Row.seenAs (hs.sat i0 _ hr0) hf0 rfl) (Row.seenAs (hs.sat i1 _ hr1) hf1 rfl) (Row.seenAs (hs.sat i2 _ hr2) hf2 rfl) (Row.seenAs (hs.sat i3 _ hr3) hf3 rfl)
    · exact h0.elim
  · exact h0.elim
theorem sSOk_ok_sokI : SmOK Try.prog 24 sSOk := sSOk_ok Try.call24 (fun sKey sTreeRoot sTreeMidO sTreeMidN sTreeMidC sTreeMidg0 sTreeMidg1 sTreeLeafO sTreeLeafN sTreeLeafC sTreeLeafg0 sTreeLeafg1 sDataO sDataN sDataC sDatag0 sTagsO sTagsN sTagsC sTagsg0 w h0 h1 h2 h3 => sokI_any sKey sTreeRoot sTreeMidO sTreeMidN sTreeMidC sTreeMidg0 sTreeMidg1 sTreeLeafO sTreeLeafN sTreeLeafC sTreeLeafg0 sTreeLeafg1 sDataO sDataN sDataC sDatag0 sTagsO sTagsN sTagsC sTagsg0 w h0 h1 h2 h3)
end Go.Proofs.Ytppeocfcdeiemaa

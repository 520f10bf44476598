/-
  Secured lines: copied, made.
-/
import Derived.Test.YtppeocfcdeiemaaSxTree6
namespace Go.Proofs.Ytppeocfcdeiemaa
set_option linter.unusedVariables false
set_option linter.unusedSimpArgs false
open Go.RowKit
set_option maxRecDepth 100000
set_option maxHeartbeats 8000000

theorem copySI_T (sKey : Int) (sTreeRoot : Int) (sTreeMidO : Option Addr) (sTreeMidN sTreeMidC : Nat) (sTreeMidg0 sTreeMidg1 : Nat → Int) (sTreeLeafO : Option Addr) (sTreeLeafN sTreeLeafC : Nat) (sTreeLeafg0 sTreeLeafg1 : Nat → Int) (sDataO : Option Addr) (sDataN sDataC : Nat) (sDatag0 : Nat → Int) (sTagsO : Option Addr) (sTagsN sTagsC : Nat) (sTagsg0 : Nat → Int) : (exFn Try.prog {tb := [(32, sCopyT)]} 400 Try.f43 ([.a (.agg [.int sKey, .int sTreeRoot, .sl 0 sTreeMidO sTreeMidN sTreeMidC, .sl 1 sTreeLeafO sTreeLeafN sTreeLeafC, .sl 2 sDataO sDataN sDataC, .sl 3 sTagsO sTagsN sTagsC])]) ([.row ⟨false, sTreeMidO, 0, 2, sTreeMidN, 0, [fun i => .int (sTreeMidg0 i), fun i => .int (sTreeMidg1 i)]⟩, .row ⟨false, sTreeLeafO, 0, 2, sTreeLeafN, 0, [fun i => .int (sTreeLeafg0 i), fun i => .int (sTreeLeafg1 i)]⟩, .row ⟨false, sDataO, 0, 1, sDataN, 0, [fun i => .int (sDatag0 i)]⟩, .row ⟨false, sTagsO, 0, 1, sTagsN, 0, [fun i => .int (sTagsg0 i)]⟩]) (fun v ch => ∃ (ro0 : Option Addr) (rc0 : Nat) (ro1 : Option Addr) (rc1 : Nat) (ro2 : Option Addr) (rc2 : Nat) (ro3 : Option Addr) (rc3 : Nat), OutR v ch (.agg #[.int .i64 (sKey), .int .i64 (sTreeRoot), .slice ro0 (sTreeMidN) rc0, .slice ro1 (sTreeLeafN) rc1, .slice ro2 (sDataN) rc2, .slice ro3 (sTagsN) rc3]) [.row ⟨true, ro0, 37, 2, sTreeMidN, rc0, [fun i => .int (sTreeMidg0 i), fun i => .int (sTreeMidg1 i)]⟩, .row ⟨true, ro1, 37, 2, sTreeLeafN, rc1, [fun i => .int (sTreeLeafg0 i), fun i => .int (sTreeLeafg1 i)]⟩, .row ⟨true, ro2, 3, 1, sDataN, rc2, [fun i => .int (sDatag0 i)]⟩, .row ⟨true, ro3, 3, 1, sTagsN, rc3, [fun i => .int (sTagsg0 i)]⟩])) = (
  (∀ b0 : Nat,
  (∀ b1 : Nat,
  (b0 = b0 ∧
  (b0 = b0 ∧
  (b0 = b0 ∧
  (b0 = b0 ∧
  ((Exists (fun (tMidg02 : (Nat →
  Int)) => (Exists (fun (tMidg13 : (Nat →
  Int)) => (Exists (fun (tLeafg04 : (Nat →
  Int)) => (Exists (fun (tLeafg15 : (Nat →
  Int)) => ((sTreeMidO = sTreeMidO ∧
  (sTreeMidN = sTreeMidN ∧
  ([(fun (i6 : Nat) => (SC.int (sTreeMidg0 i6))), (fun (i7 : Nat) => (SC.int (sTreeMidg1 i7)))] = [(fun (i8 : Nat) => (SC.int (tMidg02 i8))), (fun (i9 : Nat) => (SC.int (tMidg13 i9)))] ∧
  (sTreeLeafO = sTreeLeafO ∧
  (sTreeLeafN = sTreeLeafN ∧
  ([(fun (i10 : Nat) => (SC.int (sTreeLeafg0 i10))), (fun (i11 : Nat) => (SC.int (sTreeLeafg1 i11)))] = [(fun (i12 : Nat) => (SC.int (tLeafg04 i12))), (fun (i13 : Nat) => (SC.int (tLeafg15 i13)))] ∧
  ((capC sTreeMidN) ∧
  (capC sTreeLeafN)))))))) ∧
  (∀ ro014 : (Option Addr),
  (∀ rc015 : Nat,
  (∀ ro116 : (Option Addr),
  (∀ rc117 : Nat,
  (True ∧
  ((∀ b18 : Nat,
  (True ∧
  (((b18 = b18 ∧
  ((sDataO = sDataO ∧
  sDataN = sDataN) ∧
  ((∀ i19 : Nat,
  Bool.true = Bool.true) ∧
  (apC 0 sDataN 8)))) ∧
  (∀ ao20 : (Option Addr),
  (∀ cap21 : Nat,
  (True ∧
  (∀ b22 : Nat,
  (True ∧
  ((b22 = b22 ∧
  ((sTagsO = sTagsO ∧
  sTagsN = sTagsN) ∧
  ((∀ i23 : Nat,
  Bool.true = Bool.true) ∧
  (apC 0 sTagsN 8)))) ∧
  (∀ ao24 : (Option Addr),
  (∀ cap25 : Nat,
  (True ∧
  (b1 = b1 ∧
  (True ∧
  (b1 = b1 ∧
  (Exists (fun (ro026 : (Option Addr)) => (Exists (fun (rc027 : Nat) => (Exists (fun (ro128 : (Option Addr)) => (Exists (fun (rc129 : Nat) => (Exists (fun (ro230 : (Option Addr)) => (Exists (fun (rc231 : Nat) => (Exists (fun (ro332 : (Option Addr)) => (Exists (fun (rc333 : Nat) => ((Value.agg (List.toArray [(Value.int IntKind.i64 sKey), (Value.int IntKind.i64 sTreeRoot), (Value.slice ro014 sTreeMidN rc015), (Value.slice ro116 sTreeLeafN rc117), (Value.slice ao20 sDataN cap21), (Value.slice ao24 sTagsN cap25)])) = (Value.agg (List.toArray [(Value.int IntKind.i64 sKey), (Value.int IntKind.i64 sTreeRoot), (Value.slice ro026 sTreeMidN rc027), (Value.slice ro128 sTreeLeafN rc129), (Value.slice ro230 sDataN rc231), (Value.slice ro332 sTagsN rc333)])) ∧
  (((Bool.true = Bool.true ∧
  (ro014 = ro026 ∧
  (37 = 37 ∧
  (2 = 2 ∧
  (sTreeMidN = sTreeMidN ∧
  (rc015 = rc027 ∧
  ((∀ i34 : Nat,
  (i34 < sTreeMidN →
  (Value.int IntKind.i64 (tMidg02 i34)) = (Value.int IntKind.i64 (sTreeMidg0 i34)))) ∧
  ((∀ i35 : Nat,
  (i35 < sTreeMidN →
  (Value.int IntKind.i64 (tMidg13 i35)) = (Value.int IntKind.i64 (sTreeMidg1 i35)))) ∧
  True)))))))) ∧
  ((Bool.true = Bool.true ∧
  (ro116 = ro128 ∧
  (37 = 37 ∧
  (2 = 2 ∧
  (sTreeLeafN = sTreeLeafN ∧
  (rc117 = rc129 ∧
  ((∀ i36 : Nat,
  (i36 < sTreeLeafN →
  (Value.int IntKind.i64 (tLeafg04 i36)) = (Value.int IntKind.i64 (sTreeLeafg0 i36)))) ∧
  ((∀ i37 : Nat,
  (i37 < sTreeLeafN →
  (Value.int IntKind.i64 (tLeafg15 i37)) = (Value.int IntKind.i64 (sTreeLeafg1 i37)))) ∧
  True)))))))) ∧
  ((Bool.true = Bool.true ∧
  (ao20 = ro230 ∧
  (3 = 3 ∧
  (1 = 1 ∧
  (sDataN = sDataN ∧
  (cap21 = rc231 ∧
  ((∀ i38 : Nat,
  (i38 < sDataN →
  (Value.int IntKind.i64 (sDatag0 i38)) = (Value.int IntKind.i64 (sDatag0 i38)))) ∧
  True))))))) ∧
  ((Bool.true = Bool.true ∧
  (ao24 = ro332 ∧
  (3 = 3 ∧
  (1 = 1 ∧
  (sTagsN = sTagsN ∧
  (cap25 = rc333 ∧
  ((∀ i39 : Nat,
  (i39 < sTagsN →
  (Value.int IntKind.i64 (sTagsg0 i39)) = (Value.int IntKind.i64 (sTagsg0 i39)))) ∧
  True))))))) ∧
  True)))) ∧
  Bool.true = Bool.true))))))))))))))))))))))))))))))) ∧
  (∀ b40 : Nat,
  (True ∧
  ((b18 = b18 ∧
  ((sDataO = sDataO ∧
  sDataN = sDataN) ∧
  ((∀ i41 : Nat,
  Bool.true = Bool.true) ∧
  (apC 0 sDataN 8)))) ∧
  (∀ ao42 : (Option Addr),
  (∀ cap43 : Nat,
  (True ∧
  ((b40 = b40 ∧
  ((sTagsO = sTagsO ∧
  sTagsN = sTagsN) ∧
  ((∀ i44 : Nat,
  Bool.true = Bool.true) ∧
  (apC 0 sTagsN 8)))) ∧
  (∀ ao45 : (Option Addr),
  (∀ cap46 : Nat,
  (True ∧
  (b1 = b1 ∧
  (True ∧
  (b1 = b1 ∧
  (Exists (fun (ro047 : (Option Addr)) => (Exists (fun (rc048 : Nat) => (Exists (fun (ro149 : (Option Addr)) => (Exists (fun (rc150 : Nat) => (Exists (fun (ro251 : (Option Addr)) => (Exists (fun (rc252 : Nat) => (Exists (fun (ro353 : (Option Addr)) => (Exists (fun (rc354 : Nat) => ((Value.agg (List.toArray [(Value.int IntKind.i64 sKey), (Value.int IntKind.i64 sTreeRoot), (Value.slice ro014 sTreeMidN rc015), (Value.slice ro116 sTreeLeafN rc117), (Value.slice ao42 sDataN cap43), (Value.slice ao45 sTagsN cap46)])) = (Value.agg (List.toArray [(Value.int IntKind.i64 sKey), (Value.int IntKind.i64 sTreeRoot), (Value.slice ro047 sTreeMidN rc048), (Value.slice ro149 sTreeLeafN rc150), (Value.slice ro251 sDataN rc252), (Value.slice ro353 sTagsN rc354)])) ∧
  (((Bool.true = Bool.true ∧
  (ro014 = ro047 ∧
  (37 = 37 ∧
  (2 = 2 ∧
  (sTreeMidN = sTreeMidN ∧
  (rc015 = rc048 ∧
  ((∀ i55 : Nat,
  (i55 < sTreeMidN →
  (Value.int IntKind.i64 (tMidg02 i55)) = (Value.int IntKind.i64 (sTreeMidg0 i55)))) ∧
  ((∀ i56 : Nat,
  (i56 < sTreeMidN →
  (Value.int IntKind.i64 (tMidg13 i56)) = (Value.int IntKind.i64 (sTreeMidg1 i56)))) ∧
  True)))))))) ∧
  ((Bool.true = Bool.true ∧
  (ro116 = ro149 ∧
  (37 = 37 ∧
  (2 = 2 ∧
  (sTreeLeafN = sTreeLeafN ∧
  (rc117 = rc150 ∧
  ((∀ i57 : Nat,
  (i57 < sTreeLeafN →
  (Value.int IntKind.i64 (tLeafg04 i57)) = (Value.int IntKind.i64 (sTreeLeafg0 i57)))) ∧
  ((∀ i58 : Nat,
  (i58 < sTreeLeafN →
  (Value.int IntKind.i64 (tLeafg15 i58)) = (Value.int IntKind.i64 (sTreeLeafg1 i58)))) ∧
  True)))))))) ∧
  ((Bool.true = Bool.true ∧
  (ao42 = ro251 ∧
  (3 = 3 ∧
  (1 = 1 ∧
  (sDataN = sDataN ∧
  (cap43 = rc252 ∧
  ((∀ i59 : Nat,
  (i59 < sDataN →
  (Value.int IntKind.i64 (sDatag0 i59)) = (Value.int IntKind.i64 (sDatag0 i59)))) ∧
  True))))))) ∧
  ((Bool.true = Bool.true ∧
  (ao45 = ro353 ∧
  (3 = 3 ∧
  (1 = 1 ∧
  (sTagsN = sTagsN ∧
  (cap46 = rc354 ∧
  ((∀ i60 : Nat,
  (i60 < sTagsN →
  (Value.int IntKind.i64 (sTagsg0 i60)) = (Value.int IntKind.i64 (sTagsg0 i60)))) ∧
  True))))))) ∧
  True)))) ∧
  Bool.true = Bool.true)))))))))))))))))))))))))))))))))) ∧
  (∀ b61 : Nat,
  (True ∧
  (∀ b62 : Nat,
  (True ∧
  ((b62 = b62 ∧
  ((sDataO = sDataO ∧
  sDataN = sDataN) ∧
  ((∀ i63 : Nat,
  Bool.true = Bool.true) ∧
  (apC 0 sDataN 8)))) ∧
  (∀ ao64 : (Option Addr),
  (∀ cap65 : Nat,
  (True ∧
  ((b61 = b61 ∧
  ((sTagsO = sTagsO ∧
  sTagsN = sTagsN) ∧
  ((∀ i66 : Nat,
  Bool.true = Bool.true) ∧
  (apC 0 sTagsN 8)))) ∧
  (∀ ao67 : (Option Addr),
  (∀ cap68 : Nat,
  (True ∧
  (b1 = b1 ∧
  (True ∧
  (b1 = b1 ∧
  (Exists (fun (ro069 : (Option Addr)) => (Exists (fun (rc070 : Nat) => (Exists (fun (ro171 : (Option Addr)) => (Exists (fun (rc172 : Nat) => (Exists (fun (ro273 : (Option Addr)) => (Exists (fun (rc274 : Nat) => (Exists (fun (ro375 : (Option Addr)) => (Exists (fun (rc376 : Nat) => ((Value.agg (List.toArray [(Value.int IntKind.i64 sKey), (Value.int IntKind.i64 sTreeRoot), (Value.slice ro014 sTreeMidN rc015), (Value.slice ro116 sTreeLeafN rc117), (Value.slice ao64 sDataN cap65), (Value.slice ao67 sTagsN cap68)])) = (Value.agg (List.toArray [(Value.int IntKind.i64 sKey), (Value.int IntKind.i64 sTreeRoot), (Value.slice ro069 sTreeMidN rc070), (Value.slice ro171 sTreeLeafN rc172), (Value.slice ro273 sDataN rc274), (Value.slice ro375 sTagsN rc376)])) ∧
  (((Bool.true = Bool.true ∧
  (ro014 = ro069 ∧
  (37 = 37 ∧
  (2 = 2 ∧
  (sTreeMidN = sTreeMidN ∧
  (rc015 = rc070 ∧
  ((∀ i77 : Nat,
  (i77 < sTreeMidN →
  (Value.int IntKind.i64 (tMidg02 i77)) = (Value.int IntKind.i64 (sTreeMidg0 i77)))) ∧
  ((∀ i78 : Nat,
  (i78 < sTreeMidN →
  (Value.int IntKind.i64 (tMidg13 i78)) = (Value.int IntKind.i64 (sTreeMidg1 i78)))) ∧
  True)))))))) ∧
  ((Bool.true = Bool.true ∧
  (ro116 = ro171 ∧
  (37 = 37 ∧
  (2 = 2 ∧
  (sTreeLeafN = sTreeLeafN ∧
  (rc117 = rc172 ∧
  ((∀ i79 : Nat,
  (i79 < sTreeLeafN →
  (Value.int IntKind.i64 (tLeafg04 i79)) = (Value.int IntKind.i64 (sTreeLeafg0 i79)))) ∧
  ((∀ i80 : Nat,
  (i80 < sTreeLeafN →
  (Value.int IntKind.i64 (tLeafg15 i80)) = (Value.int IntKind.i64 (sTreeLeafg1 i80)))) ∧
  True)))))))) ∧
  ((Bool.true = Bool.true ∧
  (ao64 = ro273 ∧
  (3 = 3 ∧
  (1 = 1 ∧
  (sDataN = sDataN ∧
  (cap65 = rc274 ∧
  ((∀ i81 : Nat,
  (i81 < sDataN →
  (Value.int IntKind.i64 (sDatag0 i81)) = (Value.int IntKind.i64 (sDatag0 i81)))) ∧
  True))))))) ∧
  ((Bool.true = Bool.true ∧
  (ao67 = ro375 ∧
  (3 = 3 ∧
  (1 = 1 ∧
  (sTagsN = sTagsN ∧
  (cap68 = rc376 ∧
  ((∀ i82 : Nat,
  (i82 < sTagsN →
  (Value.int IntKind.i64 (sTagsg0 i82)) = (Value.int IntKind.i64 (sTagsg0 i82)))) ∧
  True))))))) ∧
  True)))) ∧
  Bool.true = Bool.true)))))))))))))))))))))))))))))))))))))))))))))))) ∧
  ((∀ b83 : Nat,
  (True ∧
  ((Exists (fun (tMidg084 : (Nat →
  Int)) => (Exists (fun (tMidg185 : (Nat →
  Int)) => (Exists (fun (tLeafg086 : (Nat →
  Int)) => (Exists (fun (tLeafg187 : (Nat →
  Int)) => ((sTreeMidO = sTreeMidO ∧
  (sTreeMidN = sTreeMidN ∧
  ([(fun (i88 : Nat) => (SC.int (sTreeMidg0 i88))), (fun (i89 : Nat) => (SC.int (sTreeMidg1 i89)))] = [(fun (i90 : Nat) => (SC.int (tMidg084 i90))), (fun (i91 : Nat) => (SC.int (tMidg185 i91)))] ∧
  (sTreeLeafO = sTreeLeafO ∧
  (sTreeLeafN = sTreeLeafN ∧
  ([(fun (i92 : Nat) => (SC.int (sTreeLeafg0 i92))), (fun (i93 : Nat) => (SC.int (sTreeLeafg1 i93)))] = [(fun (i94 : Nat) => (SC.int (tLeafg086 i94))), (fun (i95 : Nat) => (SC.int (tLeafg187 i95)))] ∧
  ((capC sTreeMidN) ∧
  (capC sTreeLeafN)))))))) ∧
  (∀ ro096 : (Option Addr),
  (∀ rc097 : Nat,
  (∀ ro198 : (Option Addr),
  (∀ rc199 : Nat,
  (True ∧
  (((b83 = b83 ∧
  ((sDataO = sDataO ∧
  sDataN = sDataN) ∧
  ((∀ i100 : Nat,
  Bool.true = Bool.true) ∧
  (apC 0 sDataN 8)))) ∧
  (∀ ao101 : (Option Addr),
  (∀ cap102 : Nat,
  (True ∧
  (∀ b103 : Nat,
  (True ∧
  ((b103 = b103 ∧
  ((sTagsO = sTagsO ∧
  sTagsN = sTagsN) ∧
  ((∀ i104 : Nat,
  Bool.true = Bool.true) ∧
  (apC 0 sTagsN 8)))) ∧
  (∀ ao105 : (Option Addr),
  (∀ cap106 : Nat,
  (True ∧
  (b1 = b1 ∧
  (True ∧
  (b1 = b1 ∧
  (Exists (fun (ro0107 : (Option Addr)) => (Exists (fun (rc0108 : Nat) => (Exists (fun (ro1109 : (Option Addr)) => (Exists (fun (rc1110 : Nat) => (Exists (fun (ro2111 : (Option Addr)) => (Exists (fun (rc2112 : Nat) => (Exists (fun (ro3113 : (Option Addr)) => (Exists (fun (rc3114 : Nat) => ((Value.agg (List.toArray [(Value.int IntKind.i64 sKey), (Value.int IntKind.i64 sTreeRoot), (Value.slice ro096 sTreeMidN rc097), (Value.slice ro198 sTreeLeafN rc199), (Value.slice ao101 sDataN cap102), (Value.slice ao105 sTagsN cap106)])) = (Value.agg (List.toArray [(Value.int IntKind.i64 sKey), (Value.int IntKind.i64 sTreeRoot), (Value.slice ro0107 sTreeMidN rc0108), (Value.slice ro1109 sTreeLeafN rc1110), (Value.slice ro2111 sDataN rc2112), (Value.slice ro3113 sTagsN rc3114)])) ∧
  (((Bool.true = Bool.true ∧
  (ro096 = ro0107 ∧
  (37 = 37 ∧
  (2 = 2 ∧
  (sTreeMidN = sTreeMidN ∧
  (rc097 = rc0108 ∧
  ((∀ i115 : Nat,
  (i115 < sTreeMidN →
  (Value.int IntKind.i64 (tMidg084 i115)) = (Value.int IntKind.i64 (sTreeMidg0 i115)))) ∧
  ((∀ i116 : Nat,
  (i116 < sTreeMidN →
  (Value.int IntKind.i64 (tMidg185 i116)) = (Value.int IntKind.i64 (sTreeMidg1 i116)))) ∧
  True)))))))) ∧
  ((Bool.true = Bool.true ∧
  (ro198 = ro1109 ∧
  (37 = 37 ∧
  (2 = 2 ∧
  (sTreeLeafN = sTreeLeafN ∧
  (rc199 = rc1110 ∧
  ((∀ i117 : Nat,
  (i117 < sTreeLeafN →
  (Value.int IntKind.i64 (tLeafg086 i117)) = (Value.int IntKind.i64 (sTreeLeafg0 i117)))) ∧
  ((∀ i118 : Nat,
  (i118 < sTreeLeafN →
  (Value.int IntKind.i64 (tLeafg187 i118)) = (Value.int IntKind.i64 (sTreeLeafg1 i118)))) ∧
  True)))))))) ∧
  ((Bool.true = Bool.true ∧
  (ao101 = ro2111 ∧
  (3 = 3 ∧
  (1 = 1 ∧
  (sDataN = sDataN ∧
  (cap102 = rc2112 ∧
  ((∀ i119 : Nat,
  (i119 < sDataN →
  (Value.int IntKind.i64 (sDatag0 i119)) = (Value.int IntKind.i64 (sDatag0 i119)))) ∧
  True))))))) ∧
  ((Bool.true = Bool.true ∧
  (ao105 = ro3113 ∧
  (3 = 3 ∧
  (1 = 1 ∧
  (sTagsN = sTagsN ∧
  (cap106 = rc3114 ∧
  ((∀ i120 : Nat,
  (i120 < sTagsN →
  (Value.int IntKind.i64 (sTagsg0 i120)) = (Value.int IntKind.i64 (sTagsg0 i120)))) ∧
  True))))))) ∧
  True)))) ∧
  Bool.true = Bool.true))))))))))))))))))))))))))))))) ∧
  (∀ b121 : Nat,
  (True ∧
  ((b83 = b83 ∧
  ((sDataO = sDataO ∧
  sDataN = sDataN) ∧
  ((∀ i122 : Nat,
  Bool.true = Bool.true) ∧
  (apC 0 sDataN 8)))) ∧
  (∀ ao123 : (Option Addr),
  (∀ cap124 : Nat,
  (True ∧
  ((b121 = b121 ∧
  ((sTagsO = sTagsO ∧
  sTagsN = sTagsN) ∧
  ((∀ i125 : Nat,
  Bool.true = Bool.true) ∧
  (apC 0 sTagsN 8)))) ∧
  (∀ ao126 : (Option Addr),
  (∀ cap127 : Nat,
  (True ∧
  (b1 = b1 ∧
  (True ∧
  (b1 = b1 ∧
  (Exists (fun (ro0128 : (Option Addr)) => (Exists (fun (rc0129 : Nat) => (Exists (fun (ro1130 : (Option Addr)) => (Exists (fun (rc1131 : Nat) => (Exists (fun (ro2132 : (Option Addr)) => (Exists (fun (rc2133 : Nat) => (Exists (fun (ro3134 : (Option Addr)) => (Exists (fun (rc3135 : Nat) => ((Value.agg (List.toArray [(Value.int IntKind.i64 sKey), (Value.int IntKind.i64 sTreeRoot), (Value.slice ro096 sTreeMidN rc097), (Value.slice ro198 sTreeLeafN rc199), (Value.slice ao123 sDataN cap124), (Value.slice ao126 sTagsN cap127)])) = (Value.agg (List.toArray [(Value.int IntKind.i64 sKey), (Value.int IntKind.i64 sTreeRoot), (Value.slice ro0128 sTreeMidN rc0129), (Value.slice ro1130 sTreeLeafN rc1131), (Value.slice ro2132 sDataN rc2133), (Value.slice ro3134 sTagsN rc3135)])) ∧
  (((Bool.true = Bool.true ∧
  (ro096 = ro0128 ∧
  (37 = 37 ∧
  (2 = 2 ∧
  (sTreeMidN = sTreeMidN ∧
  (rc097 = rc0129 ∧
  ((∀ i136 : Nat,
  (i136 < sTreeMidN →
  (Value.int IntKind.i64 (tMidg084 i136)) = (Value.int IntKind.i64 (sTreeMidg0 i136)))) ∧
  ((∀ i137 : Nat,
  (i137 < sTreeMidN →
  (Value.int IntKind.i64 (tMidg185 i137)) = (Value.int IntKind.i64 (sTreeMidg1 i137)))) ∧
  True)))))))) ∧
  ((Bool.true = Bool.true ∧
  (ro198 = ro1130 ∧
  (37 = 37 ∧
  (2 = 2 ∧
  (sTreeLeafN = sTreeLeafN ∧
  (rc199 = rc1131 ∧
  ((∀ i138 : Nat,
  (i138 < sTreeLeafN →
  (Value.int IntKind.i64 (tLeafg086 i138)) = (Value.int IntKind.i64 (sTreeLeafg0 i138)))) ∧
  ((∀ i139 : Nat,
  (i139 < sTreeLeafN →
  (Value.int IntKind.i64 (tLeafg187 i139)) = (Value.int IntKind.i64 (sTreeLeafg1 i139)))) ∧
  True)))))))) ∧
  ((Bool.true = Bool.true ∧
  (ao123 = ro2132 ∧
  (3 = 3 ∧
  (1 = 1 ∧
  (sDataN = sDataN ∧
  (cap124 = rc2133 ∧
  ((∀ i140 : Nat,
  (i140 < sDataN →
  (Value.int IntKind.i64 (sDatag0 i140)) = (Value.int IntKind.i64 (sDatag0 i140)))) ∧
  True))))))) ∧
  ((Bool.true = Bool.true ∧
  (ao126 = ro3134 ∧
  (3 = 3 ∧
  (1 = 1 ∧
  (sTagsN = sTagsN ∧
  (cap127 = rc3135 ∧
  ((∀ i141 : Nat,
  (i141 < sTagsN →
  (Value.int IntKind.i64 (sTagsg0 i141)) = (Value.int IntKind.i64 (sTagsg0 i141)))) ∧
  True))))))) ∧
  True)))) ∧
  Bool.true = Bool.true)))))))))))))))))))))))))))))))))))))))))))))) ∧
  (∀ b142 : Nat,
  (True ∧
  (Exists (fun (tMidg0143 : (Nat →
  Int)) => (Exists (fun (tMidg1144 : (Nat →
  Int)) => (Exists (fun (tLeafg0145 : (Nat →
  Int)) => (Exists (fun (tLeafg1146 : (Nat →
  Int)) => ((sTreeMidO = sTreeMidO ∧
  (sTreeMidN = sTreeMidN ∧
  ([(fun (i147 : Nat) => (SC.int (sTreeMidg0 i147))), (fun (i148 : Nat) => (SC.int (sTreeMidg1 i148)))] = [(fun (i149 : Nat) => (SC.int (tMidg0143 i149))), (fun (i150 : Nat) => (SC.int (tMidg1144 i150)))] ∧
  (sTreeLeafO = sTreeLeafO ∧
  (sTreeLeafN = sTreeLeafN ∧
  ([(fun (i151 : Nat) => (SC.int (sTreeLeafg0 i151))), (fun (i152 : Nat) => (SC.int (sTreeLeafg1 i152)))] = [(fun (i153 : Nat) => (SC.int (tLeafg0145 i153))), (fun (i154 : Nat) => (SC.int (tLeafg1146 i154)))] ∧
  ((capC sTreeMidN) ∧
  (capC sTreeLeafN)))))))) ∧
  (∀ ro0155 : (Option Addr),
  (∀ rc0156 : Nat,
  (∀ ro1157 : (Option Addr),
  (∀ rc1158 : Nat,
  (True ∧
  ((b83 = b83 ∧
  ((sDataO = sDataO ∧
  sDataN = sDataN) ∧
  ((∀ i159 : Nat,
  Bool.true = Bool.true) ∧
  (apC 0 sDataN 8)))) ∧
  (∀ ao160 : (Option Addr),
  (∀ cap161 : Nat,
  (True ∧
  ((b142 = b142 ∧
  ((sTagsO = sTagsO ∧
  sTagsN = sTagsN) ∧
  ((∀ i162 : Nat,
  Bool.true = Bool.true) ∧
  (apC 0 sTagsN 8)))) ∧
  (∀ ao163 : (Option Addr),
  (∀ cap164 : Nat,
  (True ∧
  (b1 = b1 ∧
  (True ∧
  (b1 = b1 ∧
  (Exists (fun (ro0165 : (Option Addr)) => (Exists (fun (rc0166 : Nat) => (Exists (fun (ro1167 : (Option Addr)) => (Exists (fun (rc1168 : Nat) => (Exists (fun (ro2169 : (Option Addr)) => (Exists (fun (rc2170 : Nat) => (Exists (fun (ro3171 : (Option Addr)) => (Exists (fun (rc3172 : Nat) => ((Value.agg (List.toArray [(Value.int IntKind.i64 sKey), (Value.int IntKind.i64 sTreeRoot), (Value.slice ro0155 sTreeMidN rc0156), (Value.slice ro1157 sTreeLeafN rc1158), (Value.slice ao160 sDataN cap161), (Value.slice ao163 sTagsN cap164)])) = (Value.agg (List.toArray [(Value.int IntKind.i64 sKey), (Value.int IntKind.i64 sTreeRoot), (Value.slice ro0165 sTreeMidN rc0166), (Value.slice ro1167 sTreeLeafN rc1168), (Value.slice ro2169 sDataN rc2170), (Value.slice ro3171 sTagsN rc3172)])) ∧
  (((Bool.true = Bool.true ∧
  (ro0155 = ro0165 ∧
  (37 = 37 ∧
  (2 = 2 ∧
  (sTreeMidN = sTreeMidN ∧
  (rc0156 = rc0166 ∧
  ((∀ i173 : Nat,
  (i173 < sTreeMidN →
  (Value.int IntKind.i64 (tMidg0143 i173)) = (Value.int IntKind.i64 (sTreeMidg0 i173)))) ∧
  ((∀ i174 : Nat,
  (i174 < sTreeMidN →
  (Value.int IntKind.i64 (tMidg1144 i174)) = (Value.int IntKind.i64 (sTreeMidg1 i174)))) ∧
  True)))))))) ∧
  ((Bool.true = Bool.true ∧
  (ro1157 = ro1167 ∧
  (37 = 37 ∧
  (2 = 2 ∧
  (sTreeLeafN = sTreeLeafN ∧
  (rc1158 = rc1168 ∧
  ((∀ i175 : Nat,
  (i175 < sTreeLeafN →
  (Value.int IntKind.i64 (tLeafg0145 i175)) = (Value.int IntKind.i64 (sTreeLeafg0 i175)))) ∧
  ((∀ i176 : Nat,
  (i176 < sTreeLeafN →
  (Value.int IntKind.i64 (tLeafg1146 i176)) = (Value.int IntKind.i64 (sTreeLeafg1 i176)))) ∧
  True)))))))) ∧
  ((Bool.true = Bool.true ∧
  (ao160 = ro2169 ∧
  (3 = 3 ∧
  (1 = 1 ∧
  (sDataN = sDataN ∧
  (cap161 = rc2170 ∧
  ((∀ i177 : Nat,
  (i177 < sDataN →
  (Value.int IntKind.i64 (sDatag0 i177)) = (Value.int IntKind.i64 (sDatag0 i177)))) ∧
  True))))))) ∧
  ((Bool.true = Bool.true ∧
  (ao163 = ro3171 ∧
  (3 = 3 ∧
  (1 = 1 ∧
  (sTagsN = sTagsN ∧
  (cap164 = rc3172 ∧
  ((∀ i178 : Nat,
  (i178 < sTagsN →
  (Value.int IntKind.i64 (sTagsg0 i178)) = (Value.int IntKind.i64 (sTagsg0 i178)))) ∧
  True))))))) ∧
  True)))) ∧
  Bool.true = Bool.true)))))))))))))))))))))))))))))))))))))))))))))))) ∧
  (∀ b179 : Nat,
  (True ∧
  ((Exists (fun (tMidg0180 : (Nat →
  Int)) => (Exists (fun (tMidg1181 : (Nat →
  Int)) => (Exists (fun (tLeafg0182 : (Nat →
  Int)) => (Exists (fun (tLeafg1183 : (Nat →
  Int)) => ((sTreeMidO = sTreeMidO ∧
  (sTreeMidN = sTreeMidN ∧
  ([(fun (i184 : Nat) => (SC.int (sTreeMidg0 i184))), (fun (i185 : Nat) => (SC.int (sTreeMidg1 i185)))] = [(fun (i186 : Nat) => (SC.int (tMidg0180 i186))), (fun (i187 : Nat) => (SC.int (tMidg1181 i187)))] ∧
  (sTreeLeafO = sTreeLeafO ∧
  (sTreeLeafN = sTreeLeafN ∧
  ([(fun (i188 : Nat) => (SC.int (sTreeLeafg0 i188))), (fun (i189 : Nat) => (SC.int (sTreeLeafg1 i189)))] = [(fun (i190 : Nat) => (SC.int (tLeafg0182 i190))), (fun (i191 : Nat) => (SC.int (tLeafg1183 i191)))] ∧
  ((capC sTreeMidN) ∧
  (capC sTreeLeafN)))))))) ∧
  (∀ ro0192 : (Option Addr),
  (∀ rc0193 : Nat,
  (∀ ro1194 : (Option Addr),
  (∀ rc1195 : Nat,
  (True ∧
  (∀ b196 : Nat,
  (True ∧
  ((b196 = b196 ∧
  ((sDataO = sDataO ∧
  sDataN = sDataN) ∧
  ((∀ i197 : Nat,
  Bool.true = Bool.true) ∧
  (apC 0 sDataN 8)))) ∧
  (∀ ao198 : (Option Addr),
  (∀ cap199 : Nat,
  (True ∧
  ((b179 = b179 ∧
  ((sTagsO = sTagsO ∧
  sTagsN = sTagsN) ∧
  ((∀ i200 : Nat,
  Bool.true = Bool.true) ∧
  (apC 0 sTagsN 8)))) ∧
  (∀ ao201 : (Option Addr),
  (∀ cap202 : Nat,
  (True ∧
  (b1 = b1 ∧
  (True ∧
  (b1 = b1 ∧
  (Exists (fun (ro0203 : (Option Addr)) => (Exists (fun (rc0204 : Nat) => (Exists (fun (ro1205 : (Option Addr)) => (Exists (fun (rc1206 : Nat) => (Exists (fun (ro2207 : (Option Addr)) => (Exists (fun (rc2208 : Nat) => (Exists (fun (ro3209 : (Option Addr)) => (Exists (fun (rc3210 : Nat) => ((Value.agg (List.toArray [(Value.int IntKind.i64 sKey), (Value.int IntKind.i64 sTreeRoot), (Value.slice ro0192 sTreeMidN rc0193), (Value.slice ro1194 sTreeLeafN rc1195), (Value.slice ao198 sDataN cap199), (Value.slice ao201 sTagsN cap202)])) = (Value.agg (List.toArray [(Value.int IntKind.i64 sKey), (Value.int IntKind.i64 sTreeRoot), (Value.slice ro0203 sTreeMidN rc0204), (Value.slice ro1205 sTreeLeafN rc1206), (Value.slice ro2207 sDataN rc2208), (Value.slice ro3209 sTagsN rc3210)])) ∧
  (((Bool.true = Bool.true ∧
  (ro0192 = ro0203 ∧
  (37 = 37 ∧
  (2 = 2 ∧
  (sTreeMidN = sTreeMidN ∧
  (rc0193 = rc0204 ∧
  ((∀ i211 : Nat,
  (i211 < sTreeMidN →
  (Value.int IntKind.i64 (tMidg0180 i211)) = (Value.int IntKind.i64 (sTreeMidg0 i211)))) ∧
  ((∀ i212 : Nat,
  (i212 < sTreeMidN →
  (Value.int IntKind.i64 (tMidg1181 i212)) = (Value.int IntKind.i64 (sTreeMidg1 i212)))) ∧
  True)))))))) ∧
  ((Bool.true = Bool.true ∧
  (ro1194 = ro1205 ∧
  (37 = 37 ∧
  (2 = 2 ∧
  (sTreeLeafN = sTreeLeafN ∧
  (rc1195 = rc1206 ∧
  ((∀ i213 : Nat,
  (i213 < sTreeLeafN →
  (Value.int IntKind.i64 (tLeafg0182 i213)) = (Value.int IntKind.i64 (sTreeLeafg0 i213)))) ∧
  ((∀ i214 : Nat,
  (i214 < sTreeLeafN →
  (Value.int IntKind.i64 (tLeafg1183 i214)) = (Value.int IntKind.i64 (sTreeLeafg1 i214)))) ∧
  True)))))))) ∧
  ((Bool.true = Bool.true ∧
  (ao198 = ro2207 ∧
  (3 = 3 ∧
  (1 = 1 ∧
  (sDataN = sDataN ∧
  (cap199 = rc2208 ∧
  ((∀ i215 : Nat,
  (i215 < sDataN →
  (Value.int IntKind.i64 (sDatag0 i215)) = (Value.int IntKind.i64 (sDatag0 i215)))) ∧
  True))))))) ∧
  ((Bool.true = Bool.true ∧
  (ao201 = ro3209 ∧
  (3 = 3 ∧
  (1 = 1 ∧
  (sTagsN = sTagsN ∧
  (cap202 = rc3210 ∧
  ((∀ i216 : Nat,
  (i216 < sTagsN →
  (Value.int IntKind.i64 (sTagsg0 i216)) = (Value.int IntKind.i64 (sTagsg0 i216)))) ∧
  True))))))) ∧
  True)))) ∧
  Bool.true = Bool.true))))))))))))))))))))))))))))))))))))))))))))) ∧
  (∀ b217 : Nat,
  (True ∧
  (Exists (fun (tMidg0218 : (Nat →
  Int)) => (Exists (fun (tMidg1219 : (Nat →
  Int)) => (Exists (fun (tLeafg0220 : (Nat →
  Int)) => (Exists (fun (tLeafg1221 : (Nat →
  Int)) => ((sTreeMidO = sTreeMidO ∧
  (sTreeMidN = sTreeMidN ∧
  ([(fun (i222 : Nat) => (SC.int (sTreeMidg0 i222))), (fun (i223 : Nat) => (SC.int (sTreeMidg1 i223)))] = [(fun (i224 : Nat) => (SC.int (tMidg0218 i224))), (fun (i225 : Nat) => (SC.int (tMidg1219 i225)))] ∧
  (sTreeLeafO = sTreeLeafO ∧
  (sTreeLeafN = sTreeLeafN ∧
  ([(fun (i226 : Nat) => (SC.int (sTreeLeafg0 i226))), (fun (i227 : Nat) => (SC.int (sTreeLeafg1 i227)))] = [(fun (i228 : Nat) => (SC.int (tLeafg0220 i228))), (fun (i229 : Nat) => (SC.int (tLeafg1221 i229)))] ∧
  ((capC sTreeMidN) ∧
  (capC sTreeLeafN)))))))) ∧
  (∀ ro0230 : (Option Addr),
  (∀ rc0231 : Nat,
  (∀ ro1232 : (Option Addr),
  (∀ rc1233 : Nat,
  (True ∧
  ((b217 = b217 ∧
  ((sDataO = sDataO ∧
  sDataN = sDataN) ∧
  ((∀ i234 : Nat,
  Bool.true = Bool.true) ∧
  (apC 0 sDataN 8)))) ∧
  (∀ ao235 : (Option Addr),
  (∀ cap236 : Nat,
  (True ∧
  ((b179 = b179 ∧
  ((sTagsO = sTagsO ∧
  sTagsN = sTagsN) ∧
  ((∀ i237 : Nat,
  Bool.true = Bool.true) ∧
  (apC 0 sTagsN 8)))) ∧
  (∀ ao238 : (Option Addr),
  (∀ cap239 : Nat,
  (True ∧
  (b1 = b1 ∧
  (True ∧
  (b1 = b1 ∧
  (Exists (fun (ro0240 : (Option Addr)) => (Exists (fun (rc0241 : Nat) => (Exists (fun (ro1242 : (Option Addr)) => (Exists (fun (rc1243 : Nat) => (Exists (fun (ro2244 : (Option Addr)) => (Exists (fun (rc2245 : Nat) => (Exists (fun (ro3246 : (Option Addr)) => (Exists (fun (rc3247 : Nat) => ((Value.agg (List.toArray [(Value.int IntKind.i64 sKey), (Value.int IntKind.i64 sTreeRoot), (Value.slice ro0230 sTreeMidN rc0231), (Value.slice ro1232 sTreeLeafN rc1233), (Value.slice ao235 sDataN cap236), (Value.slice ao238 sTagsN cap239)])) = (Value.agg (List.toArray [(Value.int IntKind.i64 sKey), (Value.int IntKind.i64 sTreeRoot), (Value.slice ro0240 sTreeMidN rc0241), (Value.slice ro1242 sTreeLeafN rc1243), (Value.slice ro2244 sDataN rc2245), (Value.slice ro3246 sTagsN rc3247)])) ∧
  (((Bool.true = Bool.true ∧
  (ro0230 = ro0240 ∧
  (37 = 37 ∧
  (2 = 2 ∧
  (sTreeMidN = sTreeMidN ∧
  (rc0231 = rc0241 ∧
  ((∀ i248 : Nat,
  (i248 < sTreeMidN →
  (Value.int IntKind.i64 (tMidg0218 i248)) = (Value.int IntKind.i64 (sTreeMidg0 i248)))) ∧
  ((∀ i249 : Nat,
  (i249 < sTreeMidN →
  (Value.int IntKind.i64 (tMidg1219 i249)) = (Value.int IntKind.i64 (sTreeMidg1 i249)))) ∧
  True)))))))) ∧
  ((Bool.true = Bool.true ∧
  (ro1232 = ro1242 ∧
  (37 = 37 ∧
  (2 = 2 ∧
  (sTreeLeafN = sTreeLeafN ∧
  (rc1233 = rc1243 ∧
  ((∀ i250 : Nat,
  (i250 < sTreeLeafN →
  (Value.int IntKind.i64 (tLeafg0220 i250)) = (Value.int IntKind.i64 (sTreeLeafg0 i250)))) ∧
  ((∀ i251 : Nat,
  (i251 < sTreeLeafN →
  (Value.int IntKind.i64 (tLeafg1221 i251)) = (Value.int IntKind.i64 (sTreeLeafg1 i251)))) ∧
  True)))))))) ∧
  ((Bool.true = Bool.true ∧
  (ao235 = ro2244 ∧
  (3 = 3 ∧
  (1 = 1 ∧
  (sDataN = sDataN ∧
  (cap236 = rc2245 ∧
  ((∀ i252 : Nat,
  (i252 < sDataN →
  (Value.int IntKind.i64 (sDatag0 i252)) = (Value.int IntKind.i64 (sDatag0 i252)))) ∧
  True))))))) ∧
  ((Bool.true = Bool.true ∧
  (ao238 = ro3246 ∧
  (3 = 3 ∧
  (1 = 1 ∧
  (sTagsN = sTagsN ∧
  (cap239 = rc3247 ∧
  ((∀ i253 : Nat,
  (i253 < sTagsN →
  (Value.int IntKind.i64 (sTagsg0 i253)) = (Value.int IntKind.i64 (sTagsg0 i253)))) ∧
  True))))))) ∧
  True)))) ∧
  Bool.true = Bool.true))))))))))))))))))))))))))))))))))))))))))))))))))))))))) := by kernel_rfl
theorem copySI_any (sKey : Int) (sTreeRoot : Int) (sTreeMidO : Option Addr) (sTreeMidN sTreeMidC : Nat) (sTreeMidg0 sTreeMidg1 : Nat → Int) (sTreeLeafO : Option Addr) (sTreeLeafN sTreeLeafC : Nat) (sTreeLeafg0 sTreeLeafg1 : Nat → Int) (sDataO : Option Addr) (sDataN sDataC : Nat) (sDatag0 : Nat → Int) (sTagsO : Option Addr) (sTagsN sTagsC : Nat) (sTagsg0 : Nat → Int) (w : World) (hrsTreeMid : Row.sat w ⟨false, sTreeMidO, 0, 2, sTreeMidN, 0, [fun i => .int (sTreeMidg0 i), fun i => .int (sTreeMidg1 i)]⟩) (hrsTreeLeaf : Row.sat w ⟨false, sTreeLeafO, 0, 2, sTreeLeafN, 0, [fun i => .int (sTreeLeafg0 i), fun i => .int (sTreeLeafg1 i)]⟩) (hrsData : Row.sat w ⟨false, sDataO, 0, 1, sDataN, 0, [fun i => .int (sDatag0 i)]⟩) (hrsTags : Row.sat w ⟨false, sTagsO, 0, 1, sTagsN, 0, [fun i => .int (sTagsg0 i)]⟩) (hpre : capC sTreeMidN ∧ capC sTreeLeafN ∧ capC sDataN ∧ capC sTagsN) : Calls Try.prog 43 #[.agg #[.int .i64 sKey, .int .i64 sTreeRoot, .slice sTreeMidO sTreeMidN sTreeMidC, .slice sTreeLeafO sTreeLeafN sTreeLeafC, .slice sDataO sDataN sDataC, .slice sTagsO sTagsN sTagsC]] w fun e w' => ∃ (ro0 : Option Addr) (rc0 : Nat) (ro1 : Option Addr) (rc1 : Nat) (ro2 : Option Addr) (rc2 : Nat) (ro3 : Option Addr) (rc3 : Nat), e = .returned (.agg #[.int .i64 (sKey), .int .i64 (sTreeRoot), .slice ro0 (sTreeMidN) rc0, .slice ro1 (sTreeLeafN) rc1, .slice ro2 (sDataN) rc2, .slice ro3 (sTagsN) rc3]) ∧ HS ⟨w, fun _ => False⟩ [.row ⟨true, ro0, 37, 2, sTreeMidN, rc0, [fun i => .int (sTreeMidg0 i), fun i => .int (sTreeMidg1 i)]⟩, .row ⟨true, ro1, 37, 2, sTreeLeafN, rc1, [fun i => .int (sTreeLeafg0 i), fun i => .int (sTreeLeafg1 i)]⟩, .row ⟨true, ro2, 3, 1, sDataN, rc2, [fun i => .int (sDatag0 i)]⟩, .row ⟨true, ro3, 3, 1, sTagsN, rc3, [fun i => .int (sTagsg0 i)]⟩] w' := by
  refine fnB (tb := [(32, sCopyT)]) ⟨sCopyT_ok_copyI, trivial⟩ Try.func43 (@Eq.mpr _ _ (copySI_T sKey sTreeRoot sTreeMidO sTreeMidN sTreeMidC sTreeMidg0 sTreeMidg1 sTreeLeafO sTreeLeafN sTreeLeafC sTreeLeafg0 sTreeLeafg1 sDataO sDataN sDataC sDatag0 sTagsO sTagsN sTagsC sTagsg0) ?_) (HS.rows (fun _ => False) [⟨false, sTreeMidO, 0, 2, sTreeMidN, 0, [fun i => .int (sTreeMidg0 i), fun i => .int (sTreeMidg1 i)]⟩, ⟨false, sTreeLeafO, 0, 2, sTreeLeafN, 0, [fun i => .int (sTreeLeafg0 i), fun i => .int (sTreeLeafg1 i)]⟩, ⟨false, sDataO, 0, 1, sDataN, 0, [fun i => .int (sDatag0 i)]⟩, ⟨false, sTagsO, 0, 1, sTagsN, 0, [fun i => .int (sTagsg0 i)]⟩] (by simp; exact ⟨hrsTreeMid, hrsTreeLeaf, hrsData, hrsTags⟩)) (fun v ch' w' ⟨ro0, rc0, ro1, rc1, ro2, rc2, ro3, rc3, hk⟩ hs => ⟨ro0, rc0, ro1, rc1, ro2, rc2, ro3, rc3, by rw [hk.1], hk.hs hs⟩)
  clear hrsTreeMid hrsTreeLeaf hrsData hrsTags
  repeat' (first
    | exact rfl
    | exact True.intro
    | refine And.intro ?_ ?_
    | apply Exists.intro
    | assumption
    | omega
    | intro _)
theorem copySS_T (sKey : Int) (sTreeRoot : Int) (sTreeMidO : Option Addr) (sTreeMidN sTreeMidC : Nat) (sTreeMidg0 sTreeMidg1 : Nat → Int) (sTreeLeafO : Option Addr) (sTreeLeafN sTreeLeafC : Nat) (sTreeLeafg0 sTreeLeafg1 : Nat → Int) (sDataO : Option Addr) (sDataN sDataC : Nat) (sDatag0 : Nat → Int) (sTagsO : Option Addr) (sTagsN sTagsC : Nat) (sTagsg0 : Nat → Int) : (exFn Try.prog {tb := [(37, sCopyT)]} 400 Try.f48 ([.a (.agg [.int sKey, .int sTreeRoot, .sl 0 sTreeMidO sTreeMidN sTreeMidC, .sl 1 sTreeLeafO sTreeLeafN sTreeLeafC, .sl 2 sDataO sDataN sDataC, .sl 3 sTagsO sTagsN sTagsC])]) ([.row ⟨false, sTreeMidO, 0, 2, sTreeMidN, 0, [fun i => .int (sTreeMidg0 i), fun i => .int (sTreeMidg1 i)]⟩, .row ⟨false, sTreeLeafO, 0, 2, sTreeLeafN, 0, [fun i => .int (sTreeLeafg0 i), fun i => .int (sTreeLeafg1 i)]⟩, .row ⟨false, sDataO, 0, 1, sDataN, 0, [fun i => .int (sDatag0 i)]⟩, .row ⟨false, sTagsO, 0, 1, sTagsN, 0, [fun i => .int (sTagsg0 i)]⟩]) (fun v ch => ∃ (ro0 : Option Addr) (rc0 : Nat) (ro1 : Option Addr) (rc1 : Nat) (ro2 : Option Addr) (rc2 : Nat) (ro3 : Option Addr) (rc3 : Nat), OutR v ch (.agg #[.int .i64 (sKey), .int .i64 (sTreeRoot), .slice ro0 (sTreeMidN) rc0, .slice ro1 (sTreeLeafN) rc1, .slice ro2 (sDataN) rc2, .slice ro3 (sTagsN) rc3]) [.row ⟨true, ro0, 37, 2, sTreeMidN, rc0, [fun i => .int (sTreeMidg0 i), fun i => .int (sTreeMidg1 i)]⟩, .row ⟨true, ro1, 37, 2, sTreeLeafN, rc1, [fun i => .int (sTreeLeafg0 i), fun i => .int (sTreeLeafg1 i)]⟩, .row ⟨true, ro2, 3, 1, sDataN, rc2, [fun i => .int (sDatag0 i)]⟩, .row ⟨true, ro3, 3, 1, sTagsN, rc3, [fun i => .int (sTagsg0 i)]⟩])) = (
  (∀ b0 : Nat,
  (∀ b1 : Nat,
  (b0 = b0 ∧
  (b0 = b0 ∧
  (b0 = b0 ∧
  (b0 = b0 ∧
  ((Exists (fun (tMidg02 : (Nat →
  Int)) => (Exists (fun (tMidg13 : (Nat →
  Int)) => (Exists (fun (tLeafg04 : (Nat →
  Int)) => (Exists (fun (tLeafg15 : (Nat →
  Int)) => ((sTreeMidO = sTreeMidO ∧
  (sTreeMidN = sTreeMidN ∧
  ([(fun (i6 : Nat) => (SC.int (sTreeMidg0 i6))), (fun (i7 : Nat) => (SC.int (sTreeMidg1 i7)))] = [(fun (i8 : Nat) => (SC.int (tMidg02 i8))), (fun (i9 : Nat) => (SC.int (tMidg13 i9)))] ∧
  (sTreeLeafO = sTreeLeafO ∧
  (sTreeLeafN = sTreeLeafN ∧
  ([(fun (i10 : Nat) => (SC.int (sTreeLeafg0 i10))), (fun (i11 : Nat) => (SC.int (sTreeLeafg1 i11)))] = [(fun (i12 : Nat) => (SC.int (tLeafg04 i12))), (fun (i13 : Nat) => (SC.int (tLeafg15 i13)))] ∧
  ((capC sTreeMidN) ∧
  (capC sTreeLeafN)))))))) ∧
  (∀ ro014 : (Option Addr),
  (∀ rc015 : Nat,
  (∀ ro116 : (Option Addr),
  (∀ rc117 : Nat,
  (True ∧
  ((∀ b18 : Nat,
  (True ∧
  (((b18 = b18 ∧
  ((sDataO = sDataO ∧
  sDataN = sDataN) ∧
  ((∀ i19 : Nat,
  Bool.true = Bool.true) ∧
  (apC 0 sDataN 8)))) ∧
  (∀ ao20 : (Option Addr),
  (∀ cap21 : Nat,
  (True ∧
  (∀ b22 : Nat,
  (True ∧
  ((b22 = b22 ∧
  ((sTagsO = sTagsO ∧
  sTagsN = sTagsN) ∧
  ((∀ i23 : Nat,
  Bool.true = Bool.true) ∧
  (apC 0 sTagsN 8)))) ∧
  (∀ ao24 : (Option Addr),
  (∀ cap25 : Nat,
  (True ∧
  (b1 = b1 ∧
  (True ∧
  (b1 = b1 ∧
  (Exists (fun (ro026 : (Option Addr)) => (Exists (fun (rc027 : Nat) => (Exists (fun (ro128 : (Option Addr)) => (Exists (fun (rc129 : Nat) => (Exists (fun (ro230 : (Option Addr)) => (Exists (fun (rc231 : Nat) => (Exists (fun (ro332 : (Option Addr)) => (Exists (fun (rc333 : Nat) => ((Value.agg (List.toArray [(Value.int IntKind.i64 sKey), (Value.int IntKind.i64 sTreeRoot), (Value.slice ro014 sTreeMidN rc015), (Value.slice ro116 sTreeLeafN rc117), (Value.slice ao20 sDataN cap21), (Value.slice ao24 sTagsN cap25)])) = (Value.agg (List.toArray [(Value.int IntKind.i64 sKey), (Value.int IntKind.i64 sTreeRoot), (Value.slice ro026 sTreeMidN rc027), (Value.slice ro128 sTreeLeafN rc129), (Value.slice ro230 sDataN rc231), (Value.slice ro332 sTagsN rc333)])) ∧
  (((Bool.true = Bool.true ∧
  (ro014 = ro026 ∧
  (37 = 37 ∧
  (2 = 2 ∧
  (sTreeMidN = sTreeMidN ∧
  (rc015 = rc027 ∧
  ((∀ i34 : Nat,
  (i34 < sTreeMidN →
  (Value.int IntKind.i64 (tMidg02 i34)) = (Value.int IntKind.i64 (sTreeMidg0 i34)))) ∧
  ((∀ i35 : Nat,
  (i35 < sTreeMidN →
  (Value.int IntKind.i64 (tMidg13 i35)) = (Value.int IntKind.i64 (sTreeMidg1 i35)))) ∧
  True)))))))) ∧
  ((Bool.true = Bool.true ∧
  (ro116 = ro128 ∧
  (37 = 37 ∧
  (2 = 2 ∧
  (sTreeLeafN = sTreeLeafN ∧
  (rc117 = rc129 ∧
  ((∀ i36 : Nat,
  (i36 < sTreeLeafN →
  (Value.int IntKind.i64 (tLeafg04 i36)) = (Value.int IntKind.i64 (sTreeLeafg0 i36)))) ∧
  ((∀ i37 : Nat,
  (i37 < sTreeLeafN →
  (Value.int IntKind.i64 (tLeafg15 i37)) = (Value.int IntKind.i64 (sTreeLeafg1 i37)))) ∧
  True)))))))) ∧
  ((Bool.true = Bool.true ∧
  (ao20 = ro230 ∧
  (3 = 3 ∧
  (1 = 1 ∧
  (sDataN = sDataN ∧
  (cap21 = rc231 ∧
  ((∀ i38 : Nat,
  (i38 < sDataN →
  (Value.int IntKind.i64 (sDatag0 i38)) = (Value.int IntKind.i64 (sDatag0 i38)))) ∧
  True))))))) ∧
  ((Bool.true = Bool.true ∧
  (ao24 = ro332 ∧
  (3 = 3 ∧
  (1 = 1 ∧
  (sTagsN = sTagsN ∧
  (cap25 = rc333 ∧
  ((∀ i39 : Nat,
  (i39 < sTagsN →
  (Value.int IntKind.i64 (sTagsg0 i39)) = (Value.int IntKind.i64 (sTagsg0 i39)))) ∧
  True))))))) ∧
  True)))) ∧
  Bool.true = Bool.true))))))))))))))))))))))))))))))) ∧
  (∀ b40 : Nat,
  (True ∧
  ((b18 = b18 ∧
  ((sDataO = sDataO ∧
  sDataN = sDataN) ∧
  ((∀ i41 : Nat,
  Bool.true = Bool.true) ∧
  (apC 0 sDataN 8)))) ∧
  (∀ ao42 : (Option Addr),
  (∀ cap43 : Nat,
  (True ∧
  ((b40 = b40 ∧
  ((sTagsO = sTagsO ∧
  sTagsN = sTagsN) ∧
  ((∀ i44 : Nat,
  Bool.true = Bool.true) ∧
  (apC 0 sTagsN 8)))) ∧
  (∀ ao45 : (Option Addr),
  (∀ cap46 : Nat,
  (True ∧
  (b1 = b1 ∧
  (True ∧
  (b1 = b1 ∧
  (Exists (fun (ro047 : (Option Addr)) => (Exists (fun (rc048 : Nat) => (Exists (fun (ro149 : (Option Addr)) => (Exists (fun (rc150 : Nat) => (Exists (fun (ro251 : (Option Addr)) => (Exists (fun (rc252 : Nat) => (Exists (fun (ro353 : (Option Addr)) => (Exists (fun (rc354 : Nat) => ((Value.agg (List.toArray [(Value.int IntKind.i64 sKey), (Value.int IntKind.i64 sTreeRoot), (Value.slice ro014 sTreeMidN rc015), (Value.slice ro116 sTreeLeafN rc117), (Value.slice ao42 sDataN cap43), (Value.slice ao45 sTagsN cap46)])) = (Value.agg (List.toArray [(Value.int IntKind.i64 sKey), (Value.int IntKind.i64 sTreeRoot), (Value.slice ro047 sTreeMidN rc048), (Value.slice ro149 sTreeLeafN rc150), (Value.slice ro251 sDataN rc252), (Value.slice ro353 sTagsN rc354)])) ∧
  (((Bool.true = Bool.true ∧
  (ro014 = ro047 ∧
  (37 = 37 ∧
  (2 = 2 ∧
  (sTreeMidN = sTreeMidN ∧
  (rc015 = rc048 ∧
  ((∀ i55 : Nat,
  (i55 < sTreeMidN →
  (Value.int IntKind.i64 (tMidg02 i55)) = (Value.int IntKind.i64 (sTreeMidg0 i55)))) ∧
  ((∀ i56 : Nat,
  (i56 < sTreeMidN →
  (Value.int IntKind.i64 (tMidg13 i56)) = (Value.int IntKind.i64 (sTreeMidg1 i56)))) ∧
  True)))))))) ∧
  ((Bool.true = Bool.true ∧
  (ro116 = ro149 ∧
  (37 = 37 ∧
  (2 = 2 ∧
  (sTreeLeafN = sTreeLeafN ∧
  (rc117 = rc150 ∧
  ((∀ i57 : Nat,
  (i57 < sTreeLeafN →
  (Value.int IntKind.i64 (tLeafg04 i57)) = (Value.int IntKind.i64 (sTreeLeafg0 i57)))) ∧
  ((∀ i58 : Nat,
  (i58 < sTreeLeafN →
  (Value.int IntKind.i64 (tLeafg15 i58)) = (Value.int IntKind.i64 (sTreeLeafg1 i58)))) ∧
  True)))))))) ∧
  ((Bool.true = Bool.true ∧
  (ao42 = ro251 ∧
  (3 = 3 ∧
  (1 = 1 ∧
  (sDataN = sDataN ∧
  (cap43 = rc252 ∧
  ((∀ i59 : Nat,
  (i59 < sDataN →
  (Value.int IntKind.i64 (sDatag0 i59)) = (Value.int IntKind.i64 (sDatag0 i59)))) ∧
  True))))))) ∧
  ((Bool.true = Bool.true ∧
  (ao45 = ro353 ∧
  (3 = 3 ∧
  (1 = 1 ∧
  (sTagsN = sTagsN ∧
  (cap46 = rc354 ∧
  ((∀ i60 : Nat,
  (i60 < sTagsN →
  (Value.int IntKind.i64 (sTagsg0 i60)) = (Value.int IntKind.i64 (sTagsg0 i60)))) ∧
  True))))))) ∧
  True)))) ∧
  Bool.true = Bool.true)))))))))))))))))))))))))))))))))) ∧
  (∀ b61 : Nat,
  (True ∧
  (∀ b62 : Nat,
  (True ∧
  ((b62 = b62 ∧
  ((sDataO = sDataO ∧
  sDataN = sDataN) ∧
  ((∀ i63 : Nat,
  Bool.true = Bool.true) ∧
  (apC 0 sDataN 8)))) ∧
  (∀ ao64 : (Option Addr),
  (∀ cap65 : Nat,
  (True ∧
  ((b61 = b61 ∧
  ((sTagsO = sTagsO ∧
  sTagsN = sTagsN) ∧
  ((∀ i66 : Nat,
  Bool.true = Bool.true) ∧
  (apC 0 sTagsN 8)))) ∧
  (∀ ao67 : (Option Addr),
  (∀ cap68 : Nat,
  (True ∧
  (b1 = b1 ∧
  (True ∧
  (b1 = b1 ∧
  (Exists (fun (ro069 : (Option Addr)) => (Exists (fun (rc070 : Nat) => (Exists (fun (ro171 : (Option Addr)) => (Exists (fun (rc172 : Nat) => (Exists (fun (ro273 : (Option Addr)) => (Exists (fun (rc274 : Nat) => (Exists (fun (ro375 : (Option Addr)) => (Exists (fun (rc376 : Nat) => ((Value.agg (List.toArray [(Value.int IntKind.i64 sKey), (Value.int IntKind.i64 sTreeRoot), (Value.slice ro014 sTreeMidN rc015), (Value.slice ro116 sTreeLeafN rc117), (Value.slice ao64 sDataN cap65), (Value.slice ao67 sTagsN cap68)])) = (Value.agg (List.toArray [(Value.int IntKind.i64 sKey), (Value.int IntKind.i64 sTreeRoot), (Value.slice ro069 sTreeMidN rc070), (Value.slice ro171 sTreeLeafN rc172), (Value.slice ro273 sDataN rc274), (Value.slice ro375 sTagsN rc376)])) ∧
  (((Bool.true = Bool.true ∧
  (ro014 = ro069 ∧
  (37 = 37 ∧
  (2 = 2 ∧
  (sTreeMidN = sTreeMidN ∧
  (rc015 = rc070 ∧
  ((∀ i77 : Nat,
  (i77 < sTreeMidN →
  (Value.int IntKind.i64 (tMidg02 i77)) = (Value.int IntKind.i64 (sTreeMidg0 i77)))) ∧
  ((∀ i78 : Nat,
  (i78 < sTreeMidN →
  (Value.int IntKind.i64 (tMidg13 i78)) = (Value.int IntKind.i64 (sTreeMidg1 i78)))) ∧
  True)))))))) ∧
  ((Bool.true = Bool.true ∧
  (ro116 = ro171 ∧
  (37 = 37 ∧
  (2 = 2 ∧
  (sTreeLeafN = sTreeLeafN ∧
  (rc117 = rc172 ∧
  ((∀ i79 : Nat,
  (i79 < sTreeLeafN →
  (Value.int IntKind.i64 (tLeafg04 i79)) = (Value.int IntKind.i64 (sTreeLeafg0 i79)))) ∧
  ((∀ i80 : Nat,
  (i80 < sTreeLeafN →
  (Value.int IntKind.i64 (tLeafg15 i80)) = (Value.int IntKind.i64 (sTreeLeafg1 i80)))) ∧
  True)))))))) ∧
  ((Bool.true = Bool.true ∧
  (ao64 = ro273 ∧
  (3 = 3 ∧
  (1 = 1 ∧
  (sDataN = sDataN ∧
  (cap65 = rc274 ∧
  ((∀ i81 : Nat,
  (i81 < sDataN →
  (Value.int IntKind.i64 (sDatag0 i81)) = (Value.int IntKind.i64 (sDatag0 i81)))) ∧
  True))))))) ∧
  ((Bool.true = Bool.true ∧
  (ao67 = ro375 ∧
  (3 = 3 ∧
  (1 = 1 ∧
  (sTagsN = sTagsN ∧
  (cap68 = rc376 ∧
  ((∀ i82 : Nat,
  (i82 < sTagsN →
  (Value.int IntKind.i64 (sTagsg0 i82)) = (Value.int IntKind.i64 (sTagsg0 i82)))) ∧
  True))))))) ∧
  True)))) ∧
  Bool.true = Bool.true)))))))))))))))))))))))))))))))))))))))))))))))) ∧
  ((∀ b83 : Nat,
  (True ∧
  ((Exists (fun (tMidg084 : (Nat →
  Int)) => (Exists (fun (tMidg185 : (Nat →
  Int)) => (Exists (fun (tLeafg086 : (Nat →
  Int)) => (Exists (fun (tLeafg187 : (Nat →
  Int)) => ((sTreeMidO = sTreeMidO ∧
  (sTreeMidN = sTreeMidN ∧
  ([(fun (i88 : Nat) => (SC.int (sTreeMidg0 i88))), (fun (i89 : Nat) => (SC.int (sTreeMidg1 i89)))] = [(fun (i90 : Nat) => (SC.int (tMidg084 i90))), (fun (i91 : Nat) => (SC.int (tMidg185 i91)))] ∧
  (sTreeLeafO = sTreeLeafO ∧
  (sTreeLeafN = sTreeLeafN ∧
  ([(fun (i92 : Nat) => (SC.int (sTreeLeafg0 i92))), (fun (i93 : Nat) => (SC.int (sTreeLeafg1 i93)))] = [(fun (i94 : Nat) => (SC.int (tLeafg086 i94))), (fun (i95 : Nat) => (SC.int (tLeafg187 i95)))] ∧
  ((capC sTreeMidN) ∧
  (capC sTreeLeafN)))))))) ∧
  (∀ ro096 : (Option Addr),
  (∀ rc097 : Nat,
  (∀ ro198 : (Option Addr),
  (∀ rc199 : Nat,
  (True ∧
  (((b83 = b83 ∧
  ((sDataO = sDataO ∧
  sDataN = sDataN) ∧
  ((∀ i100 : Nat,
  Bool.true = Bool.true) ∧
  (apC 0 sDataN 8)))) ∧
  (∀ ao101 : (Option Addr),
  (∀ cap102 : Nat,
  (True ∧
  (∀ b103 : Nat,
  (True ∧
  ((b103 = b103 ∧
  ((sTagsO = sTagsO ∧
  sTagsN = sTagsN) ∧
  ((∀ i104 : Nat,
  Bool.true = Bool.true) ∧
  (apC 0 sTagsN 8)))) ∧
  (∀ ao105 : (Option Addr),
  (∀ cap106 : Nat,
  (True ∧
  (b1 = b1 ∧
  (True ∧
  (b1 = b1 ∧
  (Exists (fun (ro0107 : (Option Addr)) => (Exists (fun (rc0108 : Nat) => (Exists (fun (ro1109 : (Option Addr)) => (Exists (fun (rc1110 : Nat) => (Exists (fun (ro2111 : (Option Addr)) => (Exists (fun (rc2112 : Nat) => (Exists (fun (ro3113 : (Option Addr)) => (Exists (fun (rc3114 : Nat) => ((Value.agg (List.toArray [(Value.int IntKind.i64 sKey), (Value.int IntKind.i64 sTreeRoot), (Value.slice ro096 sTreeMidN rc097), (Value.slice ro198 sTreeLeafN rc199), (Value.slice ao101 sDataN cap102), (Value.slice ao105 sTagsN cap106)])) = (Value.agg (List.toArray [(Value.int IntKind.i64 sKey), (Value.int IntKind.i64 sTreeRoot), (Value.slice ro0107 sTreeMidN rc0108), (Value.slice ro1109 sTreeLeafN rc1110), (Value.slice ro2111 sDataN rc2112), (Value.slice ro3113 sTagsN rc3114)])) ∧
  (((Bool.true = Bool.true ∧
  (ro096 = ro0107 ∧
  (37 = 37 ∧
  (2 = 2 ∧
  (sTreeMidN = sTreeMidN ∧
  (rc097 = rc0108 ∧
  ((∀ i115 : Nat,
  (i115 < sTreeMidN →
  (Value.int IntKind.i64 (tMidg084 i115)) = (Value.int IntKind.i64 (sTreeMidg0 i115)))) ∧
  ((∀ i116 : Nat,
  (i116 < sTreeMidN →
  (Value.int IntKind.i64 (tMidg185 i116)) = (Value.int IntKind.i64 (sTreeMidg1 i116)))) ∧
  True)))))))) ∧
  ((Bool.true = Bool.true ∧
  (ro198 = ro1109 ∧
  (37 = 37 ∧
  (2 = 2 ∧
  (sTreeLeafN = sTreeLeafN ∧
  (rc199 = rc1110 ∧
  ((∀ i117 : Nat,
  (i117 < sTreeLeafN →
  (Value.int IntKind.i64 (tLeafg086 i117)) = (Value.int IntKind.i64 (sTreeLeafg0 i117)))) ∧
  ((∀ i118 : Nat,
  (i118 < sTreeLeafN →
  (Value.int IntKind.i64 (tLeafg187 i118)) = (Value.int IntKind.i64 (sTreeLeafg1 i118)))) ∧
  True)))))))) ∧
  ((Bool.true = Bool.true ∧
  (ao101 = ro2111 ∧
  (3 = 3 ∧
  (1 = 1 ∧
  (sDataN = sDataN ∧
  (cap102 = rc2112 ∧
  ((∀ i119 : Nat,
  (i119 < sDataN →
  (Value.int IntKind.i64 (sDatag0 i119)) = (Value.int IntKind.i64 (sDatag0 i119)))) ∧
  True))))))) ∧
  ((Bool.true = Bool.true ∧
  (ao105 = ro3113 ∧
  (3 = 3 ∧
  (1 = 1 ∧
  (sTagsN = sTagsN ∧
  (cap106 = rc3114 ∧
  ((∀ i120 : Nat,
  (i120 < sTagsN →
  (Value.int IntKind.i64 (sTagsg0 i120)) = (Value.int IntKind.i64 (sTagsg0 i120)))) ∧
  True))))))) ∧
  True)))) ∧
  Bool.true = Bool.true))))))))))))))))))))))))))))))) ∧
  (∀ b121 : Nat,
  (True ∧
  ((b83 = b83 ∧
  ((sDataO = sDataO ∧
  sDataN = sDataN) ∧
  ((∀ i122 : Nat,
  Bool.true = Bool.true) ∧
  (apC 0 sDataN 8)))) ∧
  (∀ ao123 : (Option Addr),
  (∀ cap124 : Nat,
  (True ∧
  ((b121 = b121 ∧
  ((sTagsO = sTagsO ∧
  sTagsN = sTagsN) ∧
  ((∀ i125 : Nat,
  Bool.true = Bool.true) ∧
  (apC 0 sTagsN 8)))) ∧
  (∀ ao126 : (Option Addr),
  (∀ cap127 : Nat,
  (True ∧
  (b1 = b1 ∧
  (True ∧
  (b1 = b1 ∧
  (Exists (fun (ro0128 : (Option Addr)) => (Exists (fun (rc0129 : Nat) => (Exists (fun (ro1130 : (Option Addr)) => (Exists (fun (rc1131 : Nat) => (Exists (fun (ro2132 : (Option Addr)) => (Exists (fun (rc2133 : Nat) => (Exists (fun (ro3134 : (Option Addr)) => (Exists (fun (rc3135 : Nat) => ((Value.agg (List.toArray [(Value.int IntKind.i64 sKey), (Value.int IntKind.i64 sTreeRoot), (Value.slice ro096 sTreeMidN rc097), (Value.slice ro198 sTreeLeafN rc199), (Value.slice ao123 sDataN cap124), (Value.slice ao126 sTagsN cap127)])) = (Value.agg (List.toArray [(Value.int IntKind.i64 sKey), (Value.int IntKind.i64 sTreeRoot), (Value.slice ro0128 sTreeMidN rc0129), (Value.slice ro1130 sTreeLeafN rc1131), (Value.slice ro2132 sDataN rc2133), (Value.slice ro3134 sTagsN rc3135)])) ∧
  (((Bool.true = Bool.true ∧
  (ro096 = ro0128 ∧
  (37 = 37 ∧
  (2 = 2 ∧
  (sTreeMidN = sTreeMidN ∧
  (rc097 = rc0129 ∧
  ((∀ i136 : Nat,
  (i136 < sTreeMidN →
  (Value.int IntKind.i64 (tMidg084 i136)) = (Value.int IntKind.i64 (sTreeMidg0 i136)))) ∧
  ((∀ i137 : Nat,
  (i137 < sTreeMidN →
  (Value.int IntKind.i64 (tMidg185 i137)) = (Value.int IntKind.i64 (sTreeMidg1 i137)))) ∧
  True)))))))) ∧
  ((Bool.true = Bool.true ∧
  (ro198 = ro1130 ∧
  (37 = 37 ∧
  (2 = 2 ∧
  (sTreeLeafN = sTreeLeafN ∧
  (rc199 = rc1131 ∧
  ((∀ i138 : Nat,
  (i138 < sTreeLeafN →
  (Value.int IntKind.i64 (tLeafg086 i138)) = (Value.int IntKind.i64 (sTreeLeafg0 i138)))) ∧
  ((∀ i139 : Nat,
  (i139 < sTreeLeafN →
  (Value.int IntKind.i64 (tLeafg187 i139)) = (Value.int IntKind.i64 (sTreeLeafg1 i139)))) ∧
  True)))))))) ∧
  ((Bool.true = Bool.true ∧
  (ao123 = ro2132 ∧
  (3 = 3 ∧
  (1 = 1 ∧
  (sDataN = sDataN ∧
  (cap124 = rc2133 ∧
  ((∀ i140 : Nat,
  (i140 < sDataN →
  (Value.int IntKind.i64 (sDatag0 i140)) = (Value.int IntKind.i64 (sDatag0 i140)))) ∧
  True))))))) ∧
  ((Bool.true = Bool.true ∧
  (ao126 = ro3134 ∧
  (3 = 3 ∧
  (1 = 1 ∧
  (sTagsN = sTagsN ∧
  (cap127 = rc3135 ∧
  ((∀ i141 : Nat,
  (i141 < sTagsN →
  (Value.int IntKind.i64 (sTagsg0 i141)) = (Value.int IntKind.i64 (sTagsg0 i141)))) ∧
  True))))))) ∧
  True)))) ∧
  Bool.true = Bool.true)))))))))))))))))))))))))))))))))))))))))))))) ∧
  (∀ b142 : Nat,
  (True ∧
  (Exists (fun (tMidg0143 : (Nat →
  Int)) => (Exists (fun (tMidg1144 : (Nat →
  Int)) => (Exists (fun (tLeafg0145 : (Nat →
  Int)) => (Exists (fun (tLeafg1146 : (Nat →
  Int)) => ((sTreeMidO = sTreeMidO ∧
  (sTreeMidN = sTreeMidN ∧
  ([(fun (i147 : Nat) => (SC.int (sTreeMidg0 i147))), (fun (i148 : Nat) => (SC.int (sTreeMidg1 i148)))] = [(fun (i149 : Nat) => (SC.int (tMidg0143 i149))), (fun (i150 : Nat) => (SC.int (tMidg1144 i150)))] ∧
  (sTreeLeafO = sTreeLeafO ∧
  (sTreeLeafN = sTreeLeafN ∧
  ([(fun (i151 : Nat) => (SC.int (sTreeLeafg0 i151))), (fun (i152 : Nat) => (SC.int (sTreeLeafg1 i152)))] = [(fun (i153 : Nat) => (SC.int (tLeafg0145 i153))), (fun (i154 : Nat) => (SC.int (tLeafg1146 i154)))] ∧
  ((capC sTreeMidN) ∧
  (capC sTreeLeafN)))))))) ∧
  (∀ ro0155 : (Option Addr),
  (∀ rc0156 : Nat,
  (∀ ro1157 : (Option Addr),
  (∀ rc1158 : Nat,
  (True ∧
  ((b83 = b83 ∧
  ((sDataO = sDataO ∧
  sDataN = sDataN) ∧
  ((∀ i159 : Nat,
  Bool.true = Bool.true) ∧
  (apC 0 sDataN 8)))) ∧
  (∀ ao160 : (Option Addr),
  (∀ cap161 : Nat,
  (True ∧
  ((b142 = b142 ∧
  ((sTagsO = sTagsO ∧
  sTagsN = sTagsN) ∧
  ((∀ i162 : Nat,
  Bool.true = Bool.true) ∧
  (apC 0 sTagsN 8)))) ∧
  (∀ ao163 : (Option Addr),
  (∀ cap164 : Nat,
  (True ∧
  (b1 = b1 ∧
  (True ∧
  (b1 = b1 ∧
  (Exists (fun (ro0165 : (Option Addr)) => (Exists (fun (rc0166 : Nat) => (Exists (fun (ro1167 : (Option Addr)) => (Exists (fun (rc1168 : Nat) => (Exists (fun (ro2169 : (Option Addr)) => (Exists (fun (rc2170 : Nat) => (Exists (fun (ro3171 : (Option Addr)) => (Exists (fun (rc3172 : Nat) => ((Value.agg (List.toArray [(Value.int IntKind.i64 sKey), (Value.int IntKind.i64 sTreeRoot), (Value.slice ro0155 sTreeMidN rc0156), (Value.slice ro1157 sTreeLeafN rc1158), (Value.slice ao160 sDataN cap161), (Value.slice ao163 sTagsN cap164)])) = (Value.agg (List.toArray [(Value.int IntKind.i64 sKey), (Value.int IntKind.i64 sTreeRoot), (Value.slice ro0165 sTreeMidN rc0166), (Value.slice ro1167 sTreeLeafN rc1168), (Value.slice ro2169 sDataN rc2170), (Value.slice ro3171 sTagsN rc3172)])) ∧
  (((Bool.true = Bool.true ∧
  (ro0155 = ro0165 ∧
  (37 = 37 ∧
  (2 = 2 ∧
  (sTreeMidN = sTreeMidN ∧
  (rc0156 = rc0166 ∧
  ((∀ i173 : Nat,
  (i173 < sTreeMidN →
  (Value.int IntKind.i64 (tMidg0143 i173)) = (Value.int IntKind.i64 (sTreeMidg0 i173)))) ∧
  ((∀ i174 : Nat,
  (i174 < sTreeMidN →
  (Value.int IntKind.i64 (tMidg1144 i174)) = (Value.int IntKind.i64 (sTreeMidg1 i174)))) ∧
  True)))))))) ∧
  ((Bool.true = Bool.true ∧
  (ro1157 = ro1167 ∧
  (37 = 37 ∧
  (2 = 2 ∧
  (sTreeLeafN = sTreeLeafN ∧
  (rc1158 = rc1168 ∧
  ((∀ i175 : Nat,
  (i175 < sTreeLeafN →
  (Value.int IntKind.i64 (tLeafg0145 i175)) = (Value.int IntKind.i64 (sTreeLeafg0 i175)))) ∧
  ((∀ i176 : Nat,
  (i176 < sTreeLeafN →
  (Value.int IntKind.i64 (tLeafg1146 i176)) = (Value.int IntKind.i64 (sTreeLeafg1 i176)))) ∧
  True)))))))) ∧
  ((Bool.true = Bool.true ∧
  (ao160 = ro2169 ∧
  (3 = 3 ∧
  (1 = 1 ∧
  (sDataN = sDataN ∧
  (cap161 = rc2170 ∧
  ((∀ i177 : Nat,
  (i177 < sDataN →
  (Value.int IntKind.i64 (sDatag0 i177)) = (Value.int IntKind.i64 (sDatag0 i177)))) ∧
  True))))))) ∧
  ((Bool.true = Bool.true ∧
  (ao163 = ro3171 ∧
  (3 = 3 ∧
  (1 = 1 ∧
  (sTagsN = sTagsN ∧
  (cap164 = rc3172 ∧
  ((∀ i178 : Nat,
  (i178 < sTagsN →
  (Value.int IntKind.i64 (sTagsg0 i178)) = (Value.int IntKind.i64 (sTagsg0 i178)))) ∧
  True))))))) ∧
  True)))) ∧
  Bool.true = Bool.true)))))))))))))))))))))))))))))))))))))))))))))))) ∧
  (∀ b179 : Nat,
  (True ∧
  ((Exists (fun (tMidg0180 : (Nat →
  Int)) => (Exists (fun (tMidg1181 : (Nat →
  Int)) => (Exists (fun (tLeafg0182 : (Nat →
  Int)) => (Exists (fun (tLeafg1183 : (Nat →
  Int)) => ((sTreeMidO = sTreeMidO ∧
  (sTreeMidN = sTreeMidN ∧
  ([(fun (i184 : Nat) => (SC.int (sTreeMidg0 i184))), (fun (i185 : Nat) => (SC.int (sTreeMidg1 i185)))] = [(fun (i186 : Nat) => (SC.int (tMidg0180 i186))), (fun (i187 : Nat) => (SC.int (tMidg1181 i187)))] ∧
  (sTreeLeafO = sTreeLeafO ∧
  (sTreeLeafN = sTreeLeafN ∧
  ([(fun (i188 : Nat) => (SC.int (sTreeLeafg0 i188))), (fun (i189 : Nat) => (SC.int (sTreeLeafg1 i189)))] = [(fun (i190 : Nat) => (SC.int (tLeafg0182 i190))), (fun (i191 : Nat) => (SC.int (tLeafg1183 i191)))] ∧
  ((capC sTreeMidN) ∧
  (capC sTreeLeafN)))))))) ∧
  (∀ ro0192 : (Option Addr),
  (∀ rc0193 : Nat,
  (∀ ro1194 : (Option Addr),
  (∀ rc1195 : Nat,
  (True ∧
  (∀ b196 : Nat,
  (True ∧
  ((b196 = b196 ∧
  ((sDataO = sDataO ∧
  sDataN = sDataN) ∧
  ((∀ i197 : Nat,
  Bool.true = Bool.true) ∧
  (apC 0 sDataN 8)))) ∧
  (∀ ao198 : (Option Addr),
  (∀ cap199 : Nat,
  (True ∧
  ((b179 = b179 ∧
  ((sTagsO = sTagsO ∧
  sTagsN = sTagsN) ∧
  ((∀ i200 : Nat,
  Bool.true = Bool.true) ∧
  (apC 0 sTagsN 8)))) ∧
  (∀ ao201 : (Option Addr),
  (∀ cap202 : Nat,
  (True ∧
  (b1 = b1 ∧
  (True ∧
  (b1 = b1 ∧
  (Exists (fun (ro0203 : (Option Addr)) => (Exists (fun (rc0204 : Nat) => (Exists (fun (ro1205 : (Option Addr)) => (Exists (fun (rc1206 : Nat) => (Exists (fun (ro2207 : (Option Addr)) => (Exists (fun (rc2208 : Nat) => (Exists (fun (ro3209 : (Option Addr)) => (Exists (fun (rc3210 : Nat) => ((Value.agg (List.toArray [(Value.int IntKind.i64 sKey), (Value.int IntKind.i64 sTreeRoot), (Value.slice ro0192 sTreeMidN rc0193), (Value.slice ro1194 sTreeLeafN rc1195), (Value.slice ao198 sDataN cap199), (Value.slice ao201 sTagsN cap202)])) = (Value.agg (List.toArray [(Value.int IntKind.i64 sKey), (Value.int IntKind.i64 sTreeRoot), (Value.slice ro0203 sTreeMidN rc0204), (Value.slice ro1205 sTreeLeafN rc1206), (Value.slice ro2207 sDataN rc2208), (Value.slice ro3209 sTagsN rc3210)])) ∧
  (((Bool.true = Bool.true ∧
  (ro0192 = ro0203 ∧
  (37 = 37 ∧
  (2 = 2 ∧
  (sTreeMidN = sTreeMidN ∧
  (rc0193 = rc0204 ∧
  ((∀ i211 : Nat,
  (i211 < sTreeMidN →
  (Value.int IntKind.i64 (tMidg0180 i211)) = (Value.int IntKind.i64 (sTreeMidg0 i211)))) ∧
  ((∀ i212 : Nat,
  (i212 < sTreeMidN →
  (Value.int IntKind.i64 (tMidg1181 i212)) = (Value.int IntKind.i64 (sTreeMidg1 i212)))) ∧
  True)))))))) ∧
  ((Bool.true = Bool.true ∧
  (ro1194 = ro1205 ∧
  (37 = 37 ∧
  (2 = 2 ∧
  (sTreeLeafN = sTreeLeafN ∧
  (rc1195 = rc1206 ∧
  ((∀ i213 : Nat,
  (i213 < sTreeLeafN →
  (Value.int IntKind.i64 (tLeafg0182 i213)) = (Value.int IntKind.i64 (sTreeLeafg0 i213)))) ∧
  ((∀ i214 : Nat,
  (i214 < sTreeLeafN →
  (Value.int IntKind.i64 (tLeafg1183 i214)) = (Value.int IntKind.i64 (sTreeLeafg1 i214)))) ∧
  True)))))))) ∧
  ((Bool.true = Bool.true ∧
  (ao198 = ro2207 ∧
  (3 = 3 ∧
  (1 = 1 ∧
  (sDataN = sDataN ∧
  (cap199 = rc2208 ∧
  ((∀ i215 : Nat,
  (i215 < sDataN →
  (Value.int IntKind.i64 (sDatag0 i215)) = (Value.int IntKind.i64 (sDatag0 i215)))) ∧
  True))))))) ∧
  ((Bool.true = Bool.true ∧
  (ao201 = ro3209 ∧
  (3 = 3 ∧
  (1 = 1 ∧
  (sTagsN = sTagsN ∧
  (cap202 = rc3210 ∧
  ((∀ i216 : Nat,
  (i216 < sTagsN →
  (Value.int IntKind.i64 (sTagsg0 i216)) = (Value.int IntKind.i64 (sTagsg0 i216)))) ∧
  True))))))) ∧
  True)))) ∧
  Bool.true = Bool.true))))))))))))))))))))))))))))))))))))))))))))) ∧
  (∀ b217 : Nat,
  (True ∧
  (Exists (fun (tMidg0218 : (Nat →
  Int)) => (Exists (fun (tMidg1219 : (Nat →
  Int)) => (Exists (fun (tLeafg0220 : (Nat →
  Int)) => (Exists (fun (tLeafg1221 : (Nat →
  Int)) => ((sTreeMidO = sTreeMidO ∧
  (sTreeMidN = sTreeMidN ∧
  ([(fun (i222 : Nat) => (SC.int (sTreeMidg0 i222))), (fun (i223 : Nat) => (SC.int (sTreeMidg1 i223)))] = [(fun (i224 : Nat) => (SC.int (tMidg0218 i224))), (fun (i225 : Nat) => (SC.int (tMidg1219 i225)))] ∧
  (sTreeLeafO = sTreeLeafO ∧
  (sTreeLeafN = sTreeLeafN ∧
  ([(fun (i226 : Nat) => (SC.int (sTreeLeafg0 i226))), (fun (i227 : Nat) => (SC.int (sTreeLeafg1 i227)))] = [(fun (i228 : Nat) => (SC.int (tLeafg0220 i228))), (fun (i229 : Nat) => (SC.int (tLeafg1221 i229)))] ∧
  ((capC sTreeMidN) ∧
  (capC sTreeLeafN)))))))) ∧
  (∀ ro0230 : (Option Addr),
  (∀ rc0231 : Nat,
  (∀ ro1232 : (Option Addr),
  (∀ rc1233 : Nat,
  (True ∧
  ((b217 = b217 ∧
  ((sDataO = sDataO ∧
  sDataN = sDataN) ∧
  ((∀ i234 : Nat,
  Bool.true = Bool.true) ∧
  (apC 0 sDataN 8)))) ∧
  (∀ ao235 : (Option Addr),
  (∀ cap236 : Nat,
  (True ∧
  ((b179 = b179 ∧
  ((sTagsO = sTagsO ∧
  sTagsN = sTagsN) ∧
  ((∀ i237 : Nat,
  Bool.true = Bool.true) ∧
  (apC 0 sTagsN 8)))) ∧
  (∀ ao238 : (Option Addr),
  (∀ cap239 : Nat,
  (True ∧
  (b1 = b1 ∧
  (True ∧
  (b1 = b1 ∧
  (Exists (fun (ro0240 : (Option Addr)) => (Exists (fun (rc0241 : Nat) => (Exists (fun (ro1242 : (Option Addr)) => (Exists (fun (rc1243 : Nat) => (Exists (fun (ro2244 : (Option Addr)) => (Exists (fun (rc2245 : Nat) => (Exists (fun (ro3246 : (Option Addr)) => (Exists (fun (rc3247 : Nat) => ((Value.agg (List.toArray [(Value.int IntKind.i64 sKey), (Value.int IntKind.i64 sTreeRoot), (Value.slice ro0230 sTreeMidN rc0231), (Value.slice ro1232 sTreeLeafN rc1233), (Value.slice ao235 sDataN cap236), (Value.slice ao238 sTagsN cap239)])) = (Value.agg (List.toArray [(Value.int IntKind.i64 sKey), (Value.int IntKind.i64 sTreeRoot), (Value.slice ro0240 sTreeMidN rc0241), (Value.slice ro1242 sTreeLeafN rc1243), (Value.slice ro2244 sDataN rc2245), (Value.slice ro3246 sTagsN rc3247)])) ∧
  (((Bool.true = Bool.true ∧
  (ro0230 = ro0240 ∧
  (37 = 37 ∧
  (2 = 2 ∧
  (sTreeMidN = sTreeMidN ∧
  (rc0231 = rc0241 ∧
  ((∀ i248 : Nat,
  (i248 < sTreeMidN →
  (Value.int IntKind.i64 (tMidg0218 i248)) = (Value.int IntKind.i64 (sTreeMidg0 i248)))) ∧
  ((∀ i249 : Nat,
  (i249 < sTreeMidN →
  (Value.int IntKind.i64 (tMidg1219 i249)) = (Value.int IntKind.i64 (sTreeMidg1 i249)))) ∧
  True)))))))) ∧
  ((Bool.true = Bool.true ∧
  (ro1232 = ro1242 ∧
  (37 = 37 ∧
  (2 = 2 ∧
  (sTreeLeafN = sTreeLeafN ∧
  (rc1233 = rc1243 ∧
  ((∀ i250 : Nat,
  (i250 < sTreeLeafN →
  (Value.int IntKind.i64 (tLeafg0220 i250)) = (Value.int IntKind.i64 (sTreeLeafg0 i250)))) ∧
  ((∀ i251 : Nat,
  (i251 < sTreeLeafN →
  (Value.int IntKind.i64 (tLeafg1221 i251)) = (Value.int IntKind.i64 (sTreeLeafg1 i251)))) ∧
  True)))))))) ∧
  ((Bool.true = Bool.true ∧
  (ao235 = ro2244 ∧
  (3 = 3 ∧
  (1 = 1 ∧
  (sDataN = sDataN ∧
  (cap236 = rc2245 ∧
  ((∀ i252 : Nat,
  (i252 < sDataN →
  (Value.int IntKind.i64 (sDatag0 i252)) = (Value.int IntKind.i64 (sDatag0 i252)))) ∧
  True))))))) ∧
  ((Bool.true = Bool.true ∧
  (ao238 = ro3246 ∧
  (3 = 3 ∧
  (1 = 1 ∧
  (sTagsN = sTagsN ∧
  (cap239 = rc3247 ∧
  ((∀ i253 : Nat,
  (i253 < sTagsN →
  (Value.int IntKind.i64 (sTagsg0 i253)) = (Value.int IntKind.i64 (sTagsg0 i253)))) ∧
  True))))))) ∧
  True)))) ∧
  Bool.true = Bool.true))))))))))))))))))))))))))))))))))))))))))))))))))))))))) := by kernel_rfl
theorem copySS_any (sKey : Int) (sTreeRoot : Int) (sTreeMidO : Option Addr) (sTreeMidN sTreeMidC : Nat) (sTreeMidg0 sTreeMidg1 : Nat → Int) (sTreeLeafO : Option Addr) (sTreeLeafN sTreeLeafC : Nat) (sTreeLeafg0 sTreeLeafg1 : Nat → Int) (sDataO : Option Addr) (sDataN sDataC : Nat) (sDatag0 : Nat → Int) (sTagsO : Option Addr) (sTagsN sTagsC : Nat) (sTagsg0 : Nat → Int) (w : World) (hrsTreeMid : Row.sat w ⟨false, sTreeMidO, 0, 2, sTreeMidN, 0, [fun i => .int (sTreeMidg0 i), fun i => .int (sTreeMidg1 i)]⟩) (hrsTreeLeaf : Row.sat w ⟨false, sTreeLeafO, 0, 2, sTreeLeafN, 0, [fun i => .int (sTreeLeafg0 i), fun i => .int (sTreeLeafg1 i)]⟩) (hrsData : Row.sat w ⟨false, sDataO, 0, 1, sDataN, 0, [fun i => .int (sDatag0 i)]⟩) (hrsTags : Row.sat w ⟨false, sTagsO, 0, 1, sTagsN, 0, [fun i => .int (sTagsg0 i)]⟩) (hpre : capC sTreeMidN ∧ capC sTreeLeafN ∧ capC sDataN ∧ capC sTagsN) : Calls Try.prog 48 #[.agg #[.int .i64 sKey, .int .i64 sTreeRoot, .slice sTreeMidO sTreeMidN sTreeMidC, .slice sTreeLeafO sTreeLeafN sTreeLeafC, .slice sDataO sDataN sDataC, .slice sTagsO sTagsN sTagsC]] w fun e w' => ∃ (ro0 : Option Addr) (rc0 : Nat) (ro1 : Option Addr) (rc1 : Nat) (ro2 : Option Addr) (rc2 : Nat) (ro3 : Option Addr) (rc3 : Nat), e = .returned (.agg #[.int .i64 (sKey), .int .i64 (sTreeRoot), .slice ro0 (sTreeMidN) rc0, .slice ro1 (sTreeLeafN) rc1, .slice ro2 (sDataN) rc2, .slice ro3 (sTagsN) rc3]) ∧ HS ⟨w, fun _ => False⟩ [.row ⟨true, ro0, 37, 2, sTreeMidN, rc0, [fun i => .int (sTreeMidg0 i), fun i => .int (sTreeMidg1 i)]⟩, .row ⟨true, ro1, 37, 2, sTreeLeafN, rc1, [fun i => .int (sTreeLeafg0 i), fun i => .int (sTreeLeafg1 i)]⟩, .row ⟨true, ro2, 3, 1, sDataN, rc2, [fun i => .int (sDatag0 i)]⟩, .row ⟨true, ro3, 3, 1, sTagsN, rc3, [fun i => .int (sTagsg0 i)]⟩] w' := by
  refine fnB (tb := [(37, sCopyT)]) ⟨sCopyT_ok_copyS, trivial⟩ Try.func48 (@Eq.mpr _ _ (copySS_T sKey sTreeRoot sTreeMidO sTreeMidN sTreeMidC sTreeMidg0 sTreeMidg1 sTreeLeafO sTreeLeafN sTreeLeafC sTreeLeafg0 sTreeLeafg1 sDataO sDataN sDataC sDatag0 sTagsO sTagsN sTagsC sTagsg0) ?_) (HS.rows (fun _ => False) [⟨false, sTreeMidO, 0, 2, sTreeMidN, 0, [fun i => .int (sTreeMidg0 i), fun i => .int (sTreeMidg1 i)]⟩, ⟨false, sTreeLeafO, 0, 2, sTreeLeafN, 0, [fun i => .int (sTreeLeafg0 i), fun i => .int (sTreeLeafg1 i)]⟩, ⟨false, sDataO, 0, 1, sDataN, 0, [fun i => .int (sDatag0 i)]⟩, ⟨false, sTagsO, 0, 1, sTagsN, 0, [fun i => .int (sTagsg0 i)]⟩] (by simp; exact ⟨hrsTreeMid, hrsTreeLeaf, hrsData, hrsTags⟩)) (fun v ch' w' ⟨ro0, rc0, ro1, rc1, ro2, rc2, ro3, rc3, hk⟩ hs => ⟨ro0, rc0, ro1, rc1, ro2, rc2, ro3, rc3, by rw [hk.1], hk.hs hs⟩)
  clear hrsTreeMid hrsTreeLeaf hrsData hrsTags
  repeat' (first
    | exact rfl
    | exact True.intro
    | refine And.intro ?_ ?_
    | apply Exists.intro
    | assumption
    | omega
    | intro _)
def sCopyS : Sm := fun args ch kk =>
  match args with
  | [.a (.agg [c0, c1, .sl i0 a0 n0 d0, .sl i1 a1 n1 d1, .sl i2 a2 n2 d2, .sl i3 a3 n3 d3])] =>
    match ch[i0]?, ch[i1]?, ch[i2]?, ch[i3]?, ints [c0, c1] with
    | some (.row r0), some (.row r1), some (.row r2), some (.row r3), some [sKey, sTreeRoot] => ∃ sTreeMidg0 sTreeMidg1 sTreeLeafg0 sTreeLeafg1 sDatag0 sTagsg0 : Nat → Int, (a0 = r0.ao ∧ n0 = r0.n ∧ r0.fld = [fun i => .int (sTreeMidg0 i), fun i => .int (sTreeMidg1 i)] ∧ a1 = r1.ao ∧ n1 = r1.n ∧ r1.fld = [fun i => .int (sTreeLeafg0 i), fun i => .int (sTreeLeafg1 i)] ∧ a2 = r2.ao ∧ n2 = r2.n ∧ r2.fld = [fun i => .int (sDatag0 i)] ∧ a3 = r3.ao ∧ n3 = r3.n ∧ r3.fld = [fun i => .int (sTagsg0 i)] ∧ capC n0 ∧ capC n1 ∧ capC n2 ∧ capC n3) ∧ ∀ (ro0 : Option Addr) (rc0 : Nat), ∀ (ro1 : Option Addr) (rc1 : Nat), ∀ (ro2 : Option Addr) (rc2 : Nat), ∀ (ro3 : Option Addr) (rc3 : Nat), kk (.a (.agg [.int (sKey), .int (sTreeRoot), .sl (ch.length) ro0 (n0) rc0, .sl (ch.length + 1) ro1 (n1) rc1, .sl (ch.length + 2) ro2 (n2) rc2, .sl (ch.length + 3) ro3 (n3) rc3])) (ch ++ [.row ⟨true, ro0, 37, 2, n0, rc0, [fun i => .int (sTreeMidg0 i), fun i => .int (sTreeMidg1 i)]⟩, .row ⟨true, ro1, 37, 2, n1, rc1, [fun i => .int (sTreeLeafg0 i), fun i => .int (sTreeLeafg1 i)]⟩, .row ⟨true, ro2, 3, 1, n2, rc2, [fun i => .int (sDatag0 i)]⟩, .row ⟨true, ro3, 3, 1, n3, rc3, [fun i => .int (sTagsg0 i)]⟩]) []
    | _, _, _, _, _ => False
  | _ => False
theorem sCopyS_ok {f : FuncId} (hc : ∀ args w, (callFunc f args).run Try.prog w = .ok (.enter f args) w) (h : ∀ (sKey : Int) (sTreeRoot : Int) (sTreeMidO : Option Addr) (sTreeMidN sTreeMidC : Nat) (sTreeMidg0 sTreeMidg1 : Nat → Int) (sTreeLeafO : Option Addr) (sTreeLeafN sTreeLeafC : Nat) (sTreeLeafg0 sTreeLeafg1 : Nat → Int) (sDataO : Option Addr) (sDataN sDataC : Nat) (sDatag0 : Nat → Int) (sTagsO : Option Addr) (sTagsN sTagsC : Nat) (sTagsg0 : Nat → Int) (w : World), Row.sat w ⟨false, sTreeMidO, 0, 2, sTreeMidN, 0, [fun i => .int (sTreeMidg0 i), fun i => .int (sTreeMidg1 i)]⟩ → Row.sat w ⟨false, sTreeLeafO, 0, 2, sTreeLeafN, 0, [fun i => .int (sTreeLeafg0 i), fun i => .int (sTreeLeafg1 i)]⟩ → Row.sat w ⟨false, sDataO, 0, 1, sDataN, 0, [fun i => .int (sDatag0 i)]⟩ → Row.sat w ⟨false, sTagsO, 0, 1, sTagsN, 0, [fun i => .int (sTagsg0 i)]⟩ → capC sTreeMidN ∧ capC sTreeLeafN ∧ capC sDataN ∧ capC sTagsN → Calls Try.prog f #[.agg #[.int .i64 sKey, .int .i64 sTreeRoot, .slice sTreeMidO sTreeMidN sTreeMidC, .slice sTreeLeafO sTreeLeafN sTreeLeafC, .slice sDataO sDataN sDataC, .slice sTagsO sTagsN sTagsC]] w fun e w' => ∃ (ro0 : Option Addr) (rc0 : Nat) (ro1 : Option Addr) (rc1 : Nat) (ro2 : Option Addr) (rc2 : Nat) (ro3 : Option Addr) (rc3 : Nat), e = .returned (.agg #[.int .i64 (sKey), .int .i64 (sTreeRoot), .slice ro0 (sTreeMidN) rc0, .slice ro1 (sTreeLeafN) rc1, .slice ro2 (sDataN) rc2, .slice ro3 (sTagsN) rc3]) ∧ HS ⟨w, fun _ => False⟩ [.row ⟨true, ro0, 37, 2, sTreeMidN, rc0, [fun i => .int (sTreeMidg0 i), fun i => .int (sTreeMidg1 i)]⟩, .row ⟨true, ro1, 37, 2, sTreeLeafN, rc1, [fun i => .int (sTreeLeafg0 i), fun i => .int (sTreeLeafg1 i)]⟩, .row ⟨true, ro2, 3, 1, sDataN, rc2, [fun i => .int (sDatag0 i)]⟩, .row ⟨true, ro3, 3, 1, sTagsN, rc3, [fun i => .int (sTagsg0 i)]⟩] w') : SmOK Try.prog f sCopyS := by
  refine smN hc fun args ch kk w X h0 hs => ?_
  unfold sCopyS at h0
  split at h0
  · rename_i c0 c1 i0 a0 n0 d0 i1 a1 n1 d1 i2 a2 n2 d2 i3 a3 n3 d3
    split at h0
    · rename_i r0 r1 r2 r3 sKey sTreeRoot hr0 hr1 hr2 hr3 hi
      obtain ⟨sTreeMidg0, sTreeMidg1, sTreeLeafg0, sTreeLeafg1, sDatag0, sTagsg0, ⟨rfl, rfl, hf0, rfl, rfl, hf1, rfl, rfl, hf2, rfl, rfl, hf3, hpre⟩, h0⟩ := h0
      obtain ⟨ec0, hi⟩ := ints_cons hi
      obtain ⟨ec1, hi⟩ := ints_cons hi
      refine Calls.mono (?_ : Calls Try.prog f _ w (fun e w' => ∃ (ro0 : Option Addr) (rc0 : Nat) (ro1 : Option Addr) (rc1 : Nat) (ro2 : Option Addr) (rc2 : Nat) (ro3 : Option Addr) (rc3 : Nat), e = .returned (.agg #[.int .i64 (sKey), .int .i64 (sTreeRoot), .slice ro0 (r0.n) rc0, .slice ro1 (r1.n) rc1, .slice ro2 (r2.n) rc2, .slice ro3 (r3.n) rc3]) ∧ HS ⟨w, fun _ => False⟩ [.row ⟨true, ro0, 37, 2, r0.n, rc0, [fun i => .int (sTreeMidg0 i), fun i => .int (sTreeMidg1 i)]⟩, .row ⟨true, ro1, 37, 2, r1.n, rc1, [fun i => .int (sTreeLeafg0 i), fun i => .int (sTreeLeafg1 i)]⟩, .row ⟨true, ro2, 3, 1, r2.n, rc2, [fun i => .int (sDatag0 i)]⟩, .row ⟨true, ro3, 3, 1, r3.n, rc3, [fun i => .int (sTagsg0 i)]⟩] w')) (fun e w' ⟨ro0, rc0, ro1, rc1, ro2, rc2, ro3, rc3, he, hs'⟩ => ⟨_, _, ?_, hs', rfl, h0 ro0 rc0 ro1 rc1 ro2 rc2 ro3 rc3⟩)
      · simp only [List.map_cons, List.map_nil, den_a, den_c, SA.den, den_sl, ec0, ec1]
        exact h sKey sTreeRoot r0.ao r0.n d0 sTreeMidg0 sTreeMidg1 r1.ao r1.n d1 sTreeLeafg0 sTreeLeafg1 r2.ao r2.n d2 sDatag0 r3.ao r3.n d3 sTagsg0 w (Row.seenAs (hs.sat i0 _ hr0) hf0 rfl) (Row.seenAs (hs.sat i1 _ hr1) hf1 rfl) (Row.seenAs (hs.sat i2 _ hr2) hf2 rfl) (Row.seenAs (hs.sat i3 _ hr3) hf3 rfl) hpre
      · rw [he]
        rfl
    · exact h0.elim
  · exact h0.elim
theorem sCopyS_ok_copySI : SmOK Try.prog 43 sCopyS := sCopyS_ok Try.call43 (fun sKey sTreeRoot sTreeMidO sTreeMidN sTreeMidC sTreeMidg0 sTreeMidg1 sTreeLeafO sTreeLeafN sTreeLeafC sTreeLeafg0 sTreeLeafg1 sDataO sDataN sDataC sDatag0 sTagsO sTagsN sTagsC sTagsg0 w h0 h1 h2 h3 hp => copySI_any sKey sTreeRoot sTreeMidO sTreeMidN sTreeMidC sTreeMidg0 sTreeMidg1 sTreeLeafO sTreeLeafN sTreeLeafC sTreeLeafg0 sTreeLeafg1 sDataO sDataN sDataC sDatag0 sTagsO sTagsN sTagsC sTagsg0 w h0 h1 h2 h3 hp)
theorem sCopyS_ok_copySS : SmOK Try.prog 48 sCopyS := sCopyS_ok Try.call48 (fun sKey sTreeRoot sTreeMidO sTreeMidN sTreeMidC sTreeMidg0 sTreeMidg1 sTreeLeafO sTreeLeafN sTreeLeafC sTreeLeafg0 sTreeLeafg1 sDataO sDataN sDataC sDatag0 sTagsO sTagsN sTagsC sTagsg0 w h0 h1 h2 h3 hp => copySS_any sKey sTreeRoot sTreeMidO sTreeMidN sTreeMidC sTreeMidg0 sTreeMidg1 sTreeLeafO sTreeLeafN sTreeLeafC sTreeLeafg0 sTreeLeafg1 sDataO sDataN sDataC sDatag0 sTagsO sTagsN sTagsC sTagsg0 w h0 h1 h2 h3 hp)
def fitsB (n m : Nat) : Bool := ((n : Int) == 8) && ((m : Int) == 8)
theorem fitsI_T (sKey : Int) (sTreeRoot : Int) (sTreeMidO : Option Addr) (sTreeMidN sTreeMidC : Nat) (sTreeMidg0 sTreeMidg1 : Nat → Int) (sTreeLeafO : Option Addr) (sTreeLeafN sTreeLeafC : Nat) (sTreeLeafg0 sTreeLeafg1 : Nat → Int) (sDataO : Option Addr) (sDataN sDataC : Nat) (sDatag0 : Nat → Int) (sTagsO : Option Addr) (sTagsN sTagsC : Nat) (sTagsg0 : Nat → Int) : (exFn Try.prog {tb := []} 400 Try.f45 ([.a (.agg [.int sKey, .int sTreeRoot, .sl 0 sTreeMidO sTreeMidN sTreeMidC, .sl 1 sTreeLeafO sTreeLeafN sTreeLeafC, .sl 2 sDataO sDataN sDataC, .sl 3 sTagsO sTagsN sTagsC])]) ([.row ⟨false, sTreeMidO, 0, 2, sTreeMidN, 0, [fun i => .int (sTreeMidg0 i), fun i => .int (sTreeMidg1 i)]⟩, .row ⟨false, sTreeLeafO, 0, 2, sTreeLeafN, 0, [fun i => .int (sTreeLeafg0 i), fun i => .int (sTreeLeafg1 i)]⟩, .row ⟨false, sDataO, 0, 1, sDataN, 0, [fun i => .int (sDatag0 i)]⟩, .row ⟨false, sTagsO, 0, 1, sTagsN, 0, [fun i => .int (sTagsg0 i)]⟩]) (fun v _ => v.den = .bool (fitsB sDataN sTagsN))) = (
  (∀ b0 : Nat,
  (b0 = b0 ∧
  (((((sDataN : Nat) : Int) == (8 : Int)) = Bool.true →
  (b0 = b0 ∧
   (Value.bool (((sTagsN : Nat) : Int) == (8 : Int))) = (Value.bool (fitsB sDataN sTagsN)))) ∧
  ((((sDataN : Nat) : Int) == (8 : Int)) = Bool.false →
  (Value.bool Bool.false) = (Value.bool (fitsB sDataN sTagsN))))))) := by kernel_rfl
theorem fitsI_any (sKey : Int) (sTreeRoot : Int) (sTreeMidO : Option Addr) (sTreeMidN sTreeMidC : Nat) (sTreeMidg0 sTreeMidg1 : Nat → Int) (sTreeLeafO : Option Addr) (sTreeLeafN sTreeLeafC : Nat) (sTreeLeafg0 sTreeLeafg1 : Nat → Int) (sDataO : Option Addr) (sDataN sDataC : Nat) (sDatag0 : Nat → Int) (sTagsO : Option Addr) (sTagsN sTagsC : Nat) (sTagsg0 : Nat → Int) (w : World) (hrsTreeMid : Row.sat w ⟨false, sTreeMidO, 0, 2, sTreeMidN, 0, [fun i => .int (sTreeMidg0 i), fun i => .int (sTreeMidg1 i)]⟩) (hrsTreeLeaf : Row.sat w ⟨false, sTreeLeafO, 0, 2, sTreeLeafN, 0, [fun i => .int (sTreeLeafg0 i), fun i => .int (sTreeLeafg1 i)]⟩) (hrsData : Row.sat w ⟨false, sDataO, 0, 1, sDataN, 0, [fun i => .int (sDatag0 i)]⟩) (hrsTags : Row.sat w ⟨false, sTagsO, 0, 1, sTagsN, 0, [fun i => .int (sTagsg0 i)]⟩) : Calls Try.prog 45 #[.agg #[.int .i64 sKey, .int .i64 sTreeRoot, .slice sTreeMidO sTreeMidN sTreeMidC, .slice sTreeLeafO sTreeLeafN sTreeLeafC, .slice sDataO sDataN sDataC, .slice sTagsO sTagsN sTagsC]] w fun e w' => e = .returned (.bool (fitsB sDataN sTagsN)) ∧ Below w.heap.size w w' := by
  refine fnB (tb := []) trivial Try.func45 (@Eq.mpr _ _ (fitsI_T sKey sTreeRoot sTreeMidO sTreeMidN sTreeMidC sTreeMidg0 sTreeMidg1 sTreeLeafO sTreeLeafN sTreeLeafC sTreeLeafg0 sTreeLeafg1 sDataO sDataN sDataC sDatag0 sTagsO sTagsN sTagsC sTagsg0) ?_) (HS.rows (fun _ => False) [⟨false, sTreeMidO, 0, 2, sTreeMidN, 0, [fun i => .int (sTreeMidg0 i), fun i => .int (sTreeMidg1 i)]⟩, ⟨false, sTreeLeafO, 0, 2, sTreeLeafN, 0, [fun i => .int (sTreeLeafg0 i), fun i => .int (sTreeLeafg1 i)]⟩, ⟨false, sDataO, 0, 1, sDataN, 0, [fun i => .int (sDatag0 i)]⟩, ⟨false, sTagsO, 0, 1, sTagsN, 0, [fun i => .int (sTagsg0 i)]⟩] (by simp; exact ⟨hrsTreeMid, hrsTreeLeaf, hrsData, hrsTags⟩)) (fun v ch' w' hk hs => ⟨by rw [hk], hs.below⟩)
  clear hrsTreeMid hrsTreeLeaf hrsData hrsTags
  simp only [fitsB]
  repeat' (first
    | with_reducible exact rfl
    | exact True.intro
    | assumption
    | refine And.intro ?_ ?_
    | apply Exists.intro
    | (intro h; exfalso; simp  at h; done)
    | (intro h; exfalso; simp  at h; omega)
    | intro _
    | omega
    | (simp; omega))
  all_goals simp_all
theorem fitsS_T (sKey : Int) (sTreeRoot : Int) (sTreeMidO : Option Addr) (sTreeMidN sTreeMidC : Nat) (sTreeMidg0 sTreeMidg1 : Nat → Int) (sTreeLeafO : Option Addr) (sTreeLeafN sTreeLeafC : Nat) (sTreeLeafg0 sTreeLeafg1 : Nat → Int) (sDataO : Option Addr) (sDataN sDataC : Nat) (sDatag0 : Nat → Int) (sTagsO : Option Addr) (sTagsN sTagsC : Nat) (sTagsg0 : Nat → Int) : (exFn Try.prog {tb := []} 400 Try.f49 ([.a (.agg [.int sKey, .int sTreeRoot, .sl 0 sTreeMidO sTreeMidN sTreeMidC, .sl 1 sTreeLeafO sTreeLeafN sTreeLeafC, .sl 2 sDataO sDataN sDataC, .sl 3 sTagsO sTagsN sTagsC])]) ([.row ⟨false, sTreeMidO, 0, 2, sTreeMidN, 0, [fun i => .int (sTreeMidg0 i), fun i => .int (sTreeMidg1 i)]⟩, .row ⟨false, sTreeLeafO, 0, 2, sTreeLeafN, 0, [fun i => .int (sTreeLeafg0 i), fun i => .int (sTreeLeafg1 i)]⟩, .row ⟨false, sDataO, 0, 1, sDataN, 0, [fun i => .int (sDatag0 i)]⟩, .row ⟨false, sTagsO, 0, 1, sTagsN, 0, [fun i => .int (sTagsg0 i)]⟩]) (fun v _ => v.den = .bool (fitsB sDataN sTagsN))) = (
  (∀ b0 : Nat,
  (b0 = b0 ∧
  (((((sDataN : Nat) : Int) == (8 : Int)) = Bool.true →
  (b0 = b0 ∧
   (Value.bool (((sTagsN : Nat) : Int) == (8 : Int))) = (Value.bool (fitsB sDataN sTagsN)))) ∧
  ((((sDataN : Nat) : Int) == (8 : Int)) = Bool.false →
  (Value.bool Bool.false) = (Value.bool (fitsB sDataN sTagsN))))))) := by kernel_rfl
theorem fitsS_any (sKey : Int) (sTreeRoot : Int) (sTreeMidO : Option Addr) (sTreeMidN sTreeMidC : Nat) (sTreeMidg0 sTreeMidg1 : Nat → Int) (sTreeLeafO : Option Addr) (sTreeLeafN sTreeLeafC : Nat) (sTreeLeafg0 sTreeLeafg1 : Nat → Int) (sDataO : Option Addr) (sDataN sDataC : Nat) (sDatag0 : Nat → Int) (sTagsO : Option Addr) (sTagsN sTagsC : Nat) (sTagsg0 : Nat → Int) (w : World) (hrsTreeMid : Row.sat w ⟨false, sTreeMidO, 0, 2, sTreeMidN, 0, [fun i => .int (sTreeMidg0 i), fun i => .int (sTreeMidg1 i)]⟩) (hrsTreeLeaf : Row.sat w ⟨false, sTreeLeafO, 0, 2, sTreeLeafN, 0, [fun i => .int (sTreeLeafg0 i), fun i => .int (sTreeLeafg1 i)]⟩) (hrsData : Row.sat w ⟨false, sDataO, 0, 1, sDataN, 0, [fun i => .int (sDatag0 i)]⟩) (hrsTags : Row.sat w ⟨false, sTagsO, 0, 1, sTagsN, 0, [fun i => .int (sTagsg0 i)]⟩) : Calls Try.prog 49 #[.agg #[.int .i64 sKey, .int .i64 sTreeRoot, .slice sTreeMidO sTreeMidN sTreeMidC, .slice sTreeLeafO sTreeLeafN sTreeLeafC, .slice sDataO sDataN sDataC, .slice sTagsO sTagsN sTagsC]] w fun e w' => e = .returned (.bool (fitsB sDataN sTagsN)) ∧ Below w.heap.size w w' := by
  refine fnB (tb := []) trivial Try.func49 (@Eq.mpr _ _ (fitsS_T sKey sTreeRoot sTreeMidO sTreeMidN sTreeMidC sTreeMidg0 sTreeMidg1 sTreeLeafO sTreeLeafN sTreeLeafC sTreeLeafg0 sTreeLeafg1 sDataO sDataN sDataC sDatag0 sTagsO sTagsN sTagsC sTagsg0) ?_) (HS.rows (fun _ => False) [⟨false, sTreeMidO, 0, 2, sTreeMidN, 0, [fun i => .int (sTreeMidg0 i), fun i => .int (sTreeMidg1 i)]⟩, ⟨false, sTreeLeafO, 0, 2, sTreeLeafN, 0, [fun i => .int (sTreeLeafg0 i), fun i => .int (sTreeLeafg1 i)]⟩, ⟨false, sDataO, 0, 1, sDataN, 0, [fun i => .int (sDatag0 i)]⟩, ⟨false, sTagsO, 0, 1, sTagsN, 0, [fun i => .int (sTagsg0 i)]⟩] (by simp; exact ⟨hrsTreeMid, hrsTreeLeaf, hrsData, hrsTags⟩)) (fun v ch' w' hk hs => ⟨by rw [hk], hs.below⟩)
  clear hrsTreeMid hrsTreeLeaf hrsData hrsTags
  simp only [fitsB]
  repeat' (first
    | with_reducible exact rfl
    | exact True.intro
    | assumption
    | refine And.intro ?_ ?_
    | apply Exists.intro
    | (intro h; exfalso; simp  at h; done)
    | (intro h; exfalso; simp  at h; omega)
    | intro _
    | omega
    | (simp; omega))
  all_goals simp_all
def sFits : Sm := fun args ch kk =>
  match args with
  | [.a (.agg [c0, c1, .sl i0 a0 n0 d0, .sl i1 a1 n1 d1, .sl i2 a2 n2 d2, .sl i3 a3 n3 d3])] =>
    match ch[i0]?, ch[i1]?, ch[i2]?, ch[i3]?, ints [c0, c1] with
    | some (.row r0), some (.row r1), some (.row r2), some (.row r3), some [sKey, sTreeRoot] => ∃ sTreeMidg0 sTreeMidg1 sTreeLeafg0 sTreeLeafg1 sDatag0 sTagsg0 : Nat → Int, (a0 = r0.ao ∧ n0 = r0.n ∧ r0.fld = [fun i => .int (sTreeMidg0 i), fun i => .int (sTreeMidg1 i)] ∧ a1 = r1.ao ∧ n1 = r1.n ∧ r1.fld = [fun i => .int (sTreeLeafg0 i), fun i => .int (sTreeLeafg1 i)] ∧ a2 = r2.ao ∧ n2 = r2.n ∧ r2.fld = [fun i => .int (sDatag0 i)] ∧ a3 = r3.ao ∧ n3 = r3.n ∧ r3.fld = [fun i => .int (sTagsg0 i)]) ∧ kk (.a (.c (.bool (fitsB n2 n3)))) ch []
    | _, _, _, _, _ => False
  | _ => False
theorem sFits_ok {f : FuncId} (hc : ∀ args w, (callFunc f args).run Try.prog w = .ok (.enter f args) w) (h : ∀ (sKey : Int) (sTreeRoot : Int) (sTreeMidO : Option Addr) (sTreeMidN sTreeMidC : Nat) (sTreeMidg0 sTreeMidg1 : Nat → Int) (sTreeLeafO : Option Addr) (sTreeLeafN sTreeLeafC : Nat) (sTreeLeafg0 sTreeLeafg1 : Nat → Int) (sDataO : Option Addr) (sDataN sDataC : Nat) (sDatag0 : Nat → Int) (sTagsO : Option Addr) (sTagsN sTagsC : Nat) (sTagsg0 : Nat → Int) (w : World), Row.sat w ⟨false, sTreeMidO, 0, 2, sTreeMidN, 0, [fun i => .int (sTreeMidg0 i), fun i => .int (sTreeMidg1 i)]⟩ → Row.sat w ⟨false, sTreeLeafO, 0, 2, sTreeLeafN, 0, [fun i => .int (sTreeLeafg0 i), fun i => .int (sTreeLeafg1 i)]⟩ → Row.sat w ⟨false, sDataO, 0, 1, sDataN, 0, [fun i => .int (sDatag0 i)]⟩ → Row.sat w ⟨false, sTagsO, 0, 1, sTagsN, 0, [fun i => .int (sTagsg0 i)]⟩ → Calls Try.prog f #[.agg #[.int .i64 sKey, .int .i64 sTreeRoot, .slice sTreeMidO sTreeMidN sTreeMidC, .slice sTreeLeafO sTreeLeafN sTreeLeafC, .slice sDataO sDataN sDataC, .slice sTagsO sTagsN sTagsC]] w fun e w' => e = .returned (.bool (fitsB sDataN sTagsN)) ∧ Below w.heap.size w w') : SmOK Try.prog f sFits := by
  refine smB hc fun args ch kk w X h0 hs => ?_
  unfold sFits at h0
  split at h0
  · rename_i c0 c1 i0 a0 n0 d0 i1 a1 n1 d1 i2 a2 n2 d2 i3 a3 n3 d3
    split at h0
    · rename_i r0 r1 r2 r3 sKey sTreeRoot hr0 hr1 hr2 hr3 hi
      obtain ⟨sTreeMidg0, sTreeMidg1, sTreeLeafg0, sTreeLeafg1, sDatag0, sTagsg0, ⟨rfl, rfl, hf0, rfl, rfl, hf1, rfl, rfl, hf2, rfl, rfl, hf3⟩, h0⟩ := h0
      obtain ⟨ec0, hi⟩ := ints_cons hi
      obtain ⟨ec1, hi⟩ := ints_cons hi
      refine ⟨_, h0, ?_⟩
      simp only [List.map_cons, List.map_nil, den_a, den_c, SA.den, den_sl, ec0, ec1]
      exact h sKey sTreeRoot r0.ao r0.n d0 sTreeMidg0 sTreeMidg1 r1.ao r1.n d1 sTreeLeafg0 sTreeLeafg1 r2.ao r2.n d2 sDatag0 r3.ao r3.n d3 sTagsg0 w (Row.seenAs (hs.sat i0 _ hr0) hf0 rfl) (Row.seenAs (hs.sat i1 _ hr1) hf1 rfl) (Row.seenAs (hs.sat i2 _ hr2) hf2 rfl) (Row.seenAs (hs.sat i3 _ hr3) hf3 rfl)
    · exact h0.elim
  · exact h0.elim
theorem sFits_ok_fitsI : SmOK Try.prog 45 sFits := sFits_ok Try.call45 (fun sKey sTreeRoot sTreeMidO sTreeMidN sTreeMidC sTreeMidg0 sTreeMidg1 sTreeLeafO sTreeLeafN sTreeLeafC sTreeLeafg0 sTreeLeafg1 sDataO sDataN sDataC sDatag0 sTagsO sTagsN sTagsC sTagsg0 w h0 h1 h2 h3 => fitsI_any sKey sTreeRoot sTreeMidO sTreeMidN sTreeMidC sTreeMidg0 sTreeMidg1 sTreeLeafO sTreeLeafN sTreeLeafC sTreeLeafg0 sTreeLeafg1 sDataO sDataN sDataC sDatag0 sTagsO sTagsN sTagsC sTagsg0 w h0 h1 h2 h3)
theorem sFits_ok_fitsS : SmOK Try.prog 49 sFits := sFits_ok Try.call49 (fun sKey sTreeRoot sTreeMidO sTreeMidN sTreeMidC sTreeMidg0 sTreeMidg1 sTreeLeafO sTreeLeafN sTreeLeafC sTreeLeafg0 sTreeLeafg1 sDataO sDataN sDataC sDatag0 sTagsO sTagsN sTagsC sTagsg0 w h0 h1 h2 h3 => fitsS_any sKey sTreeRoot sTreeMidO sTreeMidN sTreeMidC sTreeMidg0 sTreeMidg1 sTreeLeafO sTreeLeafN sTreeLeafC sTreeLeafg0 sTreeLeafg1 sDataO sDataN sDataC sDatag0 sTagsO sTagsN sTagsC sTagsg0 w h0 h1 h2 h3)
theorem fits_facts {n m : Nat} (h : fitsB n m = true) : n = 8 ∧ m = 8 := by
  simp only [fitsB, Bool.and_eq_true, beq_iff_eq] at h
  omega
def iPut : Sm := inlM Try.prog {tb := [(60, sSeal), (46, sTag)]} 300 Try.f52
theorem iPut_ok : SmOK Try.prog 52 iPut := inlM_ok mixed (E := {tb := [(60, sSeal), (46, sTag)]}) ⟨sSeal_impl, sTag_impl, trivial⟩ Try.func52 Try.call52 (fun _ _ _ => loopsOK_nil _ _ _)
def ifZ (b : Bool) (n : Int) : Int := if b = true then n else 0
def newDa (key : Int) (i : Nat) : Int := sealW key i 0 0
def newTa (key : Int) (i : Nat) : Int := tagW key i 0 (sealW key i 0 0)
theorem snewS_T (key : Int) : (exFn Try.prog {tb := [(15, sTNew), (50, sSeal), (51, sTag)]} 400 Try.f56 ([.a (.c (.int key))]) ([]) (fun v ch => ∃ (ro0 : Option Addr) (rc0 : Nat) (ro1 : Option Addr) (rc1 : Nat) (ro2 : Option Addr) (rc2 : Nat) (ro3 : Option Addr) (rc3 : Nat), OutR v ch (.tuple #[.agg #[.int .i64 (ifZ (isW key) key), .int .i64 (0), .slice ro0 (ifN (isW key) 2) rc0, .slice ro1 (ifN (isW key) 8) rc1, .slice ro2 (ifN (isW key) 8) rc2, .slice ro3 (ifN (isW key) 8) rc3], .bool (isW key)]) [.row ⟨true, ro0, 37, 2, ifN (isW key) 2, rc0, [fun i => .int (0), fun i => .int (newMT key i)]⟩, .row ⟨true, ro1, 37, 2, ifN (isW key) 8, rc1, [fun i => .int (0), fun i => .int (newLT key i)]⟩, .row ⟨true, ro2, 3, 1, ifN (isW key) 8, rc2, [fun i => .int (newDa key i)]⟩, .row ⟨true, ro3, 3, 1, ifN (isW key) 8, rc3, [fun i => .int (newTa key i)]⟩])) = (
  (∀ b0 : Nat,
  (∀ ro01 : (Option Addr),
  (∀ rc02 : Nat,
  (∀ ro13 : (Option Addr),
  (∀ rc14 : Nat,
  (∀ b5 : Nat,
  (b5 = b5 ∧
  (((!(isW key)) = Bool.true →
  (b0 = b0 ∧
   (b0 = b0 ∧
   (Exists (fun (ro06 : (Option Addr)) => (Exists (fun (rc07 : Nat) => (Exists (fun (ro18 : (Option Addr)) => (Exists (fun (rc19 : Nat) => (Exists (fun (ro210 : (Option Addr)) => (Exists (fun (rc211 : Nat) => (Exists (fun (ro312 : (Option Addr)) => (Exists (fun (rc313 : Nat) => ((Value.tuple (List.toArray [(Value.agg (List.toArray [(Value.int IntKind.i64 (0 : Int)), (Value.int IntKind.i64 (0 : Int)), (Value.slice Option.none 0 0), (Value.slice Option.none 0 0), (Value.slice Option.none 0 0), (Value.slice Option.none 0 0)])), (Value.bool Bool.false)])) = (Value.tuple (List.toArray [(Value.agg (List.toArray [(Value.int IntKind.i64 (ifZ (isW key) key)), (Value.int IntKind.i64 (0 : Int)), (Value.slice ro06 (ifN (isW key) 2) rc07), (Value.slice ro18 (ifN (isW key) 8) rc19), (Value.slice ro210 (ifN (isW key) 8) rc211), (Value.slice ro312 (ifN (isW key) 8) rc313)])), (Value.bool (isW key))])) ∧
   (((Bool.true = Bool.true ∧
   (Option.none = ro06 ∧
   (0 = (ifN (isW key) 2) ∧
   (0 = rc07 ∧
   Bool.true = Bool.true)))) ∧
   ((Bool.true = Bool.true ∧
   (Option.none = ro18 ∧
   (0 = (ifN (isW key) 8) ∧
   (0 = rc19 ∧
   Bool.true = Bool.true)))) ∧
   ((Bool.true = Bool.true ∧
   (Option.none = ro210 ∧
   (0 = (ifN (isW key) 8) ∧
   (0 = rc211 ∧
   Bool.true = Bool.true)))) ∧
   ((Bool.true = Bool.true ∧
   (Option.none = ro312 ∧
   (0 = (ifN (isW key) 8) ∧
   (0 = rc313 ∧
   Bool.true = Bool.true)))) ∧
   True)))) ∧
   Bool.true = Bool.true))))))))))))))))))))) ∧
  ((!(isW key)) = Bool.false →
  (b5 = b5 ∧
   ((∀ b14 : Nat,
   (True ∧
   ((∀ b15 : Nat,
   (True ∧
   (∀ b16 : Nat,
   (True ∧
   (b16 = b16 ∧
   (True ∧
   (b16 = b16 ∧
   (True ∧
   (b14 = b14 ∧
   (True ∧
   (b16 = b16 ∧
   (b16 = b16 ∧
   (b14 = b14 ∧
   (True ∧
   (b15 = b15 ∧
   (True ∧
   (b16 = b16 ∧
   (True ∧
   (b14 = b14 ∧
   (True ∧
   (b16 = b16 ∧
   (b16 = b16 ∧
   (b14 = b14 ∧
   (True ∧
   (b15 = b15 ∧
   (True ∧
   (b16 = b16 ∧
   (True ∧
   (b14 = b14 ∧
   (True ∧
   (b16 = b16 ∧
   (b16 = b16 ∧
   (b14 = b14 ∧
   (True ∧
   (b15 = b15 ∧
   (True ∧
   (b16 = b16 ∧
   (True ∧
   (b14 = b14 ∧
   (True ∧
   (b16 = b16 ∧
   (b16 = b16 ∧
   (b14 = b14 ∧
   (True ∧
   (b15 = b15 ∧
   (True ∧
   (b16 = b16 ∧
   (True ∧
   (b14 = b14 ∧
   (True ∧
   (b16 = b16 ∧
   (b16 = b16 ∧
   (b14 = b14 ∧
   (True ∧
   (b15 = b15 ∧
   (True ∧
   (b16 = b16 ∧
   (True ∧
   (b14 = b14 ∧
   (True ∧
   (b16 = b16 ∧
   (b16 = b16 ∧
   (b14 = b14 ∧
   (True ∧
   (b15 = b15 ∧
   (True ∧
   (b16 = b16 ∧
   (True ∧
   (b14 = b14 ∧
   (True ∧
   (b16 = b16 ∧
   (b16 = b16 ∧
   (b14 = b14 ∧
   (True ∧
   (b15 = b15 ∧
   (True ∧
   (b16 = b16 ∧
   (True ∧
   (b14 = b14 ∧
   (True ∧
   (b16 = b16 ∧
   (b16 = b16 ∧
   (b14 = b14 ∧
   (True ∧
   (b15 = b15 ∧
   (True ∧
   (b16 = b16 ∧
   (b0 = b0 ∧
   (b0 = b0 ∧
   (Exists (fun (ro017 : (Option Addr)) => (Exists (fun (rc018 : Nat) => (Exists (fun (ro119 : (Option Addr)) => (Exists (fun (rc120 : Nat) => (Exists (fun (ro221 : (Option Addr)) => (Exists (fun (rc222 : Nat) => (Exists (fun (ro323 : (Option Addr)) => (Exists (fun (rc324 : Nat) => ((Value.tuple (List.toArray [(Value.agg (List.toArray [(Value.int IntKind.i64 key), (Value.int IntKind.i64 (0 : Int)), (Value.slice ro01 (ifN (isW key) 2) rc02), (Value.slice ro13 (ifN (isW key) 8) rc14), (Value.slice (Option.some (Addr.mk b14 0 Option.none)) 8 8), (Value.slice (Option.some (Addr.mk b15 0 Option.none)) 8 8)])), (Value.bool Bool.true)])) = (Value.tuple (List.toArray [(Value.agg (List.toArray [(Value.int IntKind.i64 (ifZ (isW key) key)), (Value.int IntKind.i64 (0 : Int)), (Value.slice ro017 (ifN (isW key) 2) rc018), (Value.slice ro119 (ifN (isW key) 8) rc120), (Value.slice ro221 (ifN (isW key) 8) rc222), (Value.slice ro323 (ifN (isW key) 8) rc324)])), (Value.bool (isW key))])) ∧
   (((Bool.true = Bool.true ∧
   (ro01 = ro017 ∧
   (37 = 37 ∧
   (2 = 2 ∧
   ((ifN (isW key) 2) = (ifN (isW key) 2) ∧
   (rc02 = rc018 ∧
   ((∀ i25 : Nat,
   (i25 < (ifN (isW key) 2) →
   (Value.int IntKind.i64 (0 : Int)) = (Value.int IntKind.i64 (0 : Int)))) ∧
   ((∀ i26 : Nat,
   (i26 < (ifN (isW key) 2) →
   (Value.int IntKind.i64 (newMT key i26)) = (Value.int IntKind.i64 (newMT key i26)))) ∧
   True)))))))) ∧
   ((Bool.true = Bool.true ∧
   (ro13 = ro119 ∧
   (37 = 37 ∧
   (2 = 2 ∧
   ((ifN (isW key) 8) = (ifN (isW key) 8) ∧
   (rc14 = rc120 ∧
   ((∀ i27 : Nat,
   (i27 < (ifN (isW key) 8) →
   (Value.int IntKind.i64 (0 : Int)) = (Value.int IntKind.i64 (0 : Int)))) ∧
   ((∀ i28 : Nat,
   (i28 < (ifN (isW key) 8) →
   (Value.int IntKind.i64 (newLT key i28)) = (Value.int IntKind.i64 (newLT key i28)))) ∧
   True)))))))) ∧
   ((Bool.true = Bool.true ∧
   ((Option.some (Addr.mk b14 0 Option.none)) = ro221 ∧
   (3 = 3 ∧
   (Bool.true = Bool.true ∧
   ((Value.int IntKind.i64 (sealW key (0 : Int) (0 : Int) (0 : Int))) = (Value.int IntKind.i64 (newDa key 0)) ∧
   ((Value.int IntKind.i64 (sealW key (1 : Int) (0 : Int) (0 : Int))) = (Value.int IntKind.i64 (newDa key 1)) ∧
   ((Value.int IntKind.i64 (sealW key (2 : Int) (0 : Int) (0 : Int))) = (Value.int IntKind.i64 (newDa key 2)) ∧
   ((Value.int IntKind.i64 (sealW key (3 : Int) (0 : Int) (0 : Int))) = (Value.int IntKind.i64 (newDa key 3)) ∧
   ((Value.int IntKind.i64 (sealW key (4 : Int) (0 : Int) (0 : Int))) = (Value.int IntKind.i64 (newDa key 4)) ∧
   ((Value.int IntKind.i64 (sealW key (5 : Int) (0 : Int) (0 : Int))) = (Value.int IntKind.i64 (newDa key 5)) ∧
   ((Value.int IntKind.i64 (sealW key (6 : Int) (0 : Int) (0 : Int))) = (Value.int IntKind.i64 (newDa key 6)) ∧
   ((Value.int IntKind.i64 (sealW key (7 : Int) (0 : Int) (0 : Int))) = (Value.int IntKind.i64 (newDa key 7)) ∧
   (8 = (ifN (isW key) 8) ∧
   (8 = rc222 ∧
   Bool.true = Bool.true)))))))))))))) ∧
   ((Bool.true = Bool.true ∧
   ((Option.some (Addr.mk b15 0 Option.none)) = ro323 ∧
   (3 = 3 ∧
   (Bool.true = Bool.true ∧
   ((Value.int IntKind.i64 (tagW key (0 : Int) (0 : Int) (sealW key (0 : Int) (0 : Int) (0 : Int)))) = (Value.int IntKind.i64 (newTa key 0)) ∧
   ((Value.int IntKind.i64 (tagW key (1 : Int) (0 : Int) (sealW key (1 : Int) (0 : Int) (0 : Int)))) = (Value.int IntKind.i64 (newTa key 1)) ∧
   ((Value.int IntKind.i64 (tagW key (2 : Int) (0 : Int) (sealW key (2 : Int) (0 : Int) (0 : Int)))) = (Value.int IntKind.i64 (newTa key 2)) ∧
   ((Value.int IntKind.i64 (tagW key (3 : Int) (0 : Int) (sealW key (3 : Int) (0 : Int) (0 : Int)))) = (Value.int IntKind.i64 (newTa key 3)) ∧
   ((Value.int IntKind.i64 (tagW key (4 : Int) (0 : Int) (sealW key (4 : Int) (0 : Int) (0 : Int)))) = (Value.int IntKind.i64 (newTa key 4)) ∧
   ((Value.int IntKind.i64 (tagW key (5 : Int) (0 : Int) (sealW key (5 : Int) (0 : Int) (0 : Int)))) = (Value.int IntKind.i64 (newTa key 5)) ∧
   ((Value.int IntKind.i64 (tagW key (6 : Int) (0 : Int) (sealW key (6 : Int) (0 : Int) (0 : Int)))) = (Value.int IntKind.i64 (newTa key 6)) ∧
   ((Value.int IntKind.i64 (tagW key (7 : Int) (0 : Int) (sealW key (7 : Int) (0 : Int) (0 : Int)))) = (Value.int IntKind.i64 (newTa key 7)) ∧
   (8 = (ifN (isW key) 8) ∧
   (8 = rc324 ∧
   Bool.true = Bool.true)))))))))))))) ∧
   True)))) ∧
   Bool.true = Bool.true))))))))))))))))))))))))))))))))))))))))))))))))))))))))))))))))))))))))))))))))))))))))))))))))))))))))))) ∧
   (∀ b29 : Nat,
   (True ∧
   (∀ b30 : Nat,
   (True ∧
   (b29 = b29 ∧
   (True ∧
   (b29 = b29 ∧
   (True ∧
   (b14 = b14 ∧
   (True ∧
   (b29 = b29 ∧
   (b29 = b29 ∧
   (b14 = b14 ∧
   (True ∧
   (b30 = b30 ∧
   (True ∧
   (b29 = b29 ∧
   (True ∧
   (b14 = b14 ∧
   (True ∧
   (b29 = b29 ∧
   (b29 = b29 ∧
   (b14 = b14 ∧
   (True ∧
   (b30 = b30 ∧
   (True ∧
   (b29 = b29 ∧
   (True ∧
   (b14 = b14 ∧
   (True ∧
   (b29 = b29 ∧
   (b29 = b29 ∧
   (b14 = b14 ∧
   (True ∧
   (b30 = b30 ∧
   (True ∧
   (b29 = b29 ∧
   (True ∧
   (b14 = b14 ∧
   (True ∧
   (b29 = b29 ∧
   (b29 = b29 ∧
   (b14 = b14 ∧
   (True ∧
   (b30 = b30 ∧
   (True ∧
   (b29 = b29 ∧
   (True ∧
   (b14 = b14 ∧
   (True ∧
   (b29 = b29 ∧
   (b29 = b29 ∧
   (b14 = b14 ∧
   (True ∧
   (b30 = b30 ∧
   (True ∧
   (b29 = b29 ∧
   (True ∧
   (b14 = b14 ∧
   (True ∧
   (b29 = b29 ∧
   (b29 = b29 ∧
   (b14 = b14 ∧
   (True ∧
   (b30 = b30 ∧
   (True ∧
   (b29 = b29 ∧
   (True ∧
   (b14 = b14 ∧
   (True ∧
   (b29 = b29 ∧
   (b29 = b29 ∧
   (b14 = b14 ∧
   (True ∧
   (b30 = b30 ∧
   (True ∧
   (b29 = b29 ∧
   (True ∧
   (b14 = b14 ∧
   (True ∧
   (b29 = b29 ∧
   (b29 = b29 ∧
   (b14 = b14 ∧
   (True ∧
   (b30 = b30 ∧
   (True ∧
   (b29 = b29 ∧
   (b0 = b0 ∧
   (b0 = b0 ∧
   (Exists (fun (ro031 : (Option Addr)) => (Exists (fun (rc032 : Nat) => (Exists (fun (ro133 : (Option Addr)) => (Exists (fun (rc134 : Nat) => (Exists (fun (ro235 : (Option Addr)) => (Exists (fun (rc236 : Nat) => (Exists (fun (ro337 : (Option Addr)) => (Exists (fun (rc338 : Nat) => ((Value.tuple (List.toArray [(Value.agg (List.toArray [(Value.int IntKind.i64 key), (Value.int IntKind.i64 (0 : Int)), (Value.slice ro01 (ifN (isW key) 2) rc02), (Value.slice ro13 (ifN (isW key) 8) rc14), (Value.slice (Option.some (Addr.mk b14 0 Option.none)) 8 8), (Value.slice (Option.some (Addr.mk b30 0 Option.none)) 8 8)])), (Value.bool Bool.true)])) = (Value.tuple (List.toArray [(Value.agg (List.toArray [(Value.int IntKind.i64 (ifZ (isW key) key)), (Value.int IntKind.i64 (0 : Int)), (Value.slice ro031 (ifN (isW key) 2) rc032), (Value.slice ro133 (ifN (isW key) 8) rc134), (Value.slice ro235 (ifN (isW key) 8) rc236), (Value.slice ro337 (ifN (isW key) 8) rc338)])), (Value.bool (isW key))])) ∧
   (((Bool.true = Bool.true ∧
   (ro01 = ro031 ∧
   (37 = 37 ∧
   (2 = 2 ∧
   ((ifN (isW key) 2) = (ifN (isW key) 2) ∧
   (rc02 = rc032 ∧
   ((∀ i39 : Nat,
   (i39 < (ifN (isW key) 2) →
   (Value.int IntKind.i64 (0 : Int)) = (Value.int IntKind.i64 (0 : Int)))) ∧
   ((∀ i40 : Nat,
   (i40 < (ifN (isW key) 2) →
   (Value.int IntKind.i64 (newMT key i40)) = (Value.int IntKind.i64 (newMT key i40)))) ∧
   True)))))))) ∧
   ((Bool.true = Bool.true ∧
   (ro13 = ro133 ∧
   (37 = 37 ∧
   (2 = 2 ∧
   ((ifN (isW key) 8) = (ifN (isW key) 8) ∧
   (rc14 = rc134 ∧
   ((∀ i41 : Nat,
   (i41 < (ifN (isW key) 8) →
   (Value.int IntKind.i64 (0 : Int)) = (Value.int IntKind.i64 (0 : Int)))) ∧
   ((∀ i42 : Nat,
   (i42 < (ifN (isW key) 8) →
   (Value.int IntKind.i64 (newLT key i42)) = (Value.int IntKind.i64 (newLT key i42)))) ∧
   True)))))))) ∧
   ((Bool.true = Bool.true ∧
   ((Option.some (Addr.mk b14 0 Option.none)) = ro235 ∧
   (3 = 3 ∧
   (Bool.true = Bool.true ∧
   ((Value.int IntKind.i64 (sealW key (0 : Int) (0 : Int) (0 : Int))) = (Value.int IntKind.i64 (newDa key 0)) ∧
   ((Value.int IntKind.i64 (sealW key (1 : Int) (0 : Int) (0 : Int))) = (Value.int IntKind.i64 (newDa key 1)) ∧
   ((Value.int IntKind.i64 (sealW key (2 : Int) (0 : Int) (0 : Int))) = (Value.int IntKind.i64 (newDa key 2)) ∧
   ((Value.int IntKind.i64 (sealW key (3 : Int) (0 : Int) (0 : Int))) = (Value.int IntKind.i64 (newDa key 3)) ∧
   ((Value.int IntKind.i64 (sealW key (4 : Int) (0 : Int) (0 : Int))) = (Value.int IntKind.i64 (newDa key 4)) ∧
   ((Value.int IntKind.i64 (sealW key (5 : Int) (0 : Int) (0 : Int))) = (Value.int IntKind.i64 (newDa key 5)) ∧
   ((Value.int IntKind.i64 (sealW key (6 : Int) (0 : Int) (0 : Int))) = (Value.int IntKind.i64 (newDa key 6)) ∧
   ((Value.int IntKind.i64 (sealW key (7 : Int) (0 : Int) (0 : Int))) = (Value.int IntKind.i64 (newDa key 7)) ∧
   (8 = (ifN (isW key) 8) ∧
   (8 = rc236 ∧
   Bool.true = Bool.true)))))))))))))) ∧
   ((Bool.true = Bool.true ∧
   ((Option.some (Addr.mk b30 0 Option.none)) = ro337 ∧
   (3 = 3 ∧
   (Bool.true = Bool.true ∧
   ((Value.int IntKind.i64 (tagW key (0 : Int) (0 : Int) (sealW key (0 : Int) (0 : Int) (0 : Int)))) = (Value.int IntKind.i64 (newTa key 0)) ∧
   ((Value.int IntKind.i64 (tagW key (1 : Int) (0 : Int) (sealW key (1 : Int) (0 : Int) (0 : Int)))) = (Value.int IntKind.i64 (newTa key 1)) ∧
   ((Value.int IntKind.i64 (tagW key (2 : Int) (0 : Int) (sealW key (2 : Int) (0 : Int) (0 : Int)))) = (Value.int IntKind.i64 (newTa key 2)) ∧
   ((Value.int IntKind.i64 (tagW key (3 : Int) (0 : Int) (sealW key (3 : Int) (0 : Int) (0 : Int)))) = (Value.int IntKind.i64 (newTa key 3)) ∧
   ((Value.int IntKind.i64 (tagW key (4 : Int) (0 : Int) (sealW key (4 : Int) (0 : Int) (0 : Int)))) = (Value.int IntKind.i64 (newTa key 4)) ∧
   ((Value.int IntKind.i64 (tagW key (5 : Int) (0 : Int) (sealW key (5 : Int) (0 : Int) (0 : Int)))) = (Value.int IntKind.i64 (newTa key 5)) ∧
   ((Value.int IntKind.i64 (tagW key (6 : Int) (0 : Int) (sealW key (6 : Int) (0 : Int) (0 : Int)))) = (Value.int IntKind.i64 (newTa key 6)) ∧
   ((Value.int IntKind.i64 (tagW key (7 : Int) (0 : Int) (sealW key (7 : Int) (0 : Int) (0 : Int)))) = (Value.int IntKind.i64 (newTa key 7)) ∧
   (8 = (ifN (isW key) 8) ∧
   (8 = rc338 ∧
   Bool.true = Bool.true)))))))))))))) ∧
   True)))) ∧
   Bool.true = Bool.true)))))))))))))))))))))))))))))))))))))))))))))))))))))))))))))))))))))))))))))))))))))))))))))))))))))))))))))) ∧
   ((∀ b43 : Nat,
   (True ∧
   ((∀ b44 : Nat,
   (True ∧
   (∀ b45 : Nat,
   (True ∧
   (b45 = b45 ∧
   (True ∧
   (b45 = b45 ∧
   (True ∧
   (b44 = b44 ∧
   (True ∧
   (b45 = b45 ∧
   (b45 = b45 ∧
   (b44 = b44 ∧
   (True ∧
   (b43 = b43 ∧
   (True ∧
   (b45 = b45 ∧
   (True ∧
   (b44 = b44 ∧
   (True ∧
   (b45 = b45 ∧
   (b45 = b45 ∧
   (b44 = b44 ∧
   (True ∧
   (b43 = b43 ∧
   (True ∧
   (b45 = b45 ∧
   (True ∧
   (b44 = b44 ∧
   (True ∧
   (b45 = b45 ∧
   (b45 = b45 ∧
   (b44 = b44 ∧
   (True ∧
   (b43 = b43 ∧
   (True ∧
   (b45 = b45 ∧
   (True ∧
   (b44 = b44 ∧
   (True ∧
   (b45 = b45 ∧
   (b45 = b45 ∧
   (b44 = b44 ∧
   (True ∧
   (b43 = b43 ∧
   (True ∧
   (b45 = b45 ∧
   (True ∧
   (b44 = b44 ∧
   (True ∧
   (b45 = b45 ∧
   (b45 = b45 ∧
   (b44 = b44 ∧
   (True ∧
   (b43 = b43 ∧
   (True ∧
   (b45 = b45 ∧
   (True ∧
   (b44 = b44 ∧
   (True ∧
   (b45 = b45 ∧
   (b45 = b45 ∧
   (b44 = b44 ∧
   (True ∧
   (b43 = b43 ∧
   (True ∧
   (b45 = b45 ∧
   (True ∧
   (b44 = b44 ∧
   (True ∧
   (b45 = b45 ∧
   (b45 = b45 ∧
   (b44 = b44 ∧
   (True ∧
   (b43 = b43 ∧
   (True ∧
   (b45 = b45 ∧
   (True ∧
   (b44 = b44 ∧
   (True ∧
   (b45 = b45 ∧
   (b45 = b45 ∧
   (b44 = b44 ∧
   (True ∧
   (b43 = b43 ∧
   (True ∧
   (b45 = b45 ∧
   (b0 = b0 ∧
   (b0 = b0 ∧
   (Exists (fun (ro046 : (Option Addr)) => (Exists (fun (rc047 : Nat) => (Exists (fun (ro148 : (Option Addr)) => (Exists (fun (rc149 : Nat) => (Exists (fun (ro250 : (Option Addr)) => (Exists (fun (rc251 : Nat) => (Exists (fun (ro352 : (Option Addr)) => (Exists (fun (rc353 : Nat) => ((Value.tuple (List.toArray [(Value.agg (List.toArray [(Value.int IntKind.i64 key), (Value.int IntKind.i64 (0 : Int)), (Value.slice ro01 (ifN (isW key) 2) rc02), (Value.slice ro13 (ifN (isW key) 8) rc14), (Value.slice (Option.some (Addr.mk b44 0 Option.none)) 8 8), (Value.slice (Option.some (Addr.mk b43 0 Option.none)) 8 8)])), (Value.bool Bool.true)])) = (Value.tuple (List.toArray [(Value.agg (List.toArray [(Value.int IntKind.i64 (ifZ (isW key) key)), (Value.int IntKind.i64 (0 : Int)), (Value.slice ro046 (ifN (isW key) 2) rc047), (Value.slice ro148 (ifN (isW key) 8) rc149), (Value.slice ro250 (ifN (isW key) 8) rc251), (Value.slice ro352 (ifN (isW key) 8) rc353)])), (Value.bool (isW key))])) ∧
   (((Bool.true = Bool.true ∧
   (ro01 = ro046 ∧
   (37 = 37 ∧
   (2 = 2 ∧
   ((ifN (isW key) 2) = (ifN (isW key) 2) ∧
   (rc02 = rc047 ∧
   ((∀ i54 : Nat,
   (i54 < (ifN (isW key) 2) →
   (Value.int IntKind.i64 (0 : Int)) = (Value.int IntKind.i64 (0 : Int)))) ∧
   ((∀ i55 : Nat,
   (i55 < (ifN (isW key) 2) →
   (Value.int IntKind.i64 (newMT key i55)) = (Value.int IntKind.i64 (newMT key i55)))) ∧
   True)))))))) ∧
   ((Bool.true = Bool.true ∧
   (ro13 = ro148 ∧
   (37 = 37 ∧
   (2 = 2 ∧
   ((ifN (isW key) 8) = (ifN (isW key) 8) ∧
   (rc14 = rc149 ∧
   ((∀ i56 : Nat,
   (i56 < (ifN (isW key) 8) →
   (Value.int IntKind.i64 (0 : Int)) = (Value.int IntKind.i64 (0 : Int)))) ∧
   ((∀ i57 : Nat,
   (i57 < (ifN (isW key) 8) →
   (Value.int IntKind.i64 (newLT key i57)) = (Value.int IntKind.i64 (newLT key i57)))) ∧
   True)))))))) ∧
   ((Bool.true = Bool.true ∧
   ((Option.some (Addr.mk b44 0 Option.none)) = ro250 ∧
   (3 = 3 ∧
   (Bool.true = Bool.true ∧
   ((Value.int IntKind.i64 (sealW key (0 : Int) (0 : Int) (0 : Int))) = (Value.int IntKind.i64 (newDa key 0)) ∧
   ((Value.int IntKind.i64 (sealW key (1 : Int) (0 : Int) (0 : Int))) = (Value.int IntKind.i64 (newDa key 1)) ∧
   ((Value.int IntKind.i64 (sealW key (2 : Int) (0 : Int) (0 : Int))) = (Value.int IntKind.i64 (newDa key 2)) ∧
   ((Value.int IntKind.i64 (sealW key (3 : Int) (0 : Int) (0 : Int))) = (Value.int IntKind.i64 (newDa key 3)) ∧
   ((Value.int IntKind.i64 (sealW key (4 : Int) (0 : Int) (0 : Int))) = (Value.int IntKind.i64 (newDa key 4)) ∧
   ((Value.int IntKind.i64 (sealW key (5 : Int) (0 : Int) (0 : Int))) = (Value.int IntKind.i64 (newDa key 5)) ∧
   ((Value.int IntKind.i64 (sealW key (6 : Int) (0 : Int) (0 : Int))) = (Value.int IntKind.i64 (newDa key 6)) ∧
   ((Value.int IntKind.i64 (sealW key (7 : Int) (0 : Int) (0 : Int))) = (Value.int IntKind.i64 (newDa key 7)) ∧
   (8 = (ifN (isW key) 8) ∧
   (8 = rc251 ∧
   Bool.true = Bool.true)))))))))))))) ∧
   ((Bool.true = Bool.true ∧
   ((Option.some (Addr.mk b43 0 Option.none)) = ro352 ∧
   (3 = 3 ∧
   (Bool.true = Bool.true ∧
   ((Value.int IntKind.i64 (tagW key (0 : Int) (0 : Int) (sealW key (0 : Int) (0 : Int) (0 : Int)))) = (Value.int IntKind.i64 (newTa key 0)) ∧
   ((Value.int IntKind.i64 (tagW key (1 : Int) (0 : Int) (sealW key (1 : Int) (0 : Int) (0 : Int)))) = (Value.int IntKind.i64 (newTa key 1)) ∧
   ((Value.int IntKind.i64 (tagW key (2 : Int) (0 : Int) (sealW key (2 : Int) (0 : Int) (0 : Int)))) = (Value.int IntKind.i64 (newTa key 2)) ∧
   ((Value.int IntKind.i64 (tagW key (3 : Int) (0 : Int) (sealW key (3 : Int) (0 : Int) (0 : Int)))) = (Value.int IntKind.i64 (newTa key 3)) ∧
   ((Value.int IntKind.i64 (tagW key (4 : Int) (0 : Int) (sealW key (4 : Int) (0 : Int) (0 : Int)))) = (Value.int IntKind.i64 (newTa key 4)) ∧
   ((Value.int IntKind.i64 (tagW key (5 : Int) (0 : Int) (sealW key (5 : Int) (0 : Int) (0 : Int)))) = (Value.int IntKind.i64 (newTa key 5)) ∧
   ((Value.int IntKind.i64 (tagW key (6 : Int) (0 : Int) (sealW key (6 : Int) (0 : Int) (0 : Int)))) = (Value.int IntKind.i64 (newTa key 6)) ∧
   ((Value.int IntKind.i64 (tagW key (7 : Int) (0 : Int) (sealW key (7 : Int) (0 : Int) (0 : Int)))) = (Value.int IntKind.i64 (newTa key 7)) ∧
   (8 = (ifN (isW key) 8) ∧
   (8 = rc353 ∧
   Bool.true = Bool.true)))))))))))))) ∧
   True)))) ∧
   Bool.true = Bool.true))))))))))))))))))))))))))))))))))))))))))))))))))))))))))))))))))))))))))))))))))))))))))))))))))))))))))) ∧
   (∀ b58 : Nat,
   (True ∧
   (∀ b59 : Nat,
   (True ∧
   (b58 = b58 ∧
   (True ∧
   (b58 = b58 ∧
   (True ∧
   (b59 = b59 ∧
   (True ∧
   (b58 = b58 ∧
   (b58 = b58 ∧
   (b59 = b59 ∧
   (True ∧
   (b43 = b43 ∧
   (True ∧
   (b58 = b58 ∧
   (True ∧
   (b59 = b59 ∧
   (True ∧
   (b58 = b58 ∧
   (b58 = b58 ∧
   (b59 = b59 ∧
   (True ∧
   (b43 = b43 ∧
   (True ∧
   (b58 = b58 ∧
   (True ∧
   (b59 = b59 ∧
   (True ∧
   (b58 = b58 ∧
   (b58 = b58 ∧
   (b59 = b59 ∧
   (True ∧
   (b43 = b43 ∧
   (True ∧
   (b58 = b58 ∧
   (True ∧
   (b59 = b59 ∧
   (True ∧
   (b58 = b58 ∧
   (b58 = b58 ∧
   (b59 = b59 ∧
   (True ∧
   (b43 = b43 ∧
   (True ∧
   (b58 = b58 ∧
   (True ∧
   (b59 = b59 ∧
   (True ∧
   (b58 = b58 ∧
   (b58 = b58 ∧
   (b59 = b59 ∧
   (True ∧
   (b43 = b43 ∧
   (True ∧
   (b58 = b58 ∧
   (True ∧
   (b59 = b59 ∧
   (True ∧
   (b58 = b58 ∧
   (b58 = b58 ∧
   (b59 = b59 ∧
   (True ∧
   (b43 = b43 ∧
   (True ∧
   (b58 = b58 ∧
   (True ∧
   (b59 = b59 ∧
   (True ∧
   (b58 = b58 ∧
   (b58 = b58 ∧
   (b59 = b59 ∧
   (True ∧
   (b43 = b43 ∧
   (True ∧
   (b58 = b58 ∧
   (True ∧
   (b59 = b59 ∧
   (True ∧
   (b58 = b58 ∧
   (b58 = b58 ∧
   (b59 = b59 ∧
   (True ∧
   (b43 = b43 ∧
   (True ∧
   (b58 = b58 ∧
   (b0 = b0 ∧
   (b0 = b0 ∧
   (Exists (fun (ro060 : (Option Addr)) => (Exists (fun (rc061 : Nat) => (Exists (fun (ro162 : (Option Addr)) => (Exists (fun (rc163 : Nat) => (Exists (fun (ro264 : (Option Addr)) => (Exists (fun (rc265 : Nat) => (Exists (fun (ro366 : (Option Addr)) => (Exists (fun (rc367 : Nat) => ((Value.tuple (List.toArray [(Value.agg (List.toArray [(Value.int IntKind.i64 key), (Value.int IntKind.i64 (0 : Int)), (Value.slice ro01 (ifN (isW key) 2) rc02), (Value.slice ro13 (ifN (isW key) 8) rc14), (Value.slice (Option.some (Addr.mk b59 0 Option.none)) 8 8), (Value.slice (Option.some (Addr.mk b43 0 Option.none)) 8 8)])), (Value.bool Bool.true)])) = (Value.tuple (List.toArray [(Value.agg (List.toArray [(Value.int IntKind.i64 (ifZ (isW key) key)), (Value.int IntKind.i64 (0 : Int)), (Value.slice ro060 (ifN (isW key) 2) rc061), (Value.slice ro162 (ifN (isW key) 8) rc163), (Value.slice ro264 (ifN (isW key) 8) rc265), (Value.slice ro366 (ifN (isW key) 8) rc367)])), (Value.bool (isW key))])) ∧
   (((Bool.true = Bool.true ∧
   (ro01 = ro060 ∧
   (37 = 37 ∧
   (2 = 2 ∧
   ((ifN (isW key) 2) = (ifN (isW key) 2) ∧
   (rc02 = rc061 ∧
   ((∀ i68 : Nat,
   (i68 < (ifN (isW key) 2) →
   (Value.int IntKind.i64 (0 : Int)) = (Value.int IntKind.i64 (0 : Int)))) ∧
   ((∀ i69 : Nat,
   (i69 < (ifN (isW key) 2) →
   (Value.int IntKind.i64 (newMT key i69)) = (Value.int IntKind.i64 (newMT key i69)))) ∧
   True)))))))) ∧
   ((Bool.true = Bool.true ∧
   (ro13 = ro162 ∧
   (37 = 37 ∧
   (2 = 2 ∧
   ((ifN (isW key) 8) = (ifN (isW key) 8) ∧
   (rc14 = rc163 ∧
   ((∀ i70 : Nat,
   (i70 < (ifN (isW key) 8) →
   (Value.int IntKind.i64 (0 : Int)) = (Value.int IntKind.i64 (0 : Int)))) ∧
   ((∀ i71 : Nat,
   (i71 < (ifN (isW key) 8) →
   (Value.int IntKind.i64 (newLT key i71)) = (Value.int IntKind.i64 (newLT key i71)))) ∧
   True)))))))) ∧
   ((Bool.true = Bool.true ∧
   ((Option.some (Addr.mk b59 0 Option.none)) = ro264 ∧
   (3 = 3 ∧
   (Bool.true = Bool.true ∧
   ((Value.int IntKind.i64 (sealW key (0 : Int) (0 : Int) (0 : Int))) = (Value.int IntKind.i64 (newDa key 0)) ∧
   ((Value.int IntKind.i64 (sealW key (1 : Int) (0 : Int) (0 : Int))) = (Value.int IntKind.i64 (newDa key 1)) ∧
   ((Value.int IntKind.i64 (sealW key (2 : Int) (0 : Int) (0 : Int))) = (Value.int IntKind.i64 (newDa key 2)) ∧
   ((Value.int IntKind.i64 (sealW key (3 : Int) (0 : Int) (0 : Int))) = (Value.int IntKind.i64 (newDa key 3)) ∧
   ((Value.int IntKind.i64 (sealW key (4 : Int) (0 : Int) (0 : Int))) = (Value.int IntKind.i64 (newDa key 4)) ∧
   ((Value.int IntKind.i64 (sealW key (5 : Int) (0 : Int) (0 : Int))) = (Value.int IntKind.i64 (newDa key 5)) ∧
   ((Value.int IntKind.i64 (sealW key (6 : Int) (0 : Int) (0 : Int))) = (Value.int IntKind.i64 (newDa key 6)) ∧
   ((Value.int IntKind.i64 (sealW key (7 : Int) (0 : Int) (0 : Int))) = (Value.int IntKind.i64 (newDa key 7)) ∧
   (8 = (ifN (isW key) 8) ∧
   (8 = rc265 ∧
   Bool.true = Bool.true)))))))))))))) ∧
   ((Bool.true = Bool.true ∧
   ((Option.some (Addr.mk b43 0 Option.none)) = ro366 ∧
   (3 = 3 ∧
   (Bool.true = Bool.true ∧
   ((Value.int IntKind.i64 (tagW key (0 : Int) (0 : Int) (sealW key (0 : Int) (0 : Int) (0 : Int)))) = (Value.int IntKind.i64 (newTa key 0)) ∧
   ((Value.int IntKind.i64 (tagW key (1 : Int) (0 : Int) (sealW key (1 : Int) (0 : Int) (0 : Int)))) = (Value.int IntKind.i64 (newTa key 1)) ∧
   ((Value.int IntKind.i64 (tagW key (2 : Int) (0 : Int) (sealW key (2 : Int) (0 : Int) (0 : Int)))) = (Value.int IntKind.i64 (newTa key 2)) ∧
   ((Value.int IntKind.i64 (tagW key (3 : Int) (0 : Int) (sealW key (3 : Int) (0 : Int) (0 : Int)))) = (Value.int IntKind.i64 (newTa key 3)) ∧
   ((Value.int IntKind.i64 (tagW key (4 : Int) (0 : Int) (sealW key (4 : Int) (0 : Int) (0 : Int)))) = (Value.int IntKind.i64 (newTa key 4)) ∧
   ((Value.int IntKind.i64 (tagW key (5 : Int) (0 : Int) (sealW key (5 : Int) (0 : Int) (0 : Int)))) = (Value.int IntKind.i64 (newTa key 5)) ∧
   ((Value.int IntKind.i64 (tagW key (6 : Int) (0 : Int) (sealW key (6 : Int) (0 : Int) (0 : Int)))) = (Value.int IntKind.i64 (newTa key 6)) ∧
   ((Value.int IntKind.i64 (tagW key (7 : Int) (0 : Int) (sealW key (7 : Int) (0 : Int) (0 : Int)))) = (Value.int IntKind.i64 (newTa key 7)) ∧
   (8 = (ifN (isW key) 8) ∧
   (8 = rc367 ∧
   Bool.true = Bool.true)))))))))))))) ∧
   True)))) ∧
   Bool.true = Bool.true)))))))))))))))))))))))))))))))))))))))))))))))))))))))))))))))))))))))))))))))))))))))))))))))))))))))))))))) ∧
   (∀ b72 : Nat,
   (True ∧
   ((∀ b73 : Nat,
   (True ∧
   (∀ b74 : Nat,
   (True ∧
   (b72 = b72 ∧
   (True ∧
   (b72 = b72 ∧
   (True ∧
   (b73 = b73 ∧
   (True ∧
   (b72 = b72 ∧
   (b72 = b72 ∧
   (b73 = b73 ∧
   (True ∧
   (b74 = b74 ∧
   (True ∧
   (b72 = b72 ∧
   (True ∧
   (b73 = b73 ∧
   (True ∧
   (b72 = b72 ∧
   (b72 = b72 ∧
   (b73 = b73 ∧
   (True ∧
   (b74 = b74 ∧
   (True ∧
   (b72 = b72 ∧
   (True ∧
   (b73 = b73 ∧
   (True ∧
   (b72 = b72 ∧
   (b72 = b72 ∧
   (b73 = b73 ∧
   (True ∧
   (b74 = b74 ∧
   (True ∧
   (b72 = b72 ∧
   (True ∧
   (b73 = b73 ∧
   (True ∧
   (b72 = b72 ∧
   (b72 = b72 ∧
   (b73 = b73 ∧
   (True ∧
   (b74 = b74 ∧
   (True ∧
   (b72 = b72 ∧
   (True ∧
   (b73 = b73 ∧
   (True ∧
   (b72 = b72 ∧
   (b72 = b72 ∧
   (b73 = b73 ∧
   (True ∧
   (b74 = b74 ∧
   (True ∧
   (b72 = b72 ∧
   (True ∧
   (b73 = b73 ∧
   (True ∧
   (b72 = b72 ∧
   (b72 = b72 ∧
   (b73 = b73 ∧
   (True ∧
   (b74 = b74 ∧
   (True ∧
   (b72 = b72 ∧
   (True ∧
   (b73 = b73 ∧
   (True ∧
   (b72 = b72 ∧
   (b72 = b72 ∧
   (b73 = b73 ∧
   (True ∧
   (b74 = b74 ∧
   (True ∧
   (b72 = b72 ∧
   (True ∧
   (b73 = b73 ∧
   (True ∧
   (b72 = b72 ∧
   (b72 = b72 ∧
   (b73 = b73 ∧
   (True ∧
   (b74 = b74 ∧
   (True ∧
   (b72 = b72 ∧
   (b0 = b0 ∧
   (b0 = b0 ∧
   (Exists (fun (ro075 : (Option Addr)) => (Exists (fun (rc076 : Nat) => (Exists (fun (ro177 : (Option Addr)) => (Exists (fun (rc178 : Nat) => (Exists (fun (ro279 : (Option Addr)) => (Exists (fun (rc280 : Nat) => (Exists (fun (ro381 : (Option Addr)) => (Exists (fun (rc382 : Nat) => ((Value.tuple (List.toArray [(Value.agg (List.toArray [(Value.int IntKind.i64 key), (Value.int IntKind.i64 (0 : Int)), (Value.slice ro01 (ifN (isW key) 2) rc02), (Value.slice ro13 (ifN (isW key) 8) rc14), (Value.slice (Option.some (Addr.mk b73 0 Option.none)) 8 8), (Value.slice (Option.some (Addr.mk b74 0 Option.none)) 8 8)])), (Value.bool Bool.true)])) = (Value.tuple (List.toArray [(Value.agg (List.toArray [(Value.int IntKind.i64 (ifZ (isW key) key)), (Value.int IntKind.i64 (0 : Int)), (Value.slice ro075 (ifN (isW key) 2) rc076), (Value.slice ro177 (ifN (isW key) 8) rc178), (Value.slice ro279 (ifN (isW key) 8) rc280), (Value.slice ro381 (ifN (isW key) 8) rc382)])), (Value.bool (isW key))])) ∧
   (((Bool.true = Bool.true ∧
   (ro01 = ro075 ∧
   (37 = 37 ∧
   (2 = 2 ∧
   ((ifN (isW key) 2) = (ifN (isW key) 2) ∧
   (rc02 = rc076 ∧
   ((∀ i83 : Nat,
   (i83 < (ifN (isW key) 2) →
   (Value.int IntKind.i64 (0 : Int)) = (Value.int IntKind.i64 (0 : Int)))) ∧
   ((∀ i84 : Nat,
   (i84 < (ifN (isW key) 2) →
   (Value.int IntKind.i64 (newMT key i84)) = (Value.int IntKind.i64 (newMT key i84)))) ∧
   True)))))))) ∧
   ((Bool.true = Bool.true ∧
   (ro13 = ro177 ∧
   (37 = 37 ∧
   (2 = 2 ∧
   ((ifN (isW key) 8) = (ifN (isW key) 8) ∧
   (rc14 = rc178 ∧
   ((∀ i85 : Nat,
   (i85 < (ifN (isW key) 8) →
   (Value.int IntKind.i64 (0 : Int)) = (Value.int IntKind.i64 (0 : Int)))) ∧
   ((∀ i86 : Nat,
   (i86 < (ifN (isW key) 8) →
   (Value.int IntKind.i64 (newLT key i86)) = (Value.int IntKind.i64 (newLT key i86)))) ∧
   True)))))))) ∧
   ((Bool.true = Bool.true ∧
   ((Option.some (Addr.mk b73 0 Option.none)) = ro279 ∧
   (3 = 3 ∧
   (Bool.true = Bool.true ∧
   ((Value.int IntKind.i64 (sealW key (0 : Int) (0 : Int) (0 : Int))) = (Value.int IntKind.i64 (newDa key 0)) ∧
   ((Value.int IntKind.i64 (sealW key (1 : Int) (0 : Int) (0 : Int))) = (Value.int IntKind.i64 (newDa key 1)) ∧
   ((Value.int IntKind.i64 (sealW key (2 : Int) (0 : Int) (0 : Int))) = (Value.int IntKind.i64 (newDa key 2)) ∧
   ((Value.int IntKind.i64 (sealW key (3 : Int) (0 : Int) (0 : Int))) = (Value.int IntKind.i64 (newDa key 3)) ∧
   ((Value.int IntKind.i64 (sealW key (4 : Int) (0 : Int) (0 : Int))) = (Value.int IntKind.i64 (newDa key 4)) ∧
   ((Value.int IntKind.i64 (sealW key (5 : Int) (0 : Int) (0 : Int))) = (Value.int IntKind.i64 (newDa key 5)) ∧
   ((Value.int IntKind.i64 (sealW key (6 : Int) (0 : Int) (0 : Int))) = (Value.int IntKind.i64 (newDa key 6)) ∧
   ((Value.int IntKind.i64 (sealW key (7 : Int) (0 : Int) (0 : Int))) = (Value.int IntKind.i64 (newDa key 7)) ∧
   (8 = (ifN (isW key) 8) ∧
   (8 = rc280 ∧
   Bool.true = Bool.true)))))))))))))) ∧
   ((Bool.true = Bool.true ∧
   ((Option.some (Addr.mk b74 0 Option.none)) = ro381 ∧
   (3 = 3 ∧
   (Bool.true = Bool.true ∧
   ((Value.int IntKind.i64 (tagW key (0 : Int) (0 : Int) (sealW key (0 : Int) (0 : Int) (0 : Int)))) = (Value.int IntKind.i64 (newTa key 0)) ∧
   ((Value.int IntKind.i64 (tagW key (1 : Int) (0 : Int) (sealW key (1 : Int) (0 : Int) (0 : Int)))) = (Value.int IntKind.i64 (newTa key 1)) ∧
   ((Value.int IntKind.i64 (tagW key (2 : Int) (0 : Int) (sealW key (2 : Int) (0 : Int) (0 : Int)))) = (Value.int IntKind.i64 (newTa key 2)) ∧
   ((Value.int IntKind.i64 (tagW key (3 : Int) (0 : Int) (sealW key (3 : Int) (0 : Int) (0 : Int)))) = (Value.int IntKind.i64 (newTa key 3)) ∧
   ((Value.int IntKind.i64 (tagW key (4 : Int) (0 : Int) (sealW key (4 : Int) (0 : Int) (0 : Int)))) = (Value.int IntKind.i64 (newTa key 4)) ∧
   ((Value.int IntKind.i64 (tagW key (5 : Int) (0 : Int) (sealW key (5 : Int) (0 : Int) (0 : Int)))) = (Value.int IntKind.i64 (newTa key 5)) ∧
   ((Value.int IntKind.i64 (tagW key (6 : Int) (0 : Int) (sealW key (6 : Int) (0 : Int) (0 : Int)))) = (Value.int IntKind.i64 (newTa key 6)) ∧
   ((Value.int IntKind.i64 (tagW key (7 : Int) (0 : Int) (sealW key (7 : Int) (0 : Int) (0 : Int)))) = (Value.int IntKind.i64 (newTa key 7)) ∧
   (8 = (ifN (isW key) 8) ∧
   (8 = rc382 ∧
   Bool.true = Bool.true)))))))))))))) ∧
   True)))) ∧
   Bool.true = Bool.true))))))))))))))))))))))))))))))))))))))))))))))))))))))))))))))))))))))))))))))))))))))))))))))))))))))))))) ∧
   (∀ b87 : Nat,
   (True ∧
   (∀ b88 : Nat,
   (True ∧
   (b72 = b72 ∧
   (True ∧
   (b72 = b72 ∧
   (True ∧
   (b88 = b88 ∧
   (True ∧
   (b72 = b72 ∧
   (b72 = b72 ∧
   (b88 = b88 ∧
   (True ∧
   (b87 = b87 ∧
   (True ∧
   (b72 = b72 ∧
   (True ∧
   (b88 = b88 ∧
   (True ∧
   (b72 = b72 ∧
   (b72 = b72 ∧
   (b88 = b88 ∧
   (True ∧
   (b87 = b87 ∧
   (True ∧
   (b72 = b72 ∧
   (True ∧
   (b88 = b88 ∧
   (True ∧
   (b72 = b72 ∧
   (b72 = b72 ∧
   (b88 = b88 ∧
   (True ∧
   (b87 = b87 ∧
   (True ∧
   (b72 = b72 ∧
   (True ∧
   (b88 = b88 ∧
   (True ∧
   (b72 = b72 ∧
   (b72 = b72 ∧
   (b88 = b88 ∧
   (True ∧
   (b87 = b87 ∧
   (True ∧
   (b72 = b72 ∧
   (True ∧
   (b88 = b88 ∧
   (True ∧
   (b72 = b72 ∧
   (b72 = b72 ∧
   (b88 = b88 ∧
   (True ∧
   (b87 = b87 ∧
   (True ∧
   (b72 = b72 ∧
   (True ∧
   (b88 = b88 ∧
   (True ∧
   (b72 = b72 ∧
   (b72 = b72 ∧
   (b88 = b88 ∧
   (True ∧
   (b87 = b87 ∧
   (True ∧
   (b72 = b72 ∧
   (True ∧
   (b88 = b88 ∧
   (True ∧
   (b72 = b72 ∧
   (b72 = b72 ∧
   (b88 = b88 ∧
   (True ∧
   (b87 = b87 ∧
   (True ∧
   (b72 = b72 ∧
   (True ∧
   (b88 = b88 ∧
   (True ∧
   (b72 = b72 ∧
   (b72 = b72 ∧
   (b88 = b88 ∧
   (True ∧
   (b87 = b87 ∧
   (True ∧
   (b72 = b72 ∧
   (b0 = b0 ∧
   (b0 = b0 ∧
   (Exists (fun (ro089 : (Option Addr)) => (Exists (fun (rc090 : Nat) => (Exists (fun (ro191 : (Option Addr)) => (Exists (fun (rc192 : Nat) => (Exists (fun (ro293 : (Option Addr)) => (Exists (fun (rc294 : Nat) => (Exists (fun (ro395 : (Option Addr)) => (Exists (fun (rc396 : Nat) => ((Value.tuple (List.toArray [(Value.agg (List.toArray [(Value.int IntKind.i64 key), (Value.int IntKind.i64 (0 : Int)), (Value.slice ro01 (ifN (isW key) 2) rc02), (Value.slice ro13 (ifN (isW key) 8) rc14), (Value.slice (Option.some (Addr.mk b88 0 Option.none)) 8 8), (Value.slice (Option.some (Addr.mk b87 0 Option.none)) 8 8)])), (Value.bool Bool.true)])) = (Value.tuple (List.toArray [(Value.agg (List.toArray [(Value.int IntKind.i64 (ifZ (isW key) key)), (Value.int IntKind.i64 (0 : Int)), (Value.slice ro089 (ifN (isW key) 2) rc090), (Value.slice ro191 (ifN (isW key) 8) rc192), (Value.slice ro293 (ifN (isW key) 8) rc294), (Value.slice ro395 (ifN (isW key) 8) rc396)])), (Value.bool (isW key))])) ∧
   (((Bool.true = Bool.true ∧
   (ro01 = ro089 ∧
   (37 = 37 ∧
   (2 = 2 ∧
   ((ifN (isW key) 2) = (ifN (isW key) 2) ∧
   (rc02 = rc090 ∧
   ((∀ i97 : Nat,
   (i97 < (ifN (isW key) 2) →
   (Value.int IntKind.i64 (0 : Int)) = (Value.int IntKind.i64 (0 : Int)))) ∧
   ((∀ i98 : Nat,
   (i98 < (ifN (isW key) 2) →
   (Value.int IntKind.i64 (newMT key i98)) = (Value.int IntKind.i64 (newMT key i98)))) ∧
   True)))))))) ∧
   ((Bool.true = Bool.true ∧
   (ro13 = ro191 ∧
   (37 = 37 ∧
   (2 = 2 ∧
   ((ifN (isW key) 8) = (ifN (isW key) 8) ∧
   (rc14 = rc192 ∧
   ((∀ i99 : Nat,
   (i99 < (ifN (isW key) 8) →
   (Value.int IntKind.i64 (0 : Int)) = (Value.int IntKind.i64 (0 : Int)))) ∧
   ((∀ i100 : Nat,
   (i100 < (ifN (isW key) 8) →
   (Value.int IntKind.i64 (newLT key i100)) = (Value.int IntKind.i64 (newLT key i100)))) ∧
   True)))))))) ∧
   ((Bool.true = Bool.true ∧
   ((Option.some (Addr.mk b88 0 Option.none)) = ro293 ∧
   (3 = 3 ∧
   (Bool.true = Bool.true ∧
   ((Value.int IntKind.i64 (sealW key (0 : Int) (0 : Int) (0 : Int))) = (Value.int IntKind.i64 (newDa key 0)) ∧
   ((Value.int IntKind.i64 (sealW key (1 : Int) (0 : Int) (0 : Int))) = (Value.int IntKind.i64 (newDa key 1)) ∧
   ((Value.int IntKind.i64 (sealW key (2 : Int) (0 : Int) (0 : Int))) = (Value.int IntKind.i64 (newDa key 2)) ∧
   ((Value.int IntKind.i64 (sealW key (3 : Int) (0 : Int) (0 : Int))) = (Value.int IntKind.i64 (newDa key 3)) ∧
   ((Value.int IntKind.i64 (sealW key (4 : Int) (0 : Int) (0 : Int))) = (Value.int IntKind.i64 (newDa key 4)) ∧
   ((Value.int IntKind.i64 (sealW key (5 : Int) (0 : Int) (0 : Int))) = (Value.int IntKind.i64 (newDa key 5)) ∧
   ((Value.int IntKind.i64 (sealW key (6 : Int) (0 : Int) (0 : Int))) = (Value.int IntKind.i64 (newDa key 6)) ∧
   ((Value.int IntKind.i64 (sealW key (7 : Int) (0 : Int) (0 : Int))) = (Value.int IntKind.i64 (newDa key 7)) ∧
   (8 = (ifN (isW key) 8) ∧
   (8 = rc294 ∧
   Bool.true = Bool.true)))))))))))))) ∧
   ((Bool.true = Bool.true ∧
   ((Option.some (Addr.mk b87 0 Option.none)) = ro395 ∧
   (3 = 3 ∧
   (Bool.true = Bool.true ∧
   ((Value.int IntKind.i64 (tagW key (0 : Int) (0 : Int) (sealW key (0 : Int) (0 : Int) (0 : Int)))) = (Value.int IntKind.i64 (newTa key 0)) ∧
   ((Value.int IntKind.i64 (tagW key (1 : Int) (0 : Int) (sealW key (1 : Int) (0 : Int) (0 : Int)))) = (Value.int IntKind.i64 (newTa key 1)) ∧
   ((Value.int IntKind.i64 (tagW key (2 : Int) (0 : Int) (sealW key (2 : Int) (0 : Int) (0 : Int)))) = (Value.int IntKind.i64 (newTa key 2)) ∧
   ((Value.int IntKind.i64 (tagW key (3 : Int) (0 : Int) (sealW key (3 : Int) (0 : Int) (0 : Int)))) = (Value.int IntKind.i64 (newTa key 3)) ∧
   ((Value.int IntKind.i64 (tagW key (4 : Int) (0 : Int) (sealW key (4 : Int) (0 : Int) (0 : Int)))) = (Value.int IntKind.i64 (newTa key 4)) ∧
   ((Value.int IntKind.i64 (tagW key (5 : Int) (0 : Int) (sealW key (5 : Int) (0 : Int) (0 : Int)))) = (Value.int IntKind.i64 (newTa key 5)) ∧
   ((Value.int IntKind.i64 (tagW key (6 : Int) (0 : Int) (sealW key (6 : Int) (0 : Int) (0 : Int)))) = (Value.int IntKind.i64 (newTa key 6)) ∧
   ((Value.int IntKind.i64 (tagW key (7 : Int) (0 : Int) (sealW key (7 : Int) (0 : Int) (0 : Int)))) = (Value.int IntKind.i64 (newTa key 7)) ∧
   (8 = (ifN (isW key) 8) ∧
   (8 = rc396 ∧
   Bool.true = Bool.true)))))))))))))) ∧
   True)))) ∧
   Bool.true = Bool.true))))))))))))))))))))))))))))))))))))))))))))))))))))))))))))))))))))))))))))))))))))))))))))))))))))))))))))))))))))))))))) := by kernel_rfl
theorem snewS_any (key : Int) (w : World) : Calls Try.prog 56 #[.int .i64 key] w fun e w' => ∃ (ro0 : Option Addr) (rc0 : Nat) (ro1 : Option Addr) (rc1 : Nat) (ro2 : Option Addr) (rc2 : Nat) (ro3 : Option Addr) (rc3 : Nat), e = .returned (.tuple #[.agg #[.int .i64 (ifZ (isW key) key), .int .i64 (0), .slice ro0 (ifN (isW key) 2) rc0, .slice ro1 (ifN (isW key) 8) rc1, .slice ro2 (ifN (isW key) 8) rc2, .slice ro3 (ifN (isW key) 8) rc3], .bool (isW key)]) ∧ HS ⟨w, fun _ => False⟩ [.row ⟨true, ro0, 37, 2, ifN (isW key) 2, rc0, [fun i => .int (0), fun i => .int (newMT key i)]⟩, .row ⟨true, ro1, 37, 2, ifN (isW key) 8, rc1, [fun i => .int (0), fun i => .int (newLT key i)]⟩, .row ⟨true, ro2, 3, 1, ifN (isW key) 8, rc2, [fun i => .int (newDa key i)]⟩, .row ⟨true, ro3, 3, 1, ifN (isW key) 8, rc3, [fun i => .int (newTa key i)]⟩] w' := by
  refine fnB (tb := [(15, sTNew), (50, sSeal), (51, sTag)]) ⟨sTNew_ok_newS, sSeal_spec, sTag_spec, trivial⟩ Try.func56 (@Eq.mpr _ _ (snewS_T key) ?_) (HS.start w (fun _ => False)) (fun v ch' w' ⟨ro0, rc0, ro1, rc1, ro2, rc2, ro3, rc3, hk⟩ hs => ⟨ro0, rc0, ro1, rc1, ro2, rc2, ro3, rc3, by rw [hk.1], hk.hs hs⟩)
  cases hw : isW key
  all_goals
    repeat' (first
      | with_reducible exact rfl
      | exact True.intro
      | assumption
      | refine And.intro ?_ ?_
      | apply Exists.intro
      | (intro h; exfalso; simp [hw] at h; done)
      | (intro h; exfalso; simp [hw] at h; omega)
      | intro _
      | omega
      | (simp; omega))
  all_goals simp_all [ifN, ifZ, newDa, newTa]
def sSNew : Sm := fun args ch kk =>
  match args with
  | [.a (.c c0)] =>
    match ints [c0] with
    | some [key] => ∀ (ro0 : Option Addr) (rc0 : Nat), ∀ (ro1 : Option Addr) (rc1 : Nat), ∀ (ro2 : Option Addr) (rc2 : Nat), ∀ (ro3 : Option Addr) (rc3 : Nat), kk (.tup [.agg [.int (ifZ (isW key) key), .int (0), .sl (ch.length) ro0 (ifN (isW key) 2) rc0, .sl (ch.length + 1) ro1 (ifN (isW key) 8) rc1, .sl (ch.length + 2) ro2 (ifN (isW key) 8) rc2, .sl (ch.length + 3) ro3 (ifN (isW key) 8) rc3], .c (.bool (isW key))]) (ch ++ [.row ⟨true, ro0, 37, 2, ifN (isW key) 2, rc0, [fun i => .int (0), fun i => .int (newMT key i)]⟩, .row ⟨true, ro1, 37, 2, ifN (isW key) 8, rc1, [fun i => .int (0), fun i => .int (newLT key i)]⟩, .row ⟨true, ro2, 3, 1, ifN (isW key) 8, rc2, [fun i => .int (newDa key i)]⟩, .row ⟨true, ro3, 3, 1, ifN (isW key) 8, rc3, [fun i => .int (newTa key i)]⟩]) []
    | _ => False
  | _ => False
theorem sSNew_ok {f : FuncId} (hc : ∀ args w, (callFunc f args).run Try.prog w = .ok (.enter f args) w) (h : ∀ (key : Int) (w : World), Calls Try.prog f #[.int .i64 key] w fun e w' => ∃ (ro0 : Option Addr) (rc0 : Nat) (ro1 : Option Addr) (rc1 : Nat) (ro2 : Option Addr) (rc2 : Nat) (ro3 : Option Addr) (rc3 : Nat), e = .returned (.tuple #[.agg #[.int .i64 (ifZ (isW key) key), .int .i64 (0), .slice ro0 (ifN (isW key) 2) rc0, .slice ro1 (ifN (isW key) 8) rc1, .slice ro2 (ifN (isW key) 8) rc2, .slice ro3 (ifN (isW key) 8) rc3], .bool (isW key)]) ∧ HS ⟨w, fun _ => False⟩ [.row ⟨true, ro0, 37, 2, ifN (isW key) 2, rc0, [fun i => .int (0), fun i => .int (newMT key i)]⟩, .row ⟨true, ro1, 37, 2, ifN (isW key) 8, rc1, [fun i => .int (0), fun i => .int (newLT key i)]⟩, .row ⟨true, ro2, 3, 1, ifN (isW key) 8, rc2, [fun i => .int (newDa key i)]⟩, .row ⟨true, ro3, 3, 1, ifN (isW key) 8, rc3, [fun i => .int (newTa key i)]⟩] w') : SmOK Try.prog f sSNew := by
  refine smN hc fun args ch kk w X h0 hs => ?_
  unfold sSNew at h0
  split at h0
  · rename_i c0
    split at h0
    · rename_i key hi
      obtain ⟨ec0, hi⟩ := ints_cons hi
      refine Calls.mono (?_ : Calls Try.prog f _ w (fun e w' => ∃ (ro0 : Option Addr) (rc0 : Nat) (ro1 : Option Addr) (rc1 : Nat) (ro2 : Option Addr) (rc2 : Nat) (ro3 : Option Addr) (rc3 : Nat), e = .returned (.tuple #[.agg #[.int .i64 (ifZ (isW key) key), .int .i64 (0), .slice ro0 (ifN (isW key) 2) rc0, .slice ro1 (ifN (isW key) 8) rc1, .slice ro2 (ifN (isW key) 8) rc2, .slice ro3 (ifN (isW key) 8) rc3], .bool (isW key)]) ∧ HS ⟨w, fun _ => False⟩ [.row ⟨true, ro0, 37, 2, ifN (isW key) 2, rc0, [fun i => .int (0), fun i => .int (newMT key i)]⟩, .row ⟨true, ro1, 37, 2, ifN (isW key) 8, rc1, [fun i => .int (0), fun i => .int (newLT key i)]⟩, .row ⟨true, ro2, 3, 1, ifN (isW key) 8, rc2, [fun i => .int (newDa key i)]⟩, .row ⟨true, ro3, 3, 1, ifN (isW key) 8, rc3, [fun i => .int (newTa key i)]⟩] w')) (fun e w' ⟨ro0, rc0, ro1, rc1, ro2, rc2, ro3, rc3, he, hs'⟩ => ⟨_, _, ?_, hs', rfl, h0 ro0 rc0 ro1 rc1 ro2 rc2 ro3 rc3⟩)
      · simp only [List.map_cons, List.map_nil, den_a, den_c, SA.den, den_sl, ec0]
        exact h key w
      · rw [he]
        rfl
    · exact h0.elim
  · exact h0.elim
theorem sSNew_ok_snewS : SmOK Try.prog 56 sSNew := sSNew_ok Try.call56 (fun key w => snewS_any key w)
def rdOk (key root : Int) (n m : Nat) (mc mt lc lt : Nat → Int) (dn tn : Nat) (da ta : Nat → Int) (line : Int) : Bool := lcOk key root n m mc mt lc lt line && fitsB dn tn && isW (da line.toNat) && (ta line.toNat == tagW key line (lc line.toNat) (da line.toNat))
def rdV (key root : Int) (n m : Nat) (mc mt lc lt : Nat → Int) (dn tn : Nat) (da ta : Nat → Int) (line : Int) : Int := if rdOk key root n m mc mt lc lt dn tn da ta line = true then sealW key line (lc line.toNat) (da line.toNat) else 0
end Go.Proofs.Ytppeocfcdeiemaa

/-
  Secured lines: replayed.
-/
import Derived.Test.YtppeocfcdeiemaaSxSec4
namespace Go.Proofs.Ytppeocfcdeiemaa
set_option linter.unusedVariables false
set_option linter.unusedSimpArgs false
open Go.RowKit
set_option maxRecDepth 100000
set_option maxHeartbeats 8000000

def pOk (dn un dn2 un2 : Nat) (line : Int) : Bool := btw line 0 7 && fitsB dn un && fitsB dn2 un2
def pDa (b : Bool) (line : Int) (da d2 : Nat → Int) (i : Nat) : Int := if b = true ∧ i = line.toNat then d2 i else da i
theorem srepI_T (sKey : Int) (sTreeRoot : Int) (sTreeMidO : Option Addr) (sTreeMidN sTreeMidC : Nat) (sTreeMidg0 sTreeMidg1 : Nat → Int) (sTreeLeafO : Option Addr) (sTreeLeafN sTreeLeafC : Nat) (sTreeLeafg0 sTreeLeafg1 : Nat → Int) (sDataO : Option Addr) (sDataN sDataC : Nat) (sDatag0 : Nat → Int) (sTagsO : Option Addr) (sTagsN sTagsC : Nat) (sTagsg0 : Nat → Int) (oldKey : Int) (oldTreeRoot : Int) (oldTreeMidO : Option Addr) (oldTreeMidN oldTreeMidC : Nat) (oldTreeMidg0 oldTreeMidg1 : Nat → Int) (oldTreeLeafO : Option Addr) (oldTreeLeafN oldTreeLeafC : Nat) (oldTreeLeafg0 oldTreeLeafg1 : Nat → Int) (oldDataO : Option Addr) (oldDataN oldDataC : Nat) (oldDatag0 : Nat → Int) (oldTagsO : Option Addr) (oldTagsN oldTagsC : Nat) (oldTagsg0 : Nat → Int) (line : Int) : (exFn Try.prog {tb := [(43, sCopyS), (33, sBtw), (45, sFits), (17, sWith)]} 400 Try.f23 ([.a (.agg [.int sKey, .int sTreeRoot, .sl 0 sTreeMidO sTreeMidN sTreeMidC, .sl 1 sTreeLeafO sTreeLeafN sTreeLeafC, .sl 2 sDataO sDataN sDataC, .sl 3 sTagsO sTagsN sTagsC]), .a (.agg [.int oldKey, .int oldTreeRoot, .sl 4 oldTreeMidO oldTreeMidN oldTreeMidC, .sl 5 oldTreeLeafO oldTreeLeafN oldTreeLeafC, .sl 6 oldDataO oldDataN oldDataC, .sl 7 oldTagsO oldTagsN oldTagsC]), .a (.c (.int line))]) ([.row ⟨false, sTreeMidO, 0, 2, sTreeMidN, 0, [fun i => .int (sTreeMidg0 i), fun i => .int (sTreeMidg1 i)]⟩, .row ⟨false, sTreeLeafO, 0, 2, sTreeLeafN, 0, [fun i => .int (sTreeLeafg0 i), fun i => .int (sTreeLeafg1 i)]⟩, .row ⟨false, sDataO, 0, 1, sDataN, 0, [fun i => .int (sDatag0 i)]⟩, .row ⟨false, sTagsO, 0, 1, sTagsN, 0, [fun i => .int (sTagsg0 i)]⟩, .row ⟨false, oldTreeMidO, 0, 2, oldTreeMidN, 0, [fun i => .int (oldTreeMidg0 i), fun i => .int (oldTreeMidg1 i)]⟩, .row ⟨false, oldTreeLeafO, 0, 2, oldTreeLeafN, 0, [fun i => .int (oldTreeLeafg0 i), fun i => .int (oldTreeLeafg1 i)]⟩, .row ⟨false, oldDataO, 0, 1, oldDataN, 0, [fun i => .int (oldDatag0 i)]⟩, .row ⟨false, oldTagsO, 0, 1, oldTagsN, 0, [fun i => .int (oldTagsg0 i)]⟩]) (fun v ch => ∃ (ro0 : Option Addr) (rc0 : Nat) (ro1 : Option Addr) (rc1 : Nat) (ro2 : Option Addr) (rc2 : Nat) (ro3 : Option Addr) (rc3 : Nat), OutR v ch (.agg #[.int .i64 (sKey), .int .i64 (sTreeRoot), .slice ro0 (selN (pOk sDataN sTagsN oldDataN oldTagsN line) oldTreeMidN sTreeMidN) rc0, .slice ro1 (selN (pOk sDataN sTagsN oldDataN oldTagsN line) oldTreeLeafN sTreeLeafN) rc1, .slice ro2 (sDataN) rc2, .slice ro3 (sTagsN) rc3]) [.row ⟨true, ro0, 37, 2, selN (pOk sDataN sTagsN oldDataN oldTagsN line) oldTreeMidN sTreeMidN, rc0, [fun i => .int (selZ (pOk sDataN sTagsN oldDataN oldTagsN line) (oldTreeMidg0 i) (sTreeMidg0 i)), fun i => .int (selZ (pOk sDataN sTagsN oldDataN oldTagsN line) (oldTreeMidg1 i) (sTreeMidg1 i))]⟩, .row ⟨true, ro1, 37, 2, selN (pOk sDataN sTagsN oldDataN oldTagsN line) oldTreeLeafN sTreeLeafN, rc1, [fun i => .int (selZ (pOk sDataN sTagsN oldDataN oldTagsN line) (oldTreeLeafg0 i) (sTreeLeafg0 i)), fun i => .int (selZ (pOk sDataN sTagsN oldDataN oldTagsN line) (oldTreeLeafg1 i) (sTreeLeafg1 i))]⟩, .row ⟨true, ro2, 3, 1, sDataN, rc2, [fun i => .int (pDa (pOk sDataN sTagsN oldDataN oldTagsN line) line sDatag0 oldDatag0 i)]⟩, .row ⟨true, ro3, 3, 1, sTagsN, rc3, [fun i => .int (pDa (pOk sDataN sTagsN oldDataN oldTagsN line) line sTagsg0 oldTagsg0 i)]⟩])) = (
  (∀ b0 : Nat,
  (∀ b1 : Nat,
  (∀ b2 : Nat,
  (b0 = b0 ∧
  (Exists (fun (sTreeMidg03 : (Nat →
  Int)) => (Exists (fun (sTreeMidg14 : (Nat →
  Int)) => (Exists (fun (sTreeLeafg05 : (Nat →
  Int)) => (Exists (fun (sTreeLeafg16 : (Nat →
  Int)) => (Exists (fun (sDatag07 : (Nat →
  Int)) => (Exists (fun (sTagsg08 : (Nat →
  Int)) => ((sTreeMidO = sTreeMidO ∧
  (sTreeMidN = sTreeMidN ∧
  ([(fun (i9 : Nat) => (SC.int (sTreeMidg0 i9))), (fun (i10 : Nat) => (SC.int (sTreeMidg1 i10)))] = [(fun (i11 : Nat) => (SC.int (sTreeMidg03 i11))), (fun (i12 : Nat) => (SC.int (sTreeMidg14 i12)))] ∧
  (sTreeLeafO = sTreeLeafO ∧
  (sTreeLeafN = sTreeLeafN ∧
  ([(fun (i13 : Nat) => (SC.int (sTreeLeafg0 i13))), (fun (i14 : Nat) => (SC.int (sTreeLeafg1 i14)))] = [(fun (i15 : Nat) => (SC.int (sTreeLeafg05 i15))), (fun (i16 : Nat) => (SC.int (sTreeLeafg16 i16)))] ∧
  (sDataO = sDataO ∧
  (sDataN = sDataN ∧
  ([(fun (i17 : Nat) => (SC.int (sDatag0 i17)))] = [(fun (i18 : Nat) => (SC.int (sDatag07 i18)))] ∧
  (sTagsO = sTagsO ∧
  (sTagsN = sTagsN ∧
  ([(fun (i19 : Nat) => (SC.int (sTagsg0 i19)))] = [(fun (i20 : Nat) => (SC.int (sTagsg08 i20)))] ∧
  ((capC sTreeMidN) ∧
  ((capC sTreeLeafN) ∧
  ((capC sDataN) ∧
  (capC sTagsN)))))))))))))))) ∧
  (∀ ro021 : (Option Addr),
  (∀ rc022 : Nat,
  (∀ ro123 : (Option Addr),
  (∀ rc124 : Nat,
  (∀ ro225 : (Option Addr),
  (∀ rc226 : Nat,
  (∀ ro327 : (Option Addr),
  (∀ rc328 : Nat,
  (∀ b29 : Nat,
  (b29 = b29 ∧
  (((!(btw line (0 : Int) (7 : Int))) = Bool.false →
  (b0 = b0 ∧
   (Exists (fun (sTreeMidg030 : (Nat →
   Int)) => (Exists (fun (sTreeMidg131 : (Nat →
   Int)) => (Exists (fun (sTreeLeafg032 : (Nat →
   Int)) => (Exists (fun (sTreeLeafg133 : (Nat →
   Int)) => (Exists (fun (sDatag034 : (Nat →
   Int)) => (Exists (fun (sTagsg035 : (Nat →
   Int)) => ((sTreeMidO = sTreeMidO ∧
   (sTreeMidN = sTreeMidN ∧
   ([(fun (i36 : Nat) => (SC.int (sTreeMidg0 i36))), (fun (i37 : Nat) => (SC.int (sTreeMidg1 i37)))] = [(fun (i38 : Nat) => (SC.int (sTreeMidg030 i38))), (fun (i39 : Nat) => (SC.int (sTreeMidg131 i39)))] ∧
   (sTreeLeafO = sTreeLeafO ∧
   (sTreeLeafN = sTreeLeafN ∧
   ([(fun (i40 : Nat) => (SC.int (sTreeLeafg0 i40))), (fun (i41 : Nat) => (SC.int (sTreeLeafg1 i41)))] = [(fun (i42 : Nat) => (SC.int (sTreeLeafg032 i42))), (fun (i43 : Nat) => (SC.int (sTreeLeafg133 i43)))] ∧
   (sDataO = sDataO ∧
   (sDataN = sDataN ∧
   ([(fun (i44 : Nat) => (SC.int (sDatag0 i44)))] = [(fun (i45 : Nat) => (SC.int (sDatag034 i45)))] ∧
   (sTagsO = sTagsO ∧
   (sTagsN = sTagsN ∧
   [(fun (i46 : Nat) => (SC.int (sTagsg0 i46)))] = [(fun (i47 : Nat) => (SC.int (sTagsg035 i47)))]))))))))))) ∧
   (((!(fitsB sDataN sTagsN)) = Bool.false →
   (b1 = b1 ∧
    (Exists (fun (sTreeMidg048 : (Nat →
    Int)) => (Exists (fun (sTreeMidg149 : (Nat →
    Int)) => (Exists (fun (sTreeLeafg050 : (Nat →
    Int)) => (Exists (fun (sTreeLeafg151 : (Nat →
    Int)) => (Exists (fun (sDatag052 : (Nat →
    Int)) => (Exists (fun (sTagsg053 : (Nat →
    Int)) => ((oldTreeMidO = oldTreeMidO ∧
    (oldTreeMidN = oldTreeMidN ∧
    ([(fun (i54 : Nat) => (SC.int (oldTreeMidg0 i54))), (fun (i55 : Nat) => (SC.int (oldTreeMidg1 i55)))] = [(fun (i56 : Nat) => (SC.int (sTreeMidg048 i56))), (fun (i57 : Nat) => (SC.int (sTreeMidg149 i57)))] ∧
    (oldTreeLeafO = oldTreeLeafO ∧
    (oldTreeLeafN = oldTreeLeafN ∧
    ([(fun (i58 : Nat) => (SC.int (oldTreeLeafg0 i58))), (fun (i59 : Nat) => (SC.int (oldTreeLeafg1 i59)))] = [(fun (i60 : Nat) => (SC.int (sTreeLeafg050 i60))), (fun (i61 : Nat) => (SC.int (sTreeLeafg151 i61)))] ∧
    (oldDataO = oldDataO ∧
    (oldDataN = oldDataN ∧
    ([(fun (i62 : Nat) => (SC.int (oldDatag0 i62)))] = [(fun (i63 : Nat) => (SC.int (sDatag052 i63)))] ∧
    (oldTagsO = oldTagsO ∧
    (oldTagsN = oldTagsN ∧
    [(fun (i64 : Nat) => (SC.int (oldTagsg0 i64)))] = [(fun (i65 : Nat) => (SC.int (sTagsg053 i65)))]))))))))))) ∧
    (((!(fitsB oldDataN oldTagsN)) = Bool.true →
    (b29 = b29 ∧
     (b2 = b2 ∧
     (b2 = b2 ∧
     (Exists (fun (ro066 : (Option Addr)) => (Exists (fun (rc067 : Nat) => (Exists (fun (ro168 : (Option Addr)) => (Exists (fun (rc169 : Nat) => (Exists (fun (ro270 : (Option Addr)) => (Exists (fun (rc271 : Nat) => (Exists (fun (ro372 : (Option Addr)) => (Exists (fun (rc373 : Nat) => ((Value.agg (List.toArray [(Value.int IntKind.i64 sKey), (Value.int IntKind.i64 sTreeRoot), (Value.slice ro021 sTreeMidN rc022), (Value.slice ro123 sTreeLeafN rc124), (Value.slice ro225 sDataN rc226), (Value.slice ro327 sTagsN rc328)])) = (Value.agg (List.toArray [(Value.int IntKind.i64 sKey), (Value.int IntKind.i64 sTreeRoot), (Value.slice ro066 (selN (pOk sDataN sTagsN oldDataN oldTagsN line) oldTreeMidN sTreeMidN) rc067), (Value.slice ro168 (selN (pOk sDataN sTagsN oldDataN oldTagsN line) oldTreeLeafN sTreeLeafN) rc169), (Value.slice ro270 sDataN rc271), (Value.slice ro372 sTagsN rc373)])) ∧
     (((Bool.true = Bool.true ∧
     (ro021 = ro066 ∧
     (37 = 37 ∧
     (2 = 2 ∧
     (sTreeMidN = (selN (pOk sDataN sTagsN oldDataN oldTagsN line) oldTreeMidN sTreeMidN) ∧
     (rc022 = rc067 ∧
     ((∀ i74 : Nat,
     (i74 < sTreeMidN →
     (Value.int IntKind.i64 (sTreeMidg03 i74)) = (Value.int IntKind.i64 (selZ (pOk sDataN sTagsN oldDataN oldTagsN line) (oldTreeMidg0 i74) (sTreeMidg0 i74))))) ∧
     ((∀ i75 : Nat,
     (i75 < sTreeMidN →
     (Value.int IntKind.i64 (sTreeMidg14 i75)) = (Value.int IntKind.i64 (selZ (pOk sDataN sTagsN oldDataN oldTagsN line) (oldTreeMidg1 i75) (sTreeMidg1 i75))))) ∧
     True)))))))) ∧
     ((Bool.true = Bool.true ∧
     (ro123 = ro168 ∧
     (37 = 37 ∧
     (2 = 2 ∧
     (sTreeLeafN = (selN (pOk sDataN sTagsN oldDataN oldTagsN line) oldTreeLeafN sTreeLeafN) ∧
     (rc124 = rc169 ∧
     ((∀ i76 : Nat,
     (i76 < sTreeLeafN →
     (Value.int IntKind.i64 (sTreeLeafg05 i76)) = (Value.int IntKind.i64 (selZ (pOk sDataN sTagsN oldDataN oldTagsN line) (oldTreeLeafg0 i76) (sTreeLeafg0 i76))))) ∧
     ((∀ i77 : Nat,
     (i77 < sTreeLeafN →
     (Value.int IntKind.i64 (sTreeLeafg16 i77)) = (Value.int IntKind.i64 (selZ (pOk sDataN sTagsN oldDataN oldTagsN line) (oldTreeLeafg1 i77) (sTreeLeafg1 i77))))) ∧
     True)))))))) ∧
     ((Bool.true = Bool.true ∧
     (ro225 = ro270 ∧
     (3 = 3 ∧
     (1 = 1 ∧
     (sDataN = sDataN ∧
     (rc226 = rc271 ∧
     ((∀ i78 : Nat,
     (i78 < sDataN →
     (Value.int IntKind.i64 (sDatag07 i78)) = (Value.int IntKind.i64 (pDa (pOk sDataN sTagsN oldDataN oldTagsN line) line sDatag0 oldDatag0 i78)))) ∧
     True))))))) ∧
     ((Bool.true = Bool.true ∧
     (ro327 = ro372 ∧
     (3 = 3 ∧
     (1 = 1 ∧
     (sTagsN = sTagsN ∧
     (rc328 = rc373 ∧
     ((∀ i79 : Nat,
     (i79 < sTagsN →
     (Value.int IntKind.i64 (sTagsg08 i79)) = (Value.int IntKind.i64 (pDa (pOk sDataN sTagsN oldDataN oldTagsN line) line sTagsg0 oldTagsg0 i79)))) ∧
     True))))))) ∧
     True)))) ∧
     Bool.true = Bool.true)))))))))))))))))))))) ∧
    ((!(fitsB oldDataN oldTagsN)) = Bool.false →
    (b0 = b0 ∧
     (b1 = b1 ∧
     (Exists (fun (tMidg080 : (Nat →
     Int)) => (Exists (fun (tMidg181 : (Nat →
     Int)) => (Exists (fun (tLeafg082 : (Nat →
     Int)) => (Exists (fun (tLeafg183 : (Nat →
     Int)) => (Exists (fun (oldMidg084 : (Nat →
     Int)) => (Exists (fun (oldMidg185 : (Nat →
     Int)) => (Exists (fun (oldLeafg086 : (Nat →
     Int)) => (Exists (fun (oldLeafg187 : (Nat →
     Int)) => ((sTreeMidO = sTreeMidO ∧
     (sTreeMidN = sTreeMidN ∧
     ([(fun (i88 : Nat) => (SC.int (sTreeMidg0 i88))), (fun (i89 : Nat) => (SC.int (sTreeMidg1 i89)))] = [(fun (i90 : Nat) => (SC.int (tMidg080 i90))), (fun (i91 : Nat) => (SC.int (tMidg181 i91)))] ∧
     (sTreeLeafO = sTreeLeafO ∧
     (sTreeLeafN = sTreeLeafN ∧
     ([(fun (i92 : Nat) => (SC.int (sTreeLeafg0 i92))), (fun (i93 : Nat) => (SC.int (sTreeLeafg1 i93)))] = [(fun (i94 : Nat) => (SC.int (tLeafg082 i94))), (fun (i95 : Nat) => (SC.int (tLeafg183 i95)))] ∧
     (oldTreeMidO = oldTreeMidO ∧
     (oldTreeMidN = oldTreeMidN ∧
     ([(fun (i96 : Nat) => (SC.int (oldTreeMidg0 i96))), (fun (i97 : Nat) => (SC.int (oldTreeMidg1 i97)))] = [(fun (i98 : Nat) => (SC.int (oldMidg084 i98))), (fun (i99 : Nat) => (SC.int (oldMidg185 i99)))] ∧
     (oldTreeLeafO = oldTreeLeafO ∧
     (oldTreeLeafN = oldTreeLeafN ∧
     ([(fun (i100 : Nat) => (SC.int (oldTreeLeafg0 i100))), (fun (i101 : Nat) => (SC.int (oldTreeLeafg1 i101)))] = [(fun (i102 : Nat) => (SC.int (oldLeafg086 i102))), (fun (i103 : Nat) => (SC.int (oldLeafg187 i103)))] ∧
     ((capC oldTreeMidN) ∧
     (capC oldTreeLeafN)))))))))))))) ∧
     (∀ ro0104 : (Option Addr),
     (∀ rc0105 : Nat,
     (∀ ro1106 : (Option Addr),
     (∀ rc1107 : Nat,
     (b29 = b29 ∧
     (b29 = b29 ∧
     (b1 = b1 ∧
     (oldDataO = oldDataO ∧
     (oldDataN = oldDataN ∧
     ((0 ≤ line ∧ line < ((oldDataN : Nat) : Int)) ∧
     (oldDataO = oldDataO ∧
     ((Int.toNat line) < oldDataN ∧
     (ro225 = ro225 ∧
     (sDataN = sDataN ∧
     ((0 ≤ line ∧ line < ((sDataN : Nat) : Int)) ∧
     (ro225 = ro225 ∧
     ((Int.toNat line) < sDataN ∧
     (True ∧
     (b29 = b29 ∧
     (b1 = b1 ∧
     (oldTagsO = oldTagsO ∧
     (oldTagsN = oldTagsN ∧
     ((0 ≤ line ∧ line < ((oldTagsN : Nat) : Int)) ∧
     (oldTagsO = oldTagsO ∧
     ((Int.toNat line) < oldTagsN ∧
     (ro327 = ro327 ∧
     (sTagsN = sTagsN ∧
     ((0 ≤ line ∧ line < ((sTagsN : Nat) : Int)) ∧
     (ro327 = ro327 ∧
     ((Int.toNat line) < sTagsN ∧
     (True ∧
     (b29 = b29 ∧
     (b2 = b2 ∧
     (b2 = b2 ∧
     (Exists (fun (ro0108 : (Option Addr)) => (Exists (fun (rc0109 : Nat) => (Exists (fun (ro1110 : (Option Addr)) => (Exists (fun (rc1111 : Nat) => (Exists (fun (ro2112 : (Option Addr)) => (Exists (fun (rc2113 : Nat) => (Exists (fun (ro3114 : (Option Addr)) => (Exists (fun (rc3115 : Nat) => ((Value.agg (List.toArray [(Value.int IntKind.i64 sKey), (Value.int IntKind.i64 sTreeRoot), (Value.slice ro0104 oldTreeMidN rc0105), (Value.slice ro1106 oldTreeLeafN rc1107), (Value.slice ro225 sDataN rc226), (Value.slice ro327 sTagsN rc328)])) = (Value.agg (List.toArray [(Value.int IntKind.i64 sKey), (Value.int IntKind.i64 sTreeRoot), (Value.slice ro0108 (selN (pOk sDataN sTagsN oldDataN oldTagsN line) oldTreeMidN sTreeMidN) rc0109), (Value.slice ro1110 (selN (pOk sDataN sTagsN oldDataN oldTagsN line) oldTreeLeafN sTreeLeafN) rc1111), (Value.slice ro2112 sDataN rc2113), (Value.slice ro3114 sTagsN rc3115)])) ∧
     (((Bool.true = Bool.true ∧
     (ro0104 = ro0108 ∧
     (37 = 37 ∧
     (2 = 2 ∧
     (oldTreeMidN = (selN (pOk sDataN sTagsN oldDataN oldTagsN line) oldTreeMidN sTreeMidN) ∧
     (rc0105 = rc0109 ∧
     ((∀ i116 : Nat,
     (i116 < oldTreeMidN →
     (Value.int IntKind.i64 (oldMidg084 i116)) = (Value.int IntKind.i64 (selZ (pOk sDataN sTagsN oldDataN oldTagsN line) (oldTreeMidg0 i116) (sTreeMidg0 i116))))) ∧
     ((∀ i117 : Nat,
     (i117 < oldTreeMidN →
     (Value.int IntKind.i64 (oldMidg185 i117)) = (Value.int IntKind.i64 (selZ (pOk sDataN sTagsN oldDataN oldTagsN line) (oldTreeMidg1 i117) (sTreeMidg1 i117))))) ∧
     True)))))))) ∧
     ((Bool.true = Bool.true ∧
     (ro1106 = ro1110 ∧
     (37 = 37 ∧
     (2 = 2 ∧
     (oldTreeLeafN = (selN (pOk sDataN sTagsN oldDataN oldTagsN line) oldTreeLeafN sTreeLeafN) ∧
     (rc1107 = rc1111 ∧
     ((∀ i118 : Nat,
     (i118 < oldTreeLeafN →
     (Value.int IntKind.i64 (oldLeafg086 i118)) = (Value.int IntKind.i64 (selZ (pOk sDataN sTagsN oldDataN oldTagsN line) (oldTreeLeafg0 i118) (sTreeLeafg0 i118))))) ∧
     ((∀ i119 : Nat,
     (i119 < oldTreeLeafN →
     (Value.int IntKind.i64 (oldLeafg187 i119)) = (Value.int IntKind.i64 (selZ (pOk sDataN sTagsN oldDataN oldTagsN line) (oldTreeLeafg1 i119) (sTreeLeafg1 i119))))) ∧
     True)))))))) ∧
     ((Bool.true = Bool.true ∧
     (ro225 = ro2112 ∧
     (3 = 3 ∧
     (1 = 1 ∧
     (sDataN = sDataN ∧
     (rc226 = rc2113 ∧
     ((∀ i120 : Nat,
     (i120 < sDataN →
     (Value.int IntKind.i64 (if i120 = (Int.toNat line) then (oldDatag0 (Int.toNat line)) else (sDatag07 i120))) = (Value.int IntKind.i64 (pDa (pOk sDataN sTagsN oldDataN oldTagsN line) line sDatag0 oldDatag0 i120)))) ∧
     True))))))) ∧
     ((Bool.true = Bool.true ∧
     (ro327 = ro3114 ∧
     (3 = 3 ∧
     (1 = 1 ∧
     (sTagsN = sTagsN ∧
     (rc328 = rc3115 ∧
     ((∀ i121 : Nat,
     (i121 < sTagsN →
     (Value.int IntKind.i64 (if i121 = (Int.toNat line) then (oldTagsg0 (Int.toNat line)) else (sTagsg08 i121))) = (Value.int IntKind.i64 (pDa (pOk sDataN sTagsN oldDataN oldTagsN line) line sTagsg0 oldTagsg0 i121)))) ∧
     True))))))) ∧
     True)))) ∧
     Bool.true = Bool.true)))))))))))))))))))))))))))))))))))))))))))))))))))))))))))))))))))))))))))))))))))))))) ∧
   ((!(fitsB sDataN sTagsN)) = Bool.true →
   (b29 = b29 ∧
    (b2 = b2 ∧
    (b2 = b2 ∧
    (Exists (fun (ro0122 : (Option Addr)) => (Exists (fun (rc0123 : Nat) => (Exists (fun (ro1124 : (Option Addr)) => (Exists (fun (rc1125 : Nat) => (Exists (fun (ro2126 : (Option Addr)) => (Exists (fun (rc2127 : Nat) => (Exists (fun (ro3128 : (Option Addr)) => (Exists (fun (rc3129 : Nat) => ((Value.agg (List.toArray [(Value.int IntKind.i64 sKey), (Value.int IntKind.i64 sTreeRoot), (Value.slice ro021 sTreeMidN rc022), (Value.slice ro123 sTreeLeafN rc124), (Value.slice ro225 sDataN rc226), (Value.slice ro327 sTagsN rc328)])) = (Value.agg (List.toArray [(Value.int IntKind.i64 sKey), (Value.int IntKind.i64 sTreeRoot), (Value.slice ro0122 (selN (pOk sDataN sTagsN oldDataN oldTagsN line) oldTreeMidN sTreeMidN) rc0123), (Value.slice ro1124 (selN (pOk sDataN sTagsN oldDataN oldTagsN line) oldTreeLeafN sTreeLeafN) rc1125), (Value.slice ro2126 sDataN rc2127), (Value.slice ro3128 sTagsN rc3129)])) ∧
    (((Bool.true = Bool.true ∧
    (ro021 = ro0122 ∧
    (37 = 37 ∧
    (2 = 2 ∧
    (sTreeMidN = (selN (pOk sDataN sTagsN oldDataN oldTagsN line) oldTreeMidN sTreeMidN) ∧
    (rc022 = rc0123 ∧
    ((∀ i130 : Nat,
    (i130 < sTreeMidN →
    (Value.int IntKind.i64 (sTreeMidg03 i130)) = (Value.int IntKind.i64 (selZ (pOk sDataN sTagsN oldDataN oldTagsN line) (oldTreeMidg0 i130) (sTreeMidg0 i130))))) ∧
    ((∀ i131 : Nat,
    (i131 < sTreeMidN →
    (Value.int IntKind.i64 (sTreeMidg14 i131)) = (Value.int IntKind.i64 (selZ (pOk sDataN sTagsN oldDataN oldTagsN line) (oldTreeMidg1 i131) (sTreeMidg1 i131))))) ∧
    True)))))))) ∧
    ((Bool.true = Bool.true ∧
    (ro123 = ro1124 ∧
    (37 = 37 ∧
    (2 = 2 ∧
    (sTreeLeafN = (selN (pOk sDataN sTagsN oldDataN oldTagsN line) oldTreeLeafN sTreeLeafN) ∧
    (rc124 = rc1125 ∧
    ((∀ i132 : Nat,
    (i132 < sTreeLeafN →
    (Value.int IntKind.i64 (sTreeLeafg05 i132)) = (Value.int IntKind.i64 (selZ (pOk sDataN sTagsN oldDataN oldTagsN line) (oldTreeLeafg0 i132) (sTreeLeafg0 i132))))) ∧
    ((∀ i133 : Nat,
    (i133 < sTreeLeafN →
    (Value.int IntKind.i64 (sTreeLeafg16 i133)) = (Value.int IntKind.i64 (selZ (pOk sDataN sTagsN oldDataN oldTagsN line) (oldTreeLeafg1 i133) (sTreeLeafg1 i133))))) ∧
    True)))))))) ∧
    ((Bool.true = Bool.true ∧
    (ro225 = ro2126 ∧
    (3 = 3 ∧
    (1 = 1 ∧
    (sDataN = sDataN ∧
    (rc226 = rc2127 ∧
    ((∀ i134 : Nat,
    (i134 < sDataN →
    (Value.int IntKind.i64 (sDatag07 i134)) = (Value.int IntKind.i64 (pDa (pOk sDataN sTagsN oldDataN oldTagsN line) line sDatag0 oldDatag0 i134)))) ∧
    True))))))) ∧
    ((Bool.true = Bool.true ∧
    (ro327 = ro3128 ∧
    (3 = 3 ∧
    (1 = 1 ∧
    (sTagsN = sTagsN ∧
    (rc328 = rc3129 ∧
    ((∀ i135 : Nat,
    (i135 < sTagsN →
    (Value.int IntKind.i64 (sTagsg08 i135)) = (Value.int IntKind.i64 (pDa (pOk sDataN sTagsN oldDataN oldTagsN line) line sTagsg0 oldTagsg0 i135)))) ∧
    True))))))) ∧
    True)))) ∧
    Bool.true = Bool.true)))))))))))))))))))))))))))))))))))))) ∧
  ((!(btw line (0 : Int) (7 : Int))) = Bool.true →
  (b29 = b29 ∧
   (b2 = b2 ∧
   (b2 = b2 ∧
   (Exists (fun (ro0136 : (Option Addr)) => (Exists (fun (rc0137 : Nat) => (Exists (fun (ro1138 : (Option Addr)) => (Exists (fun (rc1139 : Nat) => (Exists (fun (ro2140 : (Option Addr)) => (Exists (fun (rc2141 : Nat) => (Exists (fun (ro3142 : (Option Addr)) => (Exists (fun (rc3143 : Nat) => ((Value.agg (List.toArray [(Value.int IntKind.i64 sKey), (Value.int IntKind.i64 sTreeRoot), (Value.slice ro021 sTreeMidN rc022), (Value.slice ro123 sTreeLeafN rc124), (Value.slice ro225 sDataN rc226), (Value.slice ro327 sTagsN rc328)])) = (Value.agg (List.toArray [(Value.int IntKind.i64 sKey), (Value.int IntKind.i64 sTreeRoot), (Value.slice ro0136 (selN (pOk sDataN sTagsN oldDataN oldTagsN line) oldTreeMidN sTreeMidN) rc0137), (Value.slice ro1138 (selN (pOk sDataN sTagsN oldDataN oldTagsN line) oldTreeLeafN sTreeLeafN) rc1139), (Value.slice ro2140 sDataN rc2141), (Value.slice ro3142 sTagsN rc3143)])) ∧
   (((Bool.true = Bool.true ∧
   (ro021 = ro0136 ∧
   (37 = 37 ∧
   (2 = 2 ∧
   (sTreeMidN = (selN (pOk sDataN sTagsN oldDataN oldTagsN line) oldTreeMidN sTreeMidN) ∧
   (rc022 = rc0137 ∧
   ((∀ i144 : Nat,
   (i144 < sTreeMidN →
   (Value.int IntKind.i64 (sTreeMidg03 i144)) = (Value.int IntKind.i64 (selZ (pOk sDataN sTagsN oldDataN oldTagsN line) (oldTreeMidg0 i144) (sTreeMidg0 i144))))) ∧
   ((∀ i145 : Nat,
   (i145 < sTreeMidN →
   (Value.int IntKind.i64 (sTreeMidg14 i145)) = (Value.int IntKind.i64 (selZ (pOk sDataN sTagsN oldDataN oldTagsN line) (oldTreeMidg1 i145) (sTreeMidg1 i145))))) ∧
   True)))))))) ∧
   ((Bool.true = Bool.true ∧
   (ro123 = ro1138 ∧
   (37 = 37 ∧
   (2 = 2 ∧
   (sTreeLeafN = (selN (pOk sDataN sTagsN oldDataN oldTagsN line) oldTreeLeafN sTreeLeafN) ∧
   (rc124 = rc1139 ∧
   ((∀ i146 : Nat,
   (i146 < sTreeLeafN →
   (Value.int IntKind.i64 (sTreeLeafg05 i146)) = (Value.int IntKind.i64 (selZ (pOk sDataN sTagsN oldDataN oldTagsN line) (oldTreeLeafg0 i146) (sTreeLeafg0 i146))))) ∧
   ((∀ i147 : Nat,
   (i147 < sTreeLeafN →
   (Value.int IntKind.i64 (sTreeLeafg16 i147)) = (Value.int IntKind.i64 (selZ (pOk sDataN sTagsN oldDataN oldTagsN line) (oldTreeLeafg1 i147) (sTreeLeafg1 i147))))) ∧
   True)))))))) ∧
   ((Bool.true = Bool.true ∧
   (ro225 = ro2140 ∧
   (3 = 3 ∧
   (1 = 1 ∧
   (sDataN = sDataN ∧
   (rc226 = rc2141 ∧
   ((∀ i148 : Nat,
   (i148 < sDataN →
   (Value.int IntKind.i64 (sDatag07 i148)) = (Value.int IntKind.i64 (pDa (pOk sDataN sTagsN oldDataN oldTagsN line) line sDatag0 oldDatag0 i148)))) ∧
   True))))))) ∧
   ((Bool.true = Bool.true ∧
   (ro327 = ro3142 ∧
   (3 = 3 ∧
   (1 = 1 ∧
   (sTagsN = sTagsN ∧
   (rc328 = rc3143 ∧
   ((∀ i149 : Nat,
   (i149 < sTagsN →
   (Value.int IntKind.i64 (sTagsg08 i149)) = (Value.int IntKind.i64 (pDa (pOk sDataN sTagsN oldDataN oldTagsN line) line sTagsg0 oldTagsg0 i149)))) ∧
   True))))))) ∧
   True)))) ∧
   Bool.true = Bool.true))))))))))))))))))))))))))))))))))))))))))))))))))) := by kernel_rfl
theorem srepI_any (sKey : Int) (sTreeRoot : Int) (sTreeMidO : Option Addr) (sTreeMidN sTreeMidC : Nat) (sTreeMidg0 sTreeMidg1 : Nat → Int) (sTreeLeafO : Option Addr) (sTreeLeafN sTreeLeafC : Nat) (sTreeLeafg0 sTreeLeafg1 : Nat → Int) (sDataO : Option Addr) (sDataN sDataC : Nat) (sDatag0 : Nat → Int) (sTagsO : Option Addr) (sTagsN sTagsC : Nat) (sTagsg0 : Nat → Int) (oldKey : Int) (oldTreeRoot : Int) (oldTreeMidO : Option Addr) (oldTreeMidN oldTreeMidC : Nat) (oldTreeMidg0 oldTreeMidg1 : Nat → Int) (oldTreeLeafO : Option Addr) (oldTreeLeafN oldTreeLeafC : Nat) (oldTreeLeafg0 oldTreeLeafg1 : Nat → Int) (oldDataO : Option Addr) (oldDataN oldDataC : Nat) (oldDatag0 : Nat → Int) (oldTagsO : Option Addr) (oldTagsN oldTagsC : Nat) (oldTagsg0 : Nat → Int) (line : Int) (w : World) (hrsTreeMid : Row.sat w ⟨false, sTreeMidO, 0, 2, sTreeMidN, 0, [fun i => .int (sTreeMidg0 i), fun i => .int (sTreeMidg1 i)]⟩) (hrsTreeLeaf : Row.sat w ⟨false, sTreeLeafO, 0, 2, sTreeLeafN, 0, [fun i => .int (sTreeLeafg0 i), fun i => .int (sTreeLeafg1 i)]⟩) (hrsData : Row.sat w ⟨false, sDataO, 0, 1, sDataN, 0, [fun i => .int (sDatag0 i)]⟩) (hrsTags : Row.sat w ⟨false, sTagsO, 0, 1, sTagsN, 0, [fun i => .int (sTagsg0 i)]⟩) (hroldTreeMid : Row.sat w ⟨false, oldTreeMidO, 0, 2, oldTreeMidN, 0, [fun i => .int (oldTreeMidg0 i), fun i => .int (oldTreeMidg1 i)]⟩) (hroldTreeLeaf : Row.sat w ⟨false, oldTreeLeafO, 0, 2, oldTreeLeafN, 0, [fun i => .int (oldTreeLeafg0 i), fun i => .int (oldTreeLeafg1 i)]⟩) (hroldData : Row.sat w ⟨false, oldDataO, 0, 1, oldDataN, 0, [fun i => .int (oldDatag0 i)]⟩) (hroldTags : Row.sat w ⟨false, oldTagsO, 0, 1, oldTagsN, 0, [fun i => .int (oldTagsg0 i)]⟩) (hpre : capC sTreeMidN ∧ capC sTreeLeafN ∧ capC sDataN ∧ capC sTagsN ∧ capC oldTreeMidN ∧ capC oldTreeLeafN ∧ capC oldDataN ∧ capC oldTagsN) : Calls Try.prog 23 #[.agg #[.int .i64 sKey, .int .i64 sTreeRoot, .slice sTreeMidO sTreeMidN sTreeMidC, .slice sTreeLeafO sTreeLeafN sTreeLeafC, .slice sDataO sDataN sDataC, .slice sTagsO sTagsN sTagsC], .agg #[.int .i64 oldKey, .int .i64 oldTreeRoot, .slice oldTreeMidO oldTreeMidN oldTreeMidC, .slice oldTreeLeafO oldTreeLeafN oldTreeLeafC, .slice oldDataO oldDataN oldDataC, .slice oldTagsO oldTagsN oldTagsC], .int .i64 line] w fun e w' => ∃ (ro0 : Option Addr) (rc0 : Nat) (ro1 : Option Addr) (rc1 : Nat) (ro2 : Option Addr) (rc2 : Nat) (ro3 : Option Addr) (rc3 : Nat), e = .returned (.agg #[.int .i64 (sKey), .int .i64 (sTreeRoot), .slice ro0 (selN (pOk sDataN sTagsN oldDataN oldTagsN line) oldTreeMidN sTreeMidN) rc0, .slice ro1 (selN (pOk sDataN sTagsN oldDataN oldTagsN line) oldTreeLeafN sTreeLeafN) rc1, .slice ro2 (sDataN) rc2, .slice ro3 (sTagsN) rc3]) ∧ HS ⟨w, fun _ => False⟩ [.row ⟨true, ro0, 37, 2, selN (pOk sDataN sTagsN oldDataN oldTagsN line) oldTreeMidN sTreeMidN, rc0, [fun i => .int (selZ (pOk sDataN sTagsN oldDataN oldTagsN line) (oldTreeMidg0 i) (sTreeMidg0 i)), fun i => .int (selZ (pOk sDataN sTagsN oldDataN oldTagsN line) (oldTreeMidg1 i) (sTreeMidg1 i))]⟩, .row ⟨true, ro1, 37, 2, selN (pOk sDataN sTagsN oldDataN oldTagsN line) oldTreeLeafN sTreeLeafN, rc1, [fun i => .int (selZ (pOk sDataN sTagsN oldDataN oldTagsN line) (oldTreeLeafg0 i) (sTreeLeafg0 i)), fun i => .int (selZ (pOk sDataN sTagsN oldDataN oldTagsN line) (oldTreeLeafg1 i) (sTreeLeafg1 i))]⟩, .row ⟨true, ro2, 3, 1, sDataN, rc2, [fun i => .int (pDa (pOk sDataN sTagsN oldDataN oldTagsN line) line sDatag0 oldDatag0 i)]⟩, .row ⟨true, ro3, 3, 1, sTagsN, rc3, [fun i => .int (pDa (pOk sDataN sTagsN oldDataN oldTagsN line) line sTagsg0 oldTagsg0 i)]⟩] w' := by
  refine fnB (tb := [(43, sCopyS), (33, sBtw), (45, sFits), (17, sWith)]) ⟨sCopyS_ok_copySI, sBtwI_ok, sFits_ok_fitsI, sWith_ok_withI, trivial⟩ Try.func23 (@Eq.mpr _ _ (srepI_T sKey sTreeRoot sTreeMidO sTreeMidN sTreeMidC sTreeMidg0 sTreeMidg1 sTreeLeafO sTreeLeafN sTreeLeafC sTreeLeafg0 sTreeLeafg1 sDataO sDataN sDataC sDatag0 sTagsO sTagsN sTagsC sTagsg0 oldKey oldTreeRoot oldTreeMidO oldTreeMidN oldTreeMidC oldTreeMidg0 oldTreeMidg1 oldTreeLeafO oldTreeLeafN oldTreeLeafC oldTreeLeafg0 oldTreeLeafg1 oldDataO oldDataN oldDataC oldDatag0 oldTagsO oldTagsN oldTagsC oldTagsg0 line) ?_) (HS.rows (fun _ => False) [⟨false, sTreeMidO, 0, 2, sTreeMidN, 0, [fun i => .int (sTreeMidg0 i), fun i => .int (sTreeMidg1 i)]⟩, ⟨false, sTreeLeafO, 0, 2, sTreeLeafN, 0, [fun i => .int (sTreeLeafg0 i), fun i => .int (sTreeLeafg1 i)]⟩, ⟨false, sDataO, 0, 1, sDataN, 0, [fun i => .int (sDatag0 i)]⟩, ⟨false, sTagsO, 0, 1, sTagsN, 0, [fun i => .int (sTagsg0 i)]⟩, ⟨false, oldTreeMidO, 0, 2, oldTreeMidN, 0, [fun i => .int (oldTreeMidg0 i), fun i => .int (oldTreeMidg1 i)]⟩, ⟨false, oldTreeLeafO, 0, 2, oldTreeLeafN, 0, [fun i => .int (oldTreeLeafg0 i), fun i => .int (oldTreeLeafg1 i)]⟩, ⟨false, oldDataO, 0, 1, oldDataN, 0, [fun i => .int (oldDatag0 i)]⟩, ⟨false, oldTagsO, 0, 1, oldTagsN, 0, [fun i => .int (oldTagsg0 i)]⟩] (by simp; exact ⟨hrsTreeMid, hrsTreeLeaf, hrsData, hrsTags, hroldTreeMid, hroldTreeLeaf, hroldData, hroldTags⟩)) (fun v ch' w' ⟨ro0, rc0, ro1, rc1, ro2, rc2, ro3, rc3, hk⟩ hs => ⟨ro0, rc0, ro1, rc1, ro2, rc2, ro3, rc3, by rw [hk.1], hk.hs hs⟩)
  clear hrsTreeMid hrsTreeLeaf hrsData hrsTags hroldTreeMid hroldTreeLeaf hroldData hroldTags
  cases hb : btw line 0 7 <;> cases hf : fitsB sDataN sTagsN <;> cases hg : fitsB oldDataN oldTagsN
  case true.true.true =>
    have hl := btw_facts hb
    obtain ⟨hdn, htn⟩ := fits_facts hf
    obtain ⟨hdm, htm⟩ := fits_facts hg
    have hok : pOk sDataN sTagsN oldDataN oldTagsN line = true := by simp [pOk, hb, hf, hg]
    repeat' (first
      | with_reducible exact rfl
      | exact True.intro
      | assumption
      | refine And.intro ?_ ?_
      | apply Exists.intro
      | (intro h; exfalso; simp [hb, hf, hg] at h; done)
      | (intro h; exfalso; simp [hb, hf, hg] at h; omega)
      | intro _
      | omega
      | (simp; omega))
    all_goals first
      | (simp [selZ, selN, pDa, hok]; done)
      | (intros; simp [selZ, selN, pDa, hok]; intros; simp_all; done)
  all_goals
    have hok : pOk sDataN sTagsN oldDataN oldTagsN line = false := by simp [pOk, hb, hf, hg]
    repeat' (first
      | with_reducible exact rfl
      | exact True.intro
      | assumption
      | refine And.intro ?_ ?_
      | apply Exists.intro
      | (intro h; exfalso; simp [hb, hf, hg] at h; done)
      | (intro h; exfalso; simp [hb, hf, hg] at h; omega)
      | intro _
      | omega
      | (simp; omega))
    all_goals simp [selZ, selN, pDa, hok]
def sSRep : Sm := fun args ch kk =>
  match args with
  | [.a (.agg [c0, c1, .sl i0 a0 n0 d0, .sl i1 a1 n1 d1, .sl i2 a2 n2 d2, .sl i3 a3 n3 d3]), .a (.agg [c2, c3, .sl i4 a4 n4 d4, .sl i5 a5 n5 d5, .sl i6 a6 n6 d6, .sl i7 a7 n7 d7]), .a (.c c4)] =>
    match ch[i0]?, ch[i1]?, ch[i2]?, ch[i3]?, ch[i4]?, ch[i5]?, ch[i6]?, ch[i7]?, ints [c0, c1, c2, c3, c4] with
    | some (.row r0), some (.row r1), some (.row r2), some (.row r3), some (.row r4), some (.row r5), some (.row r6), some (.row r7), some [sKey, sTreeRoot, oldKey, oldTreeRoot, line] => ∃ sTreeMidg0 sTreeMidg1 sTreeLeafg0 sTreeLeafg1 sDatag0 sTagsg0 oldTreeMidg0 oldTreeMidg1 oldTreeLeafg0 oldTreeLeafg1 oldDatag0 oldTagsg0 : Nat → Int, (a0 = r0.ao ∧ n0 = r0.n ∧ r0.fld = [fun i => .int (sTreeMidg0 i), fun i => .int (sTreeMidg1 i)] ∧ a1 = r1.ao ∧ n1 = r1.n ∧ r1.fld = [fun i => .int (sTreeLeafg0 i), fun i => .int (sTreeLeafg1 i)] ∧ a2 = r2.ao ∧ n2 = r2.n ∧ r2.fld = [fun i => .int (sDatag0 i)] ∧ a3 = r3.ao ∧ n3 = r3.n ∧ r3.fld = [fun i => .int (sTagsg0 i)] ∧ a4 = r4.ao ∧ n4 = r4.n ∧ r4.fld = [fun i => .int (oldTreeMidg0 i), fun i => .int (oldTreeMidg1 i)] ∧ a5 = r5.ao ∧ n5 = r5.n ∧ r5.fld = [fun i => .int (oldTreeLeafg0 i), fun i => .int (oldTreeLeafg1 i)] ∧ a6 = r6.ao ∧ n6 = r6.n ∧ r6.fld = [fun i => .int (oldDatag0 i)] ∧ a7 = r7.ao ∧ n7 = r7.n ∧ r7.fld = [fun i => .int (oldTagsg0 i)] ∧ capC n0 ∧ capC n1 ∧ capC n2 ∧ capC n3 ∧ capC n4 ∧ capC n5 ∧ capC n6 ∧ capC n7) ∧ ∀ (ro0 : Option Addr) (rc0 : Nat), ∀ (ro1 : Option Addr) (rc1 : Nat), ∀ (ro2 : Option Addr) (rc2 : Nat), ∀ (ro3 : Option Addr) (rc3 : Nat), kk (.a (.agg [.int (sKey), .int (sTreeRoot), .sl (ch.length) ro0 (selN (pOk n2 n3 n6 n7 line) n4 n0) rc0, .sl (ch.length + 1) ro1 (selN (pOk n2 n3 n6 n7 line) n5 n1) rc1, .sl (ch.length + 2) ro2 (n2) rc2, .sl (ch.length + 3) ro3 (n3) rc3])) (ch ++ [.row ⟨true, ro0, 37, 2, selN (pOk n2 n3 n6 n7 line) n4 n0, rc0, [fun i => .int (selZ (pOk n2 n3 n6 n7 line) (oldTreeMidg0 i) (sTreeMidg0 i)), fun i => .int (selZ (pOk n2 n3 n6 n7 line) (oldTreeMidg1 i) (sTreeMidg1 i))]⟩, .row ⟨true, ro1, 37, 2, selN (pOk n2 n3 n6 n7 line) n5 n1, rc1, [fun i => .int (selZ (pOk n2 n3 n6 n7 line) (oldTreeLeafg0 i) (sTreeLeafg0 i)), fun i => .int (selZ (pOk n2 n3 n6 n7 line) (oldTreeLeafg1 i) (sTreeLeafg1 i))]⟩, .row ⟨true, ro2, 3, 1, n2, rc2, [fun i => .int (pDa (pOk n2 n3 n6 n7 line) line sDatag0 oldDatag0 i)]⟩, .row ⟨true, ro3, 3, 1, n3, rc3, [fun i => .int (pDa (pOk n2 n3 n6 n7 line) line sTagsg0 oldTagsg0 i)]⟩]) []
    | _, _, _, _, _, _, _, _, _ => False
  | _ => False
theorem sSRep_ok {f : FuncId} (hc : ∀ args w, (callFunc f args).run Try.prog w = .ok (.enter f args) w) (h : ∀ (sKey : Int) (sTreeRoot : Int) (sTreeMidO : Option Addr) (sTreeMidN sTreeMidC : Nat) (sTreeMidg0 sTreeMidg1 : Nat → Int) (sTreeLeafO : Option Addr) (sTreeLeafN sTreeLeafC : Nat) (sTreeLeafg0 sTreeLeafg1 : Nat → Int) (sDataO : Option Addr) (sDataN sDataC : Nat) (sDatag0 : Nat → Int) (sTagsO : Option Addr) (sTagsN sTagsC : Nat) (sTagsg0 : Nat → Int) (oldKey : Int) (oldTreeRoot : Int) (oldTreeMidO : Option Addr) (oldTreeMidN oldTreeMidC : Nat) (oldTreeMidg0 oldTreeMidg1 : Nat → Int) (oldTreeLeafO : Option Addr) (oldTreeLeafN oldTreeLeafC : Nat) (oldTreeLeafg0 oldTreeLeafg1 : Nat → Int) (oldDataO : Option Addr) (oldDataN oldDataC : Nat) (oldDatag0 : Nat → Int) (oldTagsO : Option Addr) (oldTagsN oldTagsC : Nat) (oldTagsg0 : Nat → Int) (line : Int) (w : World), Row.sat w ⟨false, sTreeMidO, 0, 2, sTreeMidN, 0, [fun i => .int (sTreeMidg0 i), fun i => .int (sTreeMidg1 i)]⟩ → Row.sat w ⟨false, sTreeLeafO, 0, 2, sTreeLeafN, 0, [fun i => .int (sTreeLeafg0 i), fun i => .int (sTreeLeafg1 i)]⟩ → Row.sat w ⟨false, sDataO, 0, 1, sDataN, 0, [fun i => .int (sDatag0 i)]⟩ → Row.sat w ⟨false, sTagsO, 0, 1, sTagsN, 0, [fun i => .int (sTagsg0 i)]⟩ → Row.sat w ⟨false, oldTreeMidO, 0, 2, oldTreeMidN, 0, [fun i => .int (oldTreeMidg0 i), fun i => .int (oldTreeMidg1 i)]⟩ → Row.sat w ⟨false, oldTreeLeafO, 0, 2, oldTreeLeafN, 0, [fun i => .int (oldTreeLeafg0 i), fun i => .int (oldTreeLeafg1 i)]⟩ → Row.sat w ⟨false, oldDataO, 0, 1, oldDataN, 0, [fun i => .int (oldDatag0 i)]⟩ → Row.sat w ⟨false, oldTagsO, 0, 1, oldTagsN, 0, [fun i => .int (oldTagsg0 i)]⟩ → capC sTreeMidN ∧ capC sTreeLeafN ∧ capC sDataN ∧ capC sTagsN ∧ capC oldTreeMidN ∧ capC oldTreeLeafN ∧ capC oldDataN ∧ capC oldTagsN → Calls Try.prog f #[.agg #[.int .i64 sKey, .int .i64 sTreeRoot, .slice sTreeMidO sTreeMidN sTreeMidC, .slice sTreeLeafO sTreeLeafN sTreeLeafC, .slice sDataO sDataN sDataC, .slice sTagsO sTagsN sTagsC], .agg #[.int .i64 oldKey, .int .i64 oldTreeRoot, .slice oldTreeMidO oldTreeMidN oldTreeMidC, .slice oldTreeLeafO oldTreeLeafN oldTreeLeafC, .slice oldDataO oldDataN oldDataC, .slice oldTagsO oldTagsN oldTagsC], .int .i64 line] w fun e w' => ∃ (ro0 : Option Addr) (rc0 : Nat) (ro1 : Option Addr) (rc1 : Nat) (ro2 : Option Addr) (rc2 : Nat) (ro3 : Option Addr) (rc3 : Nat), e = .returned (.agg #[.int .i64 (sKey), .int .i64 (sTreeRoot), .slice ro0 (selN (pOk sDataN sTagsN oldDataN oldTagsN line) oldTreeMidN sTreeMidN) rc0, .slice ro1 (selN (pOk sDataN sTagsN oldDataN oldTagsN line) oldTreeLeafN sTreeLeafN) rc1, .slice ro2 (sDataN) rc2, .slice ro3 (sTagsN) rc3]) ∧ HS ⟨w, fun _ => False⟩ [.row ⟨true, ro0, 37, 2, selN (pOk sDataN sTagsN oldDataN oldTagsN line) oldTreeMidN sTreeMidN, rc0, [fun i => .int (selZ (pOk sDataN sTagsN oldDataN oldTagsN line) (oldTreeMidg0 i) (sTreeMidg0 i)), fun i => .int (selZ (pOk sDataN sTagsN oldDataN oldTagsN line) (oldTreeMidg1 i) (sTreeMidg1 i))]⟩, .row ⟨true, ro1, 37, 2, selN (pOk sDataN sTagsN oldDataN oldTagsN line) oldTreeLeafN sTreeLeafN, rc1, [fun i => .int (selZ (pOk sDataN sTagsN oldDataN oldTagsN line) (oldTreeLeafg0 i) (sTreeLeafg0 i)), fun i => .int (selZ (pOk sDataN sTagsN oldDataN oldTagsN line) (oldTreeLeafg1 i) (sTreeLeafg1 i))]⟩, .row ⟨true, ro2, 3, 1, sDataN, rc2, [fun i => .int (pDa (pOk sDataN sTagsN oldDataN oldTagsN line) line sDatag0 oldDatag0 i)]⟩, .row ⟨true, ro3, 3, 1, sTagsN, rc3, [fun i => .int (pDa (pOk sDataN sTagsN oldDataN oldTagsN line) line sTagsg0 oldTagsg0 i)]⟩] w') : SmOK Try.prog f sSRep := by
  refine smN hc fun args ch kk w X h0 hs => ?_
  unfold sSRep at h0
  split at h0
  · rename_i c0 c1 i0 a0 n0 d0 i1 a1 n1 d1 i2 a2 n2 d2 i3 a3 n3 d3 c2 c3 i4 a4 n4 d4 i5 a5 n5 d5 i6 a6 n6 d6 i7 a7 n7 d7 c4
    split at h0
    · rename_i r0 r1 r2 r3 r4 r5 r6 r7 sKey sTreeRoot oldKey oldTreeRoot line hr0 hr1 hr2 hr3 hr4 hr5 hr6 hr7 hi
      obtain ⟨sTreeMidg0, sTreeMidg1, sTreeLeafg0, sTreeLeafg1, sDatag0, sTagsg0, oldTreeMidg0, oldTreeMidg1, oldTreeLeafg0, oldTreeLeafg1, oldDatag0, oldTagsg0, ⟨rfl, rfl, hf0, rfl, rfl, hf1, rfl, rfl, hf2, rfl, rfl, hf3, rfl, rfl, hf4, rfl, rfl, hf5, rfl, rfl, hf6, rfl, rfl, hf7, hpre⟩, h0⟩ := h0
      obtain ⟨ec0, hi⟩ := ints_cons hi
      obtain ⟨ec1, hi⟩ := ints_cons hi
      obtain ⟨ec2, hi⟩ := ints_cons hi
      obtain ⟨ec3, hi⟩ := ints_cons hi
      obtain ⟨ec4, hi⟩ := ints_cons hi
      refine Calls.mono (?_ : Calls Try.prog f _ w (fun e w' => ∃ (ro0 : Option Addr) (rc0 : Nat) (ro1 : Option Addr) (rc1 : Nat) (ro2 : Option Addr) (rc2 : Nat) (ro3 : Option Addr) (rc3 : Nat), e = .returned (.agg #[.int .i64 (sKey), .int .i64 (sTreeRoot), .slice ro0 (selN (pOk r2.n r3.n r6.n r7.n line) r4.n r0.n) rc0, .slice ro1 (selN (pOk r2.n r3.n r6.n r7.n line) r5.n r1.n) rc1, .slice ro2 (r2.n) rc2, .slice ro3 (r3.n) rc3]) ∧ HS ⟨w, fun _ => False⟩ [.row ⟨true, ro0, 37, 2, selN (pOk r2.n r3.n r6.n r7.n line) r4.n r0.n, rc0, [fun i => .int (selZ (pOk r2.n r3.n r6.n r7.n line) (oldTreeMidg0 i) (sTreeMidg0 i)), fun i => .int (selZ (pOk r2.n r3.n r6.n r7.n line) (oldTreeMidg1 i) (sTreeMidg1 i))]⟩, .row ⟨true, ro1, 37, 2, selN (pOk r2.n r3.n r6.n r7.n line) r5.n r1.n, rc1, [fun i => .int (selZ (pOk r2.n r3.n r6.n r7.n line) (oldTreeLeafg0 i) (sTreeLeafg0 i)), fun i => .int (selZ (pOk r2.n r3.n r6.n r7.n line) (oldTreeLeafg1 i) (sTreeLeafg1 i))]⟩, .row ⟨true, ro2, 3, 1, r2.n, rc2, [fun i => .int (pDa (pOk r2.n r3.n r6.n r7.n line) line sDatag0 oldDatag0 i)]⟩, .row ⟨true, ro3, 3, 1, r3.n, rc3, [fun i => .int (pDa (pOk r2.n r3.n r6.n r7.n line) line sTagsg0 oldTagsg0 i)]⟩] w')) (fun e w' ⟨ro0, rc0, ro1, rc1, ro2, rc2, ro3, rc3, he, hs'⟩ => ⟨_, _, ?_, hs', rfl, h0 ro0 rc0 ro1 rc1 ro2 rc2 ro3 rc3⟩)
      · simp only [List.map_cons, List.map_nil, den_a, den_c, SA.den, den_sl, ec0, ec1, ec2, ec3, ec4]
        exact h sKey sTreeRoot r0.ao r0.n d0 sTreeMidg0 sTreeMidg1 r1.ao r1.n d1 sTreeLeafg0 sTreeLeafg1 r2.ao r2.n d2 sDatag0 r3.ao r3.n d3 sTagsg0 oldKey oldTreeRoot r4.ao r4.n d4 oldTreeMidg0 oldTreeMidg1 r5.ao r5.n d5 oldTreeLeafg0 oldTreeLeafg1 r6.ao r6.n d6 oldDatag0 r7.ao r7.n d7 oldTagsg0 line w (Row.seenAs (hs.sat i0 _ hr0) hf0 rfl) (Row.seenAs (hs.sat i1 _ hr1) hf1 rfl) (Row.seenAs (hs.sat i2 _ hr2) hf2 rfl) (Row.seenAs (hs.sat i3 _ hr3) hf3 rfl) (Row.seenAs (hs.sat i4 _ hr4) hf4 rfl) (Row.seenAs (hs.sat i5 _ hr5) hf5 rfl) (Row.seenAs (hs.sat i6 _ hr6) hf6 rfl) (Row.seenAs (hs.sat i7 _ hr7) hf7 rfl) hpre
      · rw [he]
        rfl
    · exact h0.elim
  · exact h0.elim
theorem sSRep_ok_srepI : SmOK Try.prog 23 sSRep := sSRep_ok Try.call23 (fun sKey sTreeRoot sTreeMidO sTreeMidN sTreeMidC sTreeMidg0 sTreeMidg1 sTreeLeafO sTreeLeafN sTreeLeafC sTreeLeafg0 sTreeLeafg1 sDataO sDataN sDataC sDatag0 sTagsO sTagsN sTagsC sTagsg0 oldKey oldTreeRoot oldTreeMidO oldTreeMidN oldTreeMidC oldTreeMidg0 oldTreeMidg1 oldTreeLeafO oldTreeLeafN oldTreeLeafC oldTreeLeafg0 oldTreeLeafg1 oldDataO oldDataN oldDataC oldDatag0 oldTagsO oldTagsN oldTagsC oldTagsg0 line w h0 h1 h2 h3 h4 h5 h6 h7 hp => srepI_any sKey sTreeRoot sTreeMidO sTreeMidN sTreeMidC sTreeMidg0 sTreeMidg1 sTreeLeafO sTreeLeafN sTreeLeafC sTreeLeafg0 sTreeLeafg1 sDataO sDataN sDataC sDatag0 sTagsO sTagsN sTagsC sTagsg0 oldKey oldTreeRoot oldTreeMidO oldTreeMidN oldTreeMidC oldTreeMidg0 oldTreeMidg1 oldTreeLeafO oldTreeLeafN oldTreeLeafC oldTreeLeafg0 oldTreeLeafg1 oldDataO oldDataN oldDataC oldDatag0 oldTagsO oldTagsN oldTagsC oldTagsg0 line w h0 h1 h2 h3 h4 h5 h6 h7 hp)
end Go.Proofs.Ytppeocfcdeiemaa

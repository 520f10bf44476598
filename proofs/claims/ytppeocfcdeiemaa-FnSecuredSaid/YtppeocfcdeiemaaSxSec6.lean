/-
  Secured lines: tampered with.
-/
import Derived.Test.YtppeocfcdeiemaaSxSec1
namespace Go.Proofs.Ytppeocfcdeiemaa
set_option linter.unusedVariables false
set_option linter.unusedSimpArgs false
open Go.RowKit
set_option maxRecDepth 100000
set_option maxHeartbeats 8000000

def iAreWords : Sm := inlM Try.prog {tb := [(29, sIsW)]} 300 Try.f44
theorem iAreWords_ok : SmOK Try.prog 44 iAreWords := inlM_ok mixed (E := {tb := [(29, sIsW)]}) ⟨sIsW_impl, trivial⟩ Try.func44 Try.call44 (fun _ _ _ => loopsOK_nil _ _ _)
def tOk (dn : Nat) (da : Nat → Int) (line x : Int) : Bool := btw line 0 7 && ((dn : Int) == 8) && isW (da line.toNat) && isW x
def tDa (dn : Nat) (da : Nat → Int) (line x : Int) (i : Nat) : Int := if tOk dn da line x = true ∧ i = line.toNat then bits .xor .i64 (da i) x else da i
theorem stamI_T (sKey : Int) (sTreeRoot : Int) (sTreeMidO : Option Addr) (sTreeMidN sTreeMidC : Nat) (sTreeMidg0 sTreeMidg1 : Nat → Int) (sTreeLeafO : Option Addr) (sTreeLeafN sTreeLeafC : Nat) (sTreeLeafg0 sTreeLeafg1 : Nat → Int) (sDataO : Option Addr) (sDataN sDataC : Nat) (sDatag0 : Nat → Int) (sTagsO : Option Addr) (sTagsN sTagsC : Nat) (sTagsg0 : Nat → Int) (line : Int) (x : Int) : (exFn Try.prog {tb := [(43, sCopyS), (33, sBtw), (44, iAreWords)]} 400 Try.f20 ([.a (.agg [.int sKey, .int sTreeRoot, .sl 0 sTreeMidO sTreeMidN sTreeMidC, .sl 1 sTreeLeafO sTreeLeafN sTreeLeafC, .sl 2 sDataO sDataN sDataC, .sl 3 sTagsO sTagsN sTagsC]), .a (.c (.int line)), .a (.c (.int x))]) ([.row ⟨false, sTreeMidO, 0, 2, sTreeMidN, 0, [fun i => .int (sTreeMidg0 i), fun i => .int (sTreeMidg1 i)]⟩, .row ⟨false, sTreeLeafO, 0, 2, sTreeLeafN, 0, [fun i => .int (sTreeLeafg0 i), fun i => .int (sTreeLeafg1 i)]⟩, .row ⟨false, sDataO, 0, 1, sDataN, 0, [fun i => .int (sDatag0 i)]⟩, .row ⟨false, sTagsO, 0, 1, sTagsN, 0, [fun i => .int (sTagsg0 i)]⟩]) (fun v ch => ∃ (ro0 : Option Addr) (rc0 : Nat) (ro1 : Option Addr) (rc1 : Nat) (ro2 : Option Addr) (rc2 : Nat) (ro3 : Option Addr) (rc3 : Nat), OutR v ch (.agg #[.int .i64 (sKey), .int .i64 (sTreeRoot), .slice ro0 (sTreeMidN) rc0, .slice ro1 (sTreeLeafN) rc1, .slice ro2 (sDataN) rc2, .slice ro3 (sTagsN) rc3]) [.row ⟨true, ro0, 37, 2, sTreeMidN, rc0, [fun i => .int (sTreeMidg0 i), fun i => .int (sTreeMidg1 i)]⟩, .row ⟨true, ro1, 37, 2, sTreeLeafN, rc1, [fun i => .int (sTreeLeafg0 i), fun i => .int (sTreeLeafg1 i)]⟩, .row ⟨true, ro2, 3, 1, sDataN, rc2, [fun i => .int (tDa sDataN sDatag0 line x i)]⟩, .row ⟨true, ro3, 3, 1, sTagsN, rc3, [fun i => .int (sTagsg0 i)]⟩])) = (
  (∀ b0 : Nat,
  (∀ b1 : Nat,
  (b0 = b0 ∧
  (Exists (fun (sTreeMidg02 : (Nat →
  Int)) => (Exists (fun (sTreeMidg13 : (Nat →
  Int)) => (Exists (fun (sTreeLeafg04 : (Nat →
  Int)) => (Exists (fun (sTreeLeafg15 : (Nat →
  Int)) => (Exists (fun (sDatag06 : (Nat →
  Int)) => (Exists (fun (sTagsg07 : (Nat →
  Int)) => ((sTreeMidO = sTreeMidO ∧
  (sTreeMidN = sTreeMidN ∧
  ([(fun (i8 : Nat) => (SC.int (sTreeMidg0 i8))), (fun (i9 : Nat) => (SC.int (sTreeMidg1 i9)))] = [(fun (i10 : Nat) => (SC.int (sTreeMidg02 i10))), (fun (i11 : Nat) => (SC.int (sTreeMidg13 i11)))] ∧
  (sTreeLeafO = sTreeLeafO ∧
  (sTreeLeafN = sTreeLeafN ∧
  ([(fun (i12 : Nat) => (SC.int (sTreeLeafg0 i12))), (fun (i13 : Nat) => (SC.int (sTreeLeafg1 i13)))] = [(fun (i14 : Nat) => (SC.int (sTreeLeafg04 i14))), (fun (i15 : Nat) => (SC.int (sTreeLeafg15 i15)))] ∧
  (sDataO = sDataO ∧
  (sDataN = sDataN ∧
  ([(fun (i16 : Nat) => (SC.int (sDatag0 i16)))] = [(fun (i17 : Nat) => (SC.int (sDatag06 i17)))] ∧
  (sTagsO = sTagsO ∧
  (sTagsN = sTagsN ∧
  ([(fun (i18 : Nat) => (SC.int (sTagsg0 i18)))] = [(fun (i19 : Nat) => (SC.int (sTagsg07 i19)))] ∧
  ((capC sTreeMidN) ∧
  ((capC sTreeLeafN) ∧
  ((capC sDataN) ∧
  (capC sTagsN)))))))))))))))) ∧
  (∀ ro020 : (Option Addr),
  (∀ rc021 : Nat,
  (∀ ro122 : (Option Addr),
  (∀ rc123 : Nat,
  (∀ ro224 : (Option Addr),
  (∀ rc225 : Nat,
  (∀ ro326 : (Option Addr),
  (∀ rc327 : Nat,
  (∀ b28 : Nat,
  (b28 = b28 ∧
  (((btw line (0 : Int) (7 : Int)) = Bool.true →
  (b0 = b0 ∧
   (((((sDataN : Nat) : Int) == (8 : Int)) = Bool.true →
   (b0 = b0 ∧
    (sDataO = sDataO ∧
    (sDataN = sDataN ∧
    ((0 ≤ line ∧ line < ((sDataN : Nat) : Int)) ∧
    (sDataO = sDataO ∧
    ((Int.toNat line) < sDataN ∧
    (∀ b29 : Nat,
    (b29 = b29 ∧
    (((!(isW (sDatag0 (Int.toNat line)))) = Bool.true →
    (b28 = b28 ∧
     (b1 = b1 ∧
     (b1 = b1 ∧
     (Exists (fun (ro030 : (Option Addr)) => (Exists (fun (rc031 : Nat) => (Exists (fun (ro132 : (Option Addr)) => (Exists (fun (rc133 : Nat) => (Exists (fun (ro234 : (Option Addr)) => (Exists (fun (rc235 : Nat) => (Exists (fun (ro336 : (Option Addr)) => (Exists (fun (rc337 : Nat) => ((Value.agg (List.toArray [(Value.int IntKind.i64 sKey), (Value.int IntKind.i64 sTreeRoot), (Value.slice ro020 sTreeMidN rc021), (Value.slice ro122 sTreeLeafN rc123), (Value.slice ro224 sDataN rc225), (Value.slice ro326 sTagsN rc327)])) = (Value.agg (List.toArray [(Value.int IntKind.i64 sKey), (Value.int IntKind.i64 sTreeRoot), (Value.slice ro030 sTreeMidN rc031), (Value.slice ro132 sTreeLeafN rc133), (Value.slice ro234 sDataN rc235), (Value.slice ro336 sTagsN rc337)])) ∧
     (((Bool.true = Bool.true ∧
     (ro020 = ro030 ∧
     (37 = 37 ∧
     (2 = 2 ∧
     (sTreeMidN = sTreeMidN ∧
     (rc021 = rc031 ∧
     ((∀ i38 : Nat,
     (i38 < sTreeMidN →
     (Value.int IntKind.i64 (sTreeMidg02 i38)) = (Value.int IntKind.i64 (sTreeMidg0 i38)))) ∧
     ((∀ i39 : Nat,
     (i39 < sTreeMidN →
     (Value.int IntKind.i64 (sTreeMidg13 i39)) = (Value.int IntKind.i64 (sTreeMidg1 i39)))) ∧
     True)))))))) ∧
     ((Bool.true = Bool.true ∧
     (ro122 = ro132 ∧
     (37 = 37 ∧
     (2 = 2 ∧
     (sTreeLeafN = sTreeLeafN ∧
     (rc123 = rc133 ∧
     ((∀ i40 : Nat,
     (i40 < sTreeLeafN →
     (Value.int IntKind.i64 (sTreeLeafg04 i40)) = (Value.int IntKind.i64 (sTreeLeafg0 i40)))) ∧
     ((∀ i41 : Nat,
     (i41 < sTreeLeafN →
     (Value.int IntKind.i64 (sTreeLeafg15 i41)) = (Value.int IntKind.i64 (sTreeLeafg1 i41)))) ∧
     True)))))))) ∧
     ((Bool.true = Bool.true ∧
     (ro224 = ro234 ∧
     (3 = 3 ∧
     (1 = 1 ∧
     (sDataN = sDataN ∧
     (rc225 = rc235 ∧
     ((∀ i42 : Nat,
     (i42 < sDataN →
     (Value.int IntKind.i64 (sDatag06 i42)) = (Value.int IntKind.i64 (tDa sDataN sDatag0 line x i42)))) ∧
     True))))))) ∧
     ((Bool.true = Bool.true ∧
     (ro326 = ro336 ∧
     (3 = 3 ∧
     (1 = 1 ∧
     (sTagsN = sTagsN ∧
     (rc327 = rc337 ∧
     ((∀ i43 : Nat,
     (i43 < sTagsN →
     (Value.int IntKind.i64 (sTagsg07 i43)) = (Value.int IntKind.i64 (sTagsg0 i43)))) ∧
     True))))))) ∧
     True)))) ∧
     Bool.true = Bool.true)))))))))))))))))))))) ∧
    ((!(isW (sDatag0 (Int.toNat line)))) = Bool.false →
    (b29 = b29 ∧
     (((!(isW x)) = Bool.true →
     (b28 = b28 ∧
      (b1 = b1 ∧
      (b1 = b1 ∧
      (Exists (fun (ro044 : (Option Addr)) => (Exists (fun (rc045 : Nat) => (Exists (fun (ro146 : (Option Addr)) => (Exists (fun (rc147 : Nat) => (Exists (fun (ro248 : (Option Addr)) => (Exists (fun (rc249 : Nat) => (Exists (fun (ro350 : (Option Addr)) => (Exists (fun (rc351 : Nat) => ((Value.agg (List.toArray [(Value.int IntKind.i64 sKey), (Value.int IntKind.i64 sTreeRoot), (Value.slice ro020 sTreeMidN rc021), (Value.slice ro122 sTreeLeafN rc123), (Value.slice ro224 sDataN rc225), (Value.slice ro326 sTagsN rc327)])) = (Value.agg (List.toArray [(Value.int IntKind.i64 sKey), (Value.int IntKind.i64 sTreeRoot), (Value.slice ro044 sTreeMidN rc045), (Value.slice ro146 sTreeLeafN rc147), (Value.slice ro248 sDataN rc249), (Value.slice ro350 sTagsN rc351)])) ∧
      (((Bool.true = Bool.true ∧
      (ro020 = ro044 ∧
      (37 = 37 ∧
      (2 = 2 ∧
      (sTreeMidN = sTreeMidN ∧
      (rc021 = rc045 ∧
      ((∀ i52 : Nat,
      (i52 < sTreeMidN →
      (Value.int IntKind.i64 (sTreeMidg02 i52)) = (Value.int IntKind.i64 (sTreeMidg0 i52)))) ∧
      ((∀ i53 : Nat,
      (i53 < sTreeMidN →
      (Value.int IntKind.i64 (sTreeMidg13 i53)) = (Value.int IntKind.i64 (sTreeMidg1 i53)))) ∧
      True)))))))) ∧
      ((Bool.true = Bool.true ∧
      (ro122 = ro146 ∧
      (37 = 37 ∧
      (2 = 2 ∧
      (sTreeLeafN = sTreeLeafN ∧
      (rc123 = rc147 ∧
      ((∀ i54 : Nat,
      (i54 < sTreeLeafN →
      (Value.int IntKind.i64 (sTreeLeafg04 i54)) = (Value.int IntKind.i64 (sTreeLeafg0 i54)))) ∧
      ((∀ i55 : Nat,
      (i55 < sTreeLeafN →
      (Value.int IntKind.i64 (sTreeLeafg15 i55)) = (Value.int IntKind.i64 (sTreeLeafg1 i55)))) ∧
      True)))))))) ∧
      ((Bool.true = Bool.true ∧
      (ro224 = ro248 ∧
      (3 = 3 ∧
      (1 = 1 ∧
      (sDataN = sDataN ∧
      (rc225 = rc249 ∧
      ((∀ i56 : Nat,
      (i56 < sDataN →
      (Value.int IntKind.i64 (sDatag06 i56)) = (Value.int IntKind.i64 (tDa sDataN sDatag0 line x i56)))) ∧
      True))))))) ∧
      ((Bool.true = Bool.true ∧
      (ro326 = ro350 ∧
      (3 = 3 ∧
      (1 = 1 ∧
      (sTagsN = sTagsN ∧
      (rc327 = rc351 ∧
      ((∀ i57 : Nat,
      (i57 < sTagsN →
      (Value.int IntKind.i64 (sTagsg07 i57)) = (Value.int IntKind.i64 (sTagsg0 i57)))) ∧
      True))))))) ∧
      True)))) ∧
      Bool.true = Bool.true)))))))))))))))))))))) ∧
     ((!(isW x)) = Bool.false →
     (b28 = b28 ∧
      (ro224 = ro224 ∧
      (sDataN = sDataN ∧
      ((0 ≤ line ∧ line < ((sDataN : Nat) : Int)) ∧
      (ro224 = ro224 ∧
      ((Int.toNat line) < sDataN ∧
      (ro224 = ro224 ∧
      (sDataN = sDataN ∧
      ((0 ≤ line ∧ line < ((sDataN : Nat) : Int)) ∧
      (ro224 = ro224 ∧
      ((Int.toNat line) < sDataN ∧
      (b28 = b28 ∧
      (b1 = b1 ∧
      (b1 = b1 ∧
      (Exists (fun (ro058 : (Option Addr)) => (Exists (fun (rc059 : Nat) => (Exists (fun (ro160 : (Option Addr)) => (Exists (fun (rc161 : Nat) => (Exists (fun (ro262 : (Option Addr)) => (Exists (fun (rc263 : Nat) => (Exists (fun (ro364 : (Option Addr)) => (Exists (fun (rc365 : Nat) => ((Value.agg (List.toArray [(Value.int IntKind.i64 sKey), (Value.int IntKind.i64 sTreeRoot), (Value.slice ro020 sTreeMidN rc021), (Value.slice ro122 sTreeLeafN rc123), (Value.slice ro224 sDataN rc225), (Value.slice ro326 sTagsN rc327)])) = (Value.agg (List.toArray [(Value.int IntKind.i64 sKey), (Value.int IntKind.i64 sTreeRoot), (Value.slice ro058 sTreeMidN rc059), (Value.slice ro160 sTreeLeafN rc161), (Value.slice ro262 sDataN rc263), (Value.slice ro364 sTagsN rc365)])) ∧
      (((Bool.true = Bool.true ∧
      (ro020 = ro058 ∧
      (37 = 37 ∧
      (2 = 2 ∧
      (sTreeMidN = sTreeMidN ∧
      (rc021 = rc059 ∧
      ((∀ i66 : Nat,
      (i66 < sTreeMidN →
      (Value.int IntKind.i64 (sTreeMidg02 i66)) = (Value.int IntKind.i64 (sTreeMidg0 i66)))) ∧
      ((∀ i67 : Nat,
      (i67 < sTreeMidN →
      (Value.int IntKind.i64 (sTreeMidg13 i67)) = (Value.int IntKind.i64 (sTreeMidg1 i67)))) ∧
      True)))))))) ∧
      ((Bool.true = Bool.true ∧
      (ro122 = ro160 ∧
      (37 = 37 ∧
      (2 = 2 ∧
      (sTreeLeafN = sTreeLeafN ∧
      (rc123 = rc161 ∧
      ((∀ i68 : Nat,
      (i68 < sTreeLeafN →
      (Value.int IntKind.i64 (sTreeLeafg04 i68)) = (Value.int IntKind.i64 (sTreeLeafg0 i68)))) ∧
      ((∀ i69 : Nat,
      (i69 < sTreeLeafN →
      (Value.int IntKind.i64 (sTreeLeafg15 i69)) = (Value.int IntKind.i64 (sTreeLeafg1 i69)))) ∧
      True)))))))) ∧
      ((Bool.true = Bool.true ∧
      (ro224 = ro262 ∧
      (3 = 3 ∧
      (1 = 1 ∧
      (sDataN = sDataN ∧
      (rc225 = rc263 ∧
      ((∀ i70 : Nat,
      (i70 < sDataN →
      (Value.int IntKind.i64 (if i70 = (Int.toNat line) then (bits BinOp.xor .i64 (sDatag06 (Int.toNat line)) x) else (sDatag06 i70))) = (Value.int IntKind.i64 (tDa sDataN sDatag0 line x i70)))) ∧
      True))))))) ∧
      ((Bool.true = Bool.true ∧
      (ro326 = ro364 ∧
      (3 = 3 ∧
      (1 = 1 ∧
      (sTagsN = sTagsN ∧
      (rc327 = rc365 ∧
      ((∀ i71 : Nat,
      (i71 < sTagsN →
      (Value.int IntKind.i64 (sTagsg07 i71)) = (Value.int IntKind.i64 (sTagsg0 i71)))) ∧
      True))))))) ∧
      True)))) ∧
      Bool.true = Bool.true)))))))))))))))))))))))))))))))))))))))))))))) ∧
   ((((sDataN : Nat) : Int) == (8 : Int)) = Bool.false →
   (b28 = b28 ∧
    (b1 = b1 ∧
    (b1 = b1 ∧
    (Exists (fun (ro072 : (Option Addr)) => (Exists (fun (rc073 : Nat) => (Exists (fun (ro174 : (Option Addr)) => (Exists (fun (rc175 : Nat) => (Exists (fun (ro276 : (Option Addr)) => (Exists (fun (rc277 : Nat) => (Exists (fun (ro378 : (Option Addr)) => (Exists (fun (rc379 : Nat) => ((Value.agg (List.toArray [(Value.int IntKind.i64 sKey), (Value.int IntKind.i64 sTreeRoot), (Value.slice ro020 sTreeMidN rc021), (Value.slice ro122 sTreeLeafN rc123), (Value.slice ro224 sDataN rc225), (Value.slice ro326 sTagsN rc327)])) = (Value.agg (List.toArray [(Value.int IntKind.i64 sKey), (Value.int IntKind.i64 sTreeRoot), (Value.slice ro072 sTreeMidN rc073), (Value.slice ro174 sTreeLeafN rc175), (Value.slice ro276 sDataN rc277), (Value.slice ro378 sTagsN rc379)])) ∧
    (((Bool.true = Bool.true ∧
    (ro020 = ro072 ∧
    (37 = 37 ∧
    (2 = 2 ∧
    (sTreeMidN = sTreeMidN ∧
    (rc021 = rc073 ∧
    ((∀ i80 : Nat,
    (i80 < sTreeMidN →
    (Value.int IntKind.i64 (sTreeMidg02 i80)) = (Value.int IntKind.i64 (sTreeMidg0 i80)))) ∧
    ((∀ i81 : Nat,
    (i81 < sTreeMidN →
    (Value.int IntKind.i64 (sTreeMidg13 i81)) = (Value.int IntKind.i64 (sTreeMidg1 i81)))) ∧
    True)))))))) ∧
    ((Bool.true = Bool.true ∧
    (ro122 = ro174 ∧
    (37 = 37 ∧
    (2 = 2 ∧
    (sTreeLeafN = sTreeLeafN ∧
    (rc123 = rc175 ∧
    ((∀ i82 : Nat,
    (i82 < sTreeLeafN →
    (Value.int IntKind.i64 (sTreeLeafg04 i82)) = (Value.int IntKind.i64 (sTreeLeafg0 i82)))) ∧
    ((∀ i83 : Nat,
    (i83 < sTreeLeafN →
    (Value.int IntKind.i64 (sTreeLeafg15 i83)) = (Value.int IntKind.i64 (sTreeLeafg1 i83)))) ∧
    True)))))))) ∧
    ((Bool.true = Bool.true ∧
    (ro224 = ro276 ∧
    (3 = 3 ∧
    (1 = 1 ∧
    (sDataN = sDataN ∧
    (rc225 = rc277 ∧
    ((∀ i84 : Nat,
    (i84 < sDataN →
    (Value.int IntKind.i64 (sDatag06 i84)) = (Value.int IntKind.i64 (tDa sDataN sDatag0 line x i84)))) ∧
    True))))))) ∧
    ((Bool.true = Bool.true ∧
    (ro326 = ro378 ∧
    (3 = 3 ∧
    (1 = 1 ∧
    (sTagsN = sTagsN ∧
    (rc327 = rc379 ∧
    ((∀ i85 : Nat,
    (i85 < sTagsN →
    (Value.int IntKind.i64 (sTagsg07 i85)) = (Value.int IntKind.i64 (sTagsg0 i85)))) ∧
    True))))))) ∧
    True)))) ∧
    Bool.true = Bool.true))))))))))))))))))))))))) ∧
  ((btw line (0 : Int) (7 : Int)) = Bool.false →
  (b28 = b28 ∧
   (b1 = b1 ∧
   (b1 = b1 ∧
   (Exists (fun (ro086 : (Option Addr)) => (Exists (fun (rc087 : Nat) => (Exists (fun (ro188 : (Option Addr)) => (Exists (fun (rc189 : Nat) => (Exists (fun (ro290 : (Option Addr)) => (Exists (fun (rc291 : Nat) => (Exists (fun (ro392 : (Option Addr)) => (Exists (fun (rc393 : Nat) => ((Value.agg (List.toArray [(Value.int IntKind.i64 sKey), (Value.int IntKind.i64 sTreeRoot), (Value.slice ro020 sTreeMidN rc021), (Value.slice ro122 sTreeLeafN rc123), (Value.slice ro224 sDataN rc225), (Value.slice ro326 sTagsN rc327)])) = (Value.agg (List.toArray [(Value.int IntKind.i64 sKey), (Value.int IntKind.i64 sTreeRoot), (Value.slice ro086 sTreeMidN rc087), (Value.slice ro188 sTreeLeafN rc189), (Value.slice ro290 sDataN rc291), (Value.slice ro392 sTagsN rc393)])) ∧
   (((Bool.true = Bool.true ∧
   (ro020 = ro086 ∧
   (37 = 37 ∧
   (2 = 2 ∧
   (sTreeMidN = sTreeMidN ∧
   (rc021 = rc087 ∧
   ((∀ i94 : Nat,
   (i94 < sTreeMidN →
   (Value.int IntKind.i64 (sTreeMidg02 i94)) = (Value.int IntKind.i64 (sTreeMidg0 i94)))) ∧
   ((∀ i95 : Nat,
   (i95 < sTreeMidN →
   (Value.int IntKind.i64 (sTreeMidg13 i95)) = (Value.int IntKind.i64 (sTreeMidg1 i95)))) ∧
   True)))))))) ∧
   ((Bool.true = Bool.true ∧
   (ro122 = ro188 ∧
   (37 = 37 ∧
   (2 = 2 ∧
   (sTreeLeafN = sTreeLeafN ∧
   (rc123 = rc189 ∧
   ((∀ i96 : Nat,
   (i96 < sTreeLeafN →
   (Value.int IntKind.i64 (sTreeLeafg04 i96)) = (Value.int IntKind.i64 (sTreeLeafg0 i96)))) ∧
   ((∀ i97 : Nat,
   (i97 < sTreeLeafN →
   (Value.int IntKind.i64 (sTreeLeafg15 i97)) = (Value.int IntKind.i64 (sTreeLeafg1 i97)))) ∧
   True)))))))) ∧
   ((Bool.true = Bool.true ∧
   (ro224 = ro290 ∧
   (3 = 3 ∧
   (1 = 1 ∧
   (sDataN = sDataN ∧
   (rc225 = rc291 ∧
   ((∀ i98 : Nat,
   (i98 < sDataN →
   (Value.int IntKind.i64 (sDatag06 i98)) = (Value.int IntKind.i64 (tDa sDataN sDatag0 line x i98)))) ∧
   True))))))) ∧
   ((Bool.true = Bool.true ∧
   (ro326 = ro392 ∧
   (3 = 3 ∧
   (1 = 1 ∧
   (sTagsN = sTagsN ∧
   (rc327 = rc393 ∧
   ((∀ i99 : Nat,
   (i99 < sTagsN →
   (Value.int IntKind.i64 (sTagsg07 i99)) = (Value.int IntKind.i64 (sTagsg0 i99)))) ∧
   True))))))) ∧
   True)))) ∧
   Bool.true = Bool.true)))))))))))))))))))))))))))))))))))))))))))))))))) := by kernel_rfl
theorem stamI_any (sKey : Int) (sTreeRoot : Int) (sTreeMidO : Option Addr) (sTreeMidN sTreeMidC : Nat) (sTreeMidg0 sTreeMidg1 : Nat → Int) (sTreeLeafO : Option Addr) (sTreeLeafN sTreeLeafC : Nat) (sTreeLeafg0 sTreeLeafg1 : Nat → Int) (sDataO : Option Addr) (sDataN sDataC : Nat) (sDatag0 : Nat → Int) (sTagsO : Option Addr) (sTagsN sTagsC : Nat) (sTagsg0 : Nat → Int) (line : Int) (x : Int) (w : World) (hrsTreeMid : Row.sat w ⟨false, sTreeMidO, 0, 2, sTreeMidN, 0, [fun i => .int (sTreeMidg0 i), fun i => .int (sTreeMidg1 i)]⟩) (hrsTreeLeaf : Row.sat w ⟨false, sTreeLeafO, 0, 2, sTreeLeafN, 0, [fun i => .int (sTreeLeafg0 i), fun i => .int (sTreeLeafg1 i)]⟩) (hrsData : Row.sat w ⟨false, sDataO, 0, 1, sDataN, 0, [fun i => .int (sDatag0 i)]⟩) (hrsTags : Row.sat w ⟨false, sTagsO, 0, 1, sTagsN, 0, [fun i => .int (sTagsg0 i)]⟩) (hpre : capC sTreeMidN ∧ capC sTreeLeafN ∧ capC sDataN ∧ capC sTagsN) : Calls Try.prog 20 #[.agg #[.int .i64 sKey, .int .i64 sTreeRoot, .slice sTreeMidO sTreeMidN sTreeMidC, .slice sTreeLeafO sTreeLeafN sTreeLeafC, .slice sDataO sDataN sDataC, .slice sTagsO sTagsN sTagsC], .int .i64 line, .int .i64 x] w fun e w' => ∃ (ro0 : Option Addr) (rc0 : Nat) (ro1 : Option Addr) (rc1 : Nat) (ro2 : Option Addr) (rc2 : Nat) (ro3 : Option Addr) (rc3 : Nat), e = .returned (.agg #[.int .i64 (sKey), .int .i64 (sTreeRoot), .slice ro0 (sTreeMidN) rc0, .slice ro1 (sTreeLeafN) rc1, .slice ro2 (sDataN) rc2, .slice ro3 (sTagsN) rc3]) ∧ HS ⟨w, fun _ => False⟩ [.row ⟨true, ro0, 37, 2, sTreeMidN, rc0, [fun i => .int (sTreeMidg0 i), fun i => .int (sTreeMidg1 i)]⟩, .row ⟨true, ro1, 37, 2, sTreeLeafN, rc1, [fun i => .int (sTreeLeafg0 i), fun i => .int (sTreeLeafg1 i)]⟩, .row ⟨true, ro2, 3, 1, sDataN, rc2, [fun i => .int (tDa sDataN sDatag0 line x i)]⟩, .row ⟨true, ro3, 3, 1, sTagsN, rc3, [fun i => .int (sTagsg0 i)]⟩] w' := by
  refine fnB (tb := [(43, sCopyS), (33, sBtw), (44, iAreWords)]) ⟨sCopyS_ok_copySI, sBtwI_ok, iAreWords_ok, trivial⟩ Try.func20 (@Eq.mpr _ _ (stamI_T sKey sTreeRoot sTreeMidO sTreeMidN sTreeMidC sTreeMidg0 sTreeMidg1 sTreeLeafO sTreeLeafN sTreeLeafC sTreeLeafg0 sTreeLeafg1 sDataO sDataN sDataC sDatag0 sTagsO sTagsN sTagsC sTagsg0 line x) ?_) (HS.rows (fun _ => False) [⟨false, sTreeMidO, 0, 2, sTreeMidN, 0, [fun i => .int (sTreeMidg0 i), fun i => .int (sTreeMidg1 i)]⟩, ⟨false, sTreeLeafO, 0, 2, sTreeLeafN, 0, [fun i => .int (sTreeLeafg0 i), fun i => .int (sTreeLeafg1 i)]⟩, ⟨false, sDataO, 0, 1, sDataN, 0, [fun i => .int (sDatag0 i)]⟩, ⟨false, sTagsO, 0, 1, sTagsN, 0, [fun i => .int (sTagsg0 i)]⟩] (by simp; exact ⟨hrsTreeMid, hrsTreeLeaf, hrsData, hrsTags⟩)) (fun v ch' w' ⟨ro0, rc0, ro1, rc1, ro2, rc2, ro3, rc3, hk⟩ hs => ⟨ro0, rc0, ro1, rc1, ro2, rc2, ro3, rc3, by rw [hk.1], hk.hs hs⟩)
  clear hrsTreeMid hrsTreeLeaf hrsData hrsTags
  cases hb : btw line 0 7 <;> cases hf : ((sDataN : Int) == 8) <;> cases hg : isW (sDatag0 line.toNat) <;> cases hw : isW x
  case true.true.true.true =>
    have hl := btw_facts hb
    have hdn : sDataN = 8 := by simp at hf; omega
    have hok : tOk sDataN sDatag0 line x = true := by simp only [tOk, hb, hf, hg, hw, Bool.and_true]
    repeat' (first
      | with_reducible exact rfl
      | exact True.intro
      | assumption
      | refine And.intro ?_ ?_
      | apply Exists.intro
      | (intro h; exfalso; simp [hb, hf, hg, hw] at h; done)
      | (intro h; exfalso; simp [hb, hf, hg, hw] at h; omega)
      | intro _
      | omega
      | (simp; omega))
    all_goals first
      | (simp [tDa, hok]; done)
      | (rename_i i hi; by_cases e : i = line.toNat <;> simp [tDa, hok, e]; done)
      | (simp [tDa, hok]; intros; simp_all; done)
  all_goals
    have hok : tOk sDataN sDatag0 line x = false := by simp only [tOk, hb, hf, hg, hw, Bool.and_true, Bool.and_false, Bool.false_and]
    (try have hl := btw_facts hb)
    (try have hdn : sDataN = 8 := by simp at hf; omega)
    (try have hdn : ¬ sDataN = 8 := by simp at hf; omega)
    repeat' (first
      | with_reducible exact rfl
      | exact True.intro
      | assumption
      | refine And.intro ?_ ?_
      | apply Exists.intro
      | (intro h; exfalso; simp [hb, hf, hg, hw] at h; done)
      | (intro h; exfalso; simp [hb, hf, hg, hw] at h; omega)
      | intro _
      | omega
      | (simp; omega))
    all_goals simp [tDa, hok]
def sSTam : Sm := fun args ch kk =>
  match args with
  | [.a (.agg [c0, c1, .sl i0 a0 n0 d0, .sl i1 a1 n1 d1, .sl i2 a2 n2 d2, .sl i3 a3 n3 d3]), .a (.c c2), .a (.c c3)] =>
    match ch[i0]?, ch[i1]?, ch[i2]?, ch[i3]?, ints [c0, c1, c2, c3] with
    | some (.row r0), some (.row r1), some (.row r2), some (.row r3), some [sKey, sTreeRoot, line, x] => ∃ sTreeMidg0 sTreeMidg1 sTreeLeafg0 sTreeLeafg1 sDatag0 sTagsg0 : Nat → Int, (a0 = r0.ao ∧ n0 = r0.n ∧ r0.fld = [fun i => .int (sTreeMidg0 i), fun i => .int (sTreeMidg1 i)] ∧ a1 = r1.ao ∧ n1 = r1.n ∧ r1.fld = [fun i => .int (sTreeLeafg0 i), fun i => .int (sTreeLeafg1 i)] ∧ a2 = r2.ao ∧ n2 = r2.n ∧ r2.fld = [fun i => .int (sDatag0 i)] ∧ a3 = r3.ao ∧ n3 = r3.n ∧ r3.fld = [fun i => .int (sTagsg0 i)] ∧ capC n0 ∧ capC n1 ∧ capC n2 ∧ capC n3) ∧ ∀ (ro0 : Option Addr) (rc0 : Nat), ∀ (ro1 : Option Addr) (rc1 : Nat), ∀ (ro2 : Option Addr) (rc2 : Nat), ∀ (ro3 : Option Addr) (rc3 : Nat), kk (.a (.agg [.int (sKey), .int (sTreeRoot), .sl (ch.length) ro0 (n0) rc0, .sl (ch.length + 1) ro1 (n1) rc1, .sl (ch.length + 2) ro2 (n2) rc2, .sl (ch.length + 3) ro3 (n3) rc3])) (ch ++ [.row ⟨true, ro0, 37, 2, n0, rc0, [fun i => .int (sTreeMidg0 i), fun i => .int (sTreeMidg1 i)]⟩, .row ⟨true, ro1, 37, 2, n1, rc1, [fun i => .int (sTreeLeafg0 i), fun i => .int (sTreeLeafg1 i)]⟩, .row ⟨true, ro2, 3, 1, n2, rc2, [fun i => .int (tDa n2 sDatag0 line x i)]⟩, .row ⟨true, ro3, 3, 1, n3, rc3, [fun i => .int (sTagsg0 i)]⟩]) []
    | _, _, _, _, _ => False
  | _ => False
theorem sSTam_ok {f : FuncId} (hc : ∀ args w, (callFunc f args).run Try.prog w = .ok (.enter f args) w) (h : ∀ (sKey : Int) (sTreeRoot : Int) (sTreeMidO : Option Addr) (sTreeMidN sTreeMidC : Nat) (sTreeMidg0 sTreeMidg1 : Nat → Int) (sTreeLeafO : Option Addr) (sTreeLeafN sTreeLeafC : Nat) (sTreeLeafg0 sTreeLeafg1 : Nat → Int) (sDataO : Option Addr) (sDataN sDataC : Nat) (sDatag0 : Nat → Int) (sTagsO : Option Addr) (sTagsN sTagsC : Nat) (sTagsg0 : Nat → Int) (line : Int) (x : Int) (w : World), Row.sat w ⟨false, sTreeMidO, 0, 2, sTreeMidN, 0, [fun i => .int (sTreeMidg0 i), fun i => .int (sTreeMidg1 i)]⟩ → Row.sat w ⟨false, sTreeLeafO, 0, 2, sTreeLeafN, 0, [fun i => .int (sTreeLeafg0 i), fun i => .int (sTreeLeafg1 i)]⟩ → Row.sat w ⟨false, sDataO, 0, 1, sDataN, 0, [fun i => .int (sDatag0 i)]⟩ → Row.sat w ⟨false, sTagsO, 0, 1, sTagsN, 0, [fun i => .int (sTagsg0 i)]⟩ → capC sTreeMidN ∧ capC sTreeLeafN ∧ capC sDataN ∧ capC sTagsN → Calls Try.prog f #[.agg #[.int .i64 sKey, .int .i64 sTreeRoot, .slice sTreeMidO sTreeMidN sTreeMidC, .slice sTreeLeafO sTreeLeafN sTreeLeafC, .slice sDataO sDataN sDataC, .slice sTagsO sTagsN sTagsC], .int .i64 line, .int .i64 x] w fun e w' => ∃ (ro0 : Option Addr) (rc0 : Nat) (ro1 : Option Addr) (rc1 : Nat) (ro2 : Option Addr) (rc2 : Nat) (ro3 : Option Addr) (rc3 : Nat), e = .returned (.agg #[.int .i64 (sKey), .int .i64 (sTreeRoot), .slice ro0 (sTreeMidN) rc0, .slice ro1 (sTreeLeafN) rc1, .slice ro2 (sDataN) rc2, .slice ro3 (sTagsN) rc3]) ∧ HS ⟨w, fun _ => False⟩ [.row ⟨true, ro0, 37, 2, sTreeMidN, rc0, [fun i => .int (sTreeMidg0 i), fun i => .int (sTreeMidg1 i)]⟩, .row ⟨true, ro1, 37, 2, sTreeLeafN, rc1, [fun i => .int (sTreeLeafg0 i), fun i => .int (sTreeLeafg1 i)]⟩, .row ⟨true, ro2, 3, 1, sDataN, rc2, [fun i => .int (tDa sDataN sDatag0 line x i)]⟩, .row ⟨true, ro3, 3, 1, sTagsN, rc3, [fun i => .int (sTagsg0 i)]⟩] w') : SmOK Try.prog f sSTam := by
  refine smN hc fun args ch kk w X h0 hs => ?_
  unfold sSTam at h0
  split at h0
  · rename_i c0 c1 i0 a0 n0 d0 i1 a1 n1 d1 i2 a2 n2 d2 i3 a3 n3 d3 c2 c3
    split at h0
    · rename_i r0 r1 r2 r3 sKey sTreeRoot line x hr0 hr1 hr2 hr3 hi
      obtain ⟨sTreeMidg0, sTreeMidg1, sTreeLeafg0, sTreeLeafg1, sDatag0, sTagsg0, ⟨rfl, rfl, hf0, rfl, rfl, hf1, rfl, rfl, hf2, rfl, rfl, hf3, hpre⟩, h0⟩ := h0
      obtain ⟨ec0, hi⟩ := ints_cons hi
      obtain ⟨ec1, hi⟩ := ints_cons hi
      obtain ⟨ec2, hi⟩ := ints_cons hi
      obtain ⟨ec3, hi⟩ := ints_cons hi
      refine Calls.mono (?_ : Calls Try.prog f _ w (fun e w' => ∃ (ro0 : Option Addr) (rc0 : Nat) (ro1 : Option Addr) (rc1 : Nat) (ro2 : Option Addr) (rc2 : Nat) (ro3 : Option Addr) (rc3 : Nat), e = .returned (.agg #[.int .i64 (sKey), .int .i64 (sTreeRoot), .slice ro0 (r0.n) rc0, .slice ro1 (r1.n) rc1, .slice ro2 (r2.n) rc2, .slice ro3 (r3.n) rc3]) ∧ HS ⟨w, fun _ => False⟩ [.row ⟨true, ro0, 37, 2, r0.n, rc0, [fun i => .int (sTreeMidg0 i), fun i => .int (sTreeMidg1 i)]⟩, .row ⟨true, ro1, 37, 2, r1.n, rc1, [fun i => .int (sTreeLeafg0 i), fun i => .int (sTreeLeafg1 i)]⟩, .row ⟨true, ro2, 3, 1, r2.n, rc2, [fun i => .int (tDa r2.n sDatag0 line x i)]⟩, .row ⟨true, ro3, 3, 1, r3.n, rc3, [fun i => .int (sTagsg0 i)]⟩] w')) (fun e w' ⟨ro0, rc0, ro1, rc1, ro2, rc2, ro3, rc3, he, hs'⟩ => ⟨_, _, ?_, hs', rfl, h0 ro0 rc0 ro1 rc1 ro2 rc2 ro3 rc3⟩)
      · simp only [List.map_cons, List.map_nil, den_a, den_c, SA.den, den_sl, ec0, ec1, ec2, ec3]
        exact h sKey sTreeRoot r0.ao r0.n d0 sTreeMidg0 sTreeMidg1 r1.ao r1.n d1 sTreeLeafg0 sTreeLeafg1 r2.ao r2.n d2 sDatag0 r3.ao r3.n d3 sTagsg0 line x w (Row.seenAs (hs.sat i0 _ hr0) hf0 rfl) (Row.seenAs (hs.sat i1 _ hr1) hf1 rfl) (Row.seenAs (hs.sat i2 _ hr2) hf2 rfl) (Row.seenAs (hs.sat i3 _ hr3) hf3 rfl) hpre
      · rw [he]
        rfl
    · exact h0.elim
  · exact h0.elim
theorem sSTam_ok_stamI : SmOK Try.prog 20 sSTam := sSTam_ok Try.call20 (fun sKey sTreeRoot sTreeMidO sTreeMidN sTreeMidC sTreeMidg0 sTreeMidg1 sTreeLeafO sTreeLeafN sTreeLeafC sTreeLeafg0 sTreeLeafg1 sDataO sDataN sDataC sDatag0 sTagsO sTagsN sTagsC sTagsg0 line x w h0 h1 h2 h3 hp => stamI_any sKey sTreeRoot sTreeMidO sTreeMidN sTreeMidC sTreeMidg0 sTreeMidg1 sTreeLeafO sTreeLeafN sTreeLeafC sTreeLeafg0 sTreeLeafg1 sDataO sDataN sDataC sDatag0 sTagsO sTagsN sTagsC sTagsg0 line x w h0 h1 h2 h3 hp)
end Go.Proofs.Ytppeocfcdeiemaa

/-
  Secured lines: written.
-/
import Derived.Test.YtppeocfcdeiemaaSxSec1
namespace Go.Proofs.Ytppeocfcdeiemaa
set_option linter.unusedVariables false
set_option linter.unusedSimpArgs false
open Go.RowKit
set_option maxRecDepth 100000
set_option maxHeartbeats 8000000

def selZ (b : Bool) (x y : Int) : Int := if b = true then x else y
def selN (b : Bool) (x y : Nat) : Nat := if b = true then x else y
def wOk (key root : Int) (n m : Nat) (mc mt lc lt : Nat → Int) (dn un : Nat) (da ta : Nat → Int) (line x : Int) : Bool := bOk key root n m mc mt lc lt line && fitsB dn un && isW x
def wDa (key root : Int) (n m : Nat) (mc mt lc lt : Nat → Int) (dn un : Nat) (da ta : Nat → Int) (line x : Int) (i : Nat) : Int := if wOk key root n m mc mt lc lt dn un da ta line x = true ∧ i = line.toNat then sealW key line (bLc key root n m mc mt lc lt line line.toNat) x else da i
def wTa (key root : Int) (n m : Nat) (mc mt lc lt : Nat → Int) (dn un : Nat) (da ta : Nat → Int) (line x : Int) (i : Nat) : Int := if wOk key root n m mc mt lc lt dn un da ta line x = true ∧ i = line.toNat then tagW key line (bLc key root n m mc mt lc lt line line.toNat) (sealW key line (bLc key root n m mc mt lc lt line line.toNat) x) else ta i
theorem swriteI_T (sKey : Int) (sTreeRoot : Int) (sTreeMidO : Option Addr) (sTreeMidN sTreeMidC : Nat) (sTreeMidg0 sTreeMidg1 : Nat → Int) (sTreeLeafO : Option Addr) (sTreeLeafN sTreeLeafC : Nat) (sTreeLeafg0 sTreeLeafg1 : Nat → Int) (sDataO : Option Addr) (sDataN sDataC : Nat) (sDatag0 : Nat → Int) (sTagsO : Option Addr) (sTagsN sTagsC : Nat) (sTagsg0 : Nat → Int) (line : Int) (x : Int) : (exFn Try.prog {tb := [(43, sCopyS), (12, sBump), (45, sFits), (29, sIsW), (52, iPut)]} 400 Try.f25 ([.a (.agg [.int sKey, .int sTreeRoot, .sl 0 sTreeMidO sTreeMidN sTreeMidC, .sl 1 sTreeLeafO sTreeLeafN sTreeLeafC, .sl 2 sDataO sDataN sDataC, .sl 3 sTagsO sTagsN sTagsC]), .a (.c (.int line)), .a (.c (.int x))]) ([.row ⟨false, sTreeMidO, 0, 2, sTreeMidN, 0, [fun i => .int (sTreeMidg0 i), fun i => .int (sTreeMidg1 i)]⟩, .row ⟨false, sTreeLeafO, 0, 2, sTreeLeafN, 0, [fun i => .int (sTreeLeafg0 i), fun i => .int (sTreeLeafg1 i)]⟩, .row ⟨false, sDataO, 0, 1, sDataN, 0, [fun i => .int (sDatag0 i)]⟩, .row ⟨false, sTagsO, 0, 1, sTagsN, 0, [fun i => .int (sTagsg0 i)]⟩]) (fun v ch => ∃ (ro0 : Option Addr) (rc0 : Nat) (ro1 : Option Addr) (rc1 : Nat) (ro2 : Option Addr) (rc2 : Nat) (ro3 : Option Addr) (rc3 : Nat), OutR v ch (.tuple #[.agg #[.int .i64 (sKey), .int .i64 (selZ (wOk sKey sTreeRoot sTreeMidN sTreeLeafN sTreeMidg0 sTreeMidg1 sTreeLeafg0 sTreeLeafg1 sDataN sTagsN sDatag0 sTagsg0 line x) (bR sKey sTreeRoot sTreeMidN sTreeLeafN sTreeMidg0 sTreeMidg1 sTreeLeafg0 sTreeLeafg1 line) sTreeRoot), .slice ro0 (sTreeMidN) rc0, .slice ro1 (sTreeLeafN) rc1, .slice ro2 (sDataN) rc2, .slice ro3 (sTagsN) rc3], .bool (wOk sKey sTreeRoot sTreeMidN sTreeLeafN sTreeMidg0 sTreeMidg1 sTreeLeafg0 sTreeLeafg1 sDataN sTagsN sDatag0 sTagsg0 line x)]) [.row ⟨true, ro0, 37, 2, sTreeMidN, rc0, [fun i => .int (selZ (wOk sKey sTreeRoot sTreeMidN sTreeLeafN sTreeMidg0 sTreeMidg1 sTreeLeafg0 sTreeLeafg1 sDataN sTagsN sDatag0 sTagsg0 line x) (bMc sKey sTreeRoot sTreeMidN sTreeLeafN sTreeMidg0 sTreeMidg1 sTreeLeafg0 sTreeLeafg1 line i) (sTreeMidg0 i)), fun i => .int (selZ (wOk sKey sTreeRoot sTreeMidN sTreeLeafN sTreeMidg0 sTreeMidg1 sTreeLeafg0 sTreeLeafg1 sDataN sTagsN sDatag0 sTagsg0 line x) (bMt sKey sTreeRoot sTreeMidN sTreeLeafN sTreeMidg0 sTreeMidg1 sTreeLeafg0 sTreeLeafg1 line i) (sTreeMidg1 i))]⟩, .row ⟨true, ro1, 37, 2, sTreeLeafN, rc1, [fun i => .int (selZ (wOk sKey sTreeRoot sTreeMidN sTreeLeafN sTreeMidg0 sTreeMidg1 sTreeLeafg0 sTreeLeafg1 sDataN sTagsN sDatag0 sTagsg0 line x) (bLc sKey sTreeRoot sTreeMidN sTreeLeafN sTreeMidg0 sTreeMidg1 sTreeLeafg0 sTreeLeafg1 line i) (sTreeLeafg0 i)), fun i => .int (selZ (wOk sKey sTreeRoot sTreeMidN sTreeLeafN sTreeMidg0 sTreeMidg1 sTreeLeafg0 sTreeLeafg1 sDataN sTagsN sDatag0 sTagsg0 line x) (bLt sKey sTreeRoot sTreeMidN sTreeLeafN sTreeMidg0 sTreeMidg1 sTreeLeafg0 sTreeLeafg1 line i) (sTreeLeafg1 i))]⟩, .row ⟨true, ro2, 3, 1, sDataN, rc2, [fun i => .int (wDa sKey sTreeRoot sTreeMidN sTreeLeafN sTreeMidg0 sTreeMidg1 sTreeLeafg0 sTreeLeafg1 sDataN sTagsN sDatag0 sTagsg0 line x i)]⟩, .row ⟨true, ro3, 3, 1, sTagsN, rc3, [fun i => .int (wTa sKey sTreeRoot sTreeMidN sTreeLeafN sTreeMidg0 sTreeMidg1 sTreeLeafg0 sTreeLeafg1 sDataN sTagsN sDatag0 sTagsg0 line x i)]⟩])) = (
  (∀ b0 : Nat,
  (∀ b1 : Nat,
  (b0 = b0 ∧
  (Exists (fun (sTreeMidg02 : (Nat →
  Int)) => (Exists (fun (sTreeMidg13 : (Nat →
  Int)) => (Exists (fun (sTreeLeafg04 : (Nat →
  Int)) => (Exists (fun (sTreeLeafg15 : (Nat →
  Int)) => (Exists (fun (sDatag06 : (Nat →
  Int)) => (Exists (fun (sTagsg07 : (Nat →
  Int)) => ((sTreeMidO = sTreeMidO ∧
  (sTreeMidN = sTreeMidN ∧
  ([(fun (i8 : Nat) => (SC.int (sTreeMidg0 i8))), (fun (i9 : Nat) => (SC.int (sTreeMidg1 i9)))] = [(fun (i10 : Nat) => (SC.int (sTreeMidg02 i10))), (fun (i11 : Nat) => (SC.int (sTreeMidg13 i11)))] ∧
  (sTreeLeafO = sTreeLeafO ∧
  (sTreeLeafN = sTreeLeafN ∧
  ([(fun (i12 : Nat) => (SC.int (sTreeLeafg0 i12))), (fun (i13 : Nat) => (SC.int (sTreeLeafg1 i13)))] = [(fun (i14 : Nat) => (SC.int (sTreeLeafg04 i14))), (fun (i15 : Nat) => (SC.int (sTreeLeafg15 i15)))] ∧
  (sDataO = sDataO ∧
  (sDataN = sDataN ∧
  ([(fun (i16 : Nat) => (SC.int (sDatag0 i16)))] = [(fun (i17 : Nat) => (SC.int (sDatag06 i17)))] ∧
  (sTagsO = sTagsO ∧
  (sTagsN = sTagsN ∧
  ([(fun (i18 : Nat) => (SC.int (sTagsg0 i18)))] = [(fun (i19 : Nat) => (SC.int (sTagsg07 i19)))] ∧
  ((capC sTreeMidN) ∧
  ((capC sTreeLeafN) ∧
  ((capC sDataN) ∧
  (capC sTagsN)))))))))))))))) ∧
  (∀ ro020 : (Option Addr),
  (∀ rc021 : Nat,
  (∀ ro122 : (Option Addr),
  (∀ rc123 : Nat,
  (∀ ro224 : (Option Addr),
  (∀ rc225 : Nat,
  (∀ ro326 : (Option Addr),
  (∀ rc327 : Nat,
  (∀ b28 : Nat,
  (b28 = b28 ∧
  (b0 = b0 ∧
  (b0 = b0 ∧
  (Exists (fun (tMidg029 : (Nat →
  Int)) => (Exists (fun (tMidg130 : (Nat →
  Int)) => (Exists (fun (tLeafg031 : (Nat →
  Int)) => (Exists (fun (tLeafg132 : (Nat →
  Int)) => ((sTreeMidO = sTreeMidO ∧
  (sTreeMidN = sTreeMidN ∧
  ([(fun (i33 : Nat) => (SC.int (sTreeMidg0 i33))), (fun (i34 : Nat) => (SC.int (sTreeMidg1 i34)))] = [(fun (i35 : Nat) => (SC.int (tMidg029 i35))), (fun (i36 : Nat) => (SC.int (tMidg130 i36)))] ∧
  (sTreeLeafO = sTreeLeafO ∧
  (sTreeLeafN = sTreeLeafN ∧
  ([(fun (i37 : Nat) => (SC.int (sTreeLeafg0 i37))), (fun (i38 : Nat) => (SC.int (sTreeLeafg1 i38)))] = [(fun (i39 : Nat) => (SC.int (tLeafg031 i39))), (fun (i40 : Nat) => (SC.int (tLeafg132 i40)))] ∧
  ((capC sTreeMidN) ∧
  (capC sTreeLeafN)))))))) ∧
  (∀ ro041 : (Option Addr),
  (∀ rc042 : Nat,
  (∀ ro143 : (Option Addr),
  (∀ rc144 : Nat,
  (∀ b45 : Nat,
  (b45 = b45 ∧
  (b0 = b0 ∧
  (Exists (fun (sTreeMidg046 : (Nat →
  Int)) => (Exists (fun (sTreeMidg147 : (Nat →
  Int)) => (Exists (fun (sTreeLeafg048 : (Nat →
  Int)) => (Exists (fun (sTreeLeafg149 : (Nat →
  Int)) => (Exists (fun (sDatag050 : (Nat →
  Int)) => (Exists (fun (sTagsg051 : (Nat →
  Int)) => ((sTreeMidO = sTreeMidO ∧
  (sTreeMidN = sTreeMidN ∧
  ([(fun (i52 : Nat) => (SC.int (sTreeMidg0 i52))), (fun (i53 : Nat) => (SC.int (sTreeMidg1 i53)))] = [(fun (i54 : Nat) => (SC.int (sTreeMidg046 i54))), (fun (i55 : Nat) => (SC.int (sTreeMidg147 i55)))] ∧
  (sTreeLeafO = sTreeLeafO ∧
  (sTreeLeafN = sTreeLeafN ∧
  ([(fun (i56 : Nat) => (SC.int (sTreeLeafg0 i56))), (fun (i57 : Nat) => (SC.int (sTreeLeafg1 i57)))] = [(fun (i58 : Nat) => (SC.int (sTreeLeafg048 i58))), (fun (i59 : Nat) => (SC.int (sTreeLeafg149 i59)))] ∧
  (sDataO = sDataO ∧
  (sDataN = sDataN ∧
  ([(fun (i60 : Nat) => (SC.int (sDatag0 i60)))] = [(fun (i61 : Nat) => (SC.int (sDatag050 i61)))] ∧
  (sTagsO = sTagsO ∧
  (sTagsN = sTagsN ∧
  [(fun (i62 : Nat) => (SC.int (sTagsg0 i62)))] = [(fun (i63 : Nat) => (SC.int (sTagsg051 i63)))]))))))))))) ∧
  (((!(fitsB sDataN sTagsN)) = Bool.false →
  (((!(isW x)) = Bool.false →
   (((!(bOk sKey sTreeRoot sTreeMidN sTreeLeafN tMidg029 tMidg130 tLeafg031 tLeafg132 line)) = Bool.true →
    (b28 = b28 ∧
     (b1 = b1 ∧
     (b1 = b1 ∧
     (Exists (fun (ro064 : (Option Addr)) => (Exists (fun (rc065 : Nat) => (Exists (fun (ro166 : (Option Addr)) => (Exists (fun (rc167 : Nat) => (Exists (fun (ro268 : (Option Addr)) => (Exists (fun (rc269 : Nat) => (Exists (fun (ro370 : (Option Addr)) => (Exists (fun (rc371 : Nat) => ((Value.tuple (List.toArray [(Value.agg (List.toArray [(Value.int IntKind.i64 sKey), (Value.int IntKind.i64 sTreeRoot), (Value.slice ro020 sTreeMidN rc021), (Value.slice ro122 sTreeLeafN rc123), (Value.slice ro224 sDataN rc225), (Value.slice ro326 sTagsN rc327)])), (Value.bool Bool.false)])) = (Value.tuple (List.toArray [(Value.agg (List.toArray [(Value.int IntKind.i64 sKey), (Value.int IntKind.i64 (selZ (wOk sKey sTreeRoot sTreeMidN sTreeLeafN sTreeMidg0 sTreeMidg1 sTreeLeafg0 sTreeLeafg1 sDataN sTagsN sDatag0 sTagsg0 line x) (bR sKey sTreeRoot sTreeMidN sTreeLeafN sTreeMidg0 sTreeMidg1 sTreeLeafg0 sTreeLeafg1 line) sTreeRoot)), (Value.slice ro064 sTreeMidN rc065), (Value.slice ro166 sTreeLeafN rc167), (Value.slice ro268 sDataN rc269), (Value.slice ro370 sTagsN rc371)])), (Value.bool (wOk sKey sTreeRoot sTreeMidN sTreeLeafN sTreeMidg0 sTreeMidg1 sTreeLeafg0 sTreeLeafg1 sDataN sTagsN sDatag0 sTagsg0 line x))])) ∧
     (((Bool.true = Bool.true ∧
     (ro020 = ro064 ∧
     (37 = 37 ∧
     (2 = 2 ∧
     (sTreeMidN = sTreeMidN ∧
     (rc021 = rc065 ∧
     ((∀ i72 : Nat,
     (i72 < sTreeMidN →
     (Value.int IntKind.i64 (sTreeMidg02 i72)) = (Value.int IntKind.i64 (selZ (wOk sKey sTreeRoot sTreeMidN sTreeLeafN sTreeMidg0 sTreeMidg1 sTreeLeafg0 sTreeLeafg1 sDataN sTagsN sDatag0 sTagsg0 line x) (bMc sKey sTreeRoot sTreeMidN sTreeLeafN sTreeMidg0 sTreeMidg1 sTreeLeafg0 sTreeLeafg1 line i72) (sTreeMidg0 i72))))) ∧
     ((∀ i73 : Nat,
     (i73 < sTreeMidN →
     (Value.int IntKind.i64 (sTreeMidg13 i73)) = (Value.int IntKind.i64 (selZ (wOk sKey sTreeRoot sTreeMidN sTreeLeafN sTreeMidg0 sTreeMidg1 sTreeLeafg0 sTreeLeafg1 sDataN sTagsN sDatag0 sTagsg0 line x) (bMt sKey sTreeRoot sTreeMidN sTreeLeafN sTreeMidg0 sTreeMidg1 sTreeLeafg0 sTreeLeafg1 line i73) (sTreeMidg1 i73))))) ∧
     True)))))))) ∧
     ((Bool.true = Bool.true ∧
     (ro122 = ro166 ∧
     (37 = 37 ∧
     (2 = 2 ∧
     (sTreeLeafN = sTreeLeafN ∧
     (rc123 = rc167 ∧
     ((∀ i74 : Nat,
     (i74 < sTreeLeafN →
     (Value.int IntKind.i64 (sTreeLeafg04 i74)) = (Value.int IntKind.i64 (selZ (wOk sKey sTreeRoot sTreeMidN sTreeLeafN sTreeMidg0 sTreeMidg1 sTreeLeafg0 sTreeLeafg1 sDataN sTagsN sDatag0 sTagsg0 line x) (bLc sKey sTreeRoot sTreeMidN sTreeLeafN sTreeMidg0 sTreeMidg1 sTreeLeafg0 sTreeLeafg1 line i74) (sTreeLeafg0 i74))))) ∧
     ((∀ i75 : Nat,
     (i75 < sTreeLeafN →
     (Value.int IntKind.i64 (sTreeLeafg15 i75)) = (Value.int IntKind.i64 (selZ (wOk sKey sTreeRoot sTreeMidN sTreeLeafN sTreeMidg0 sTreeMidg1 sTreeLeafg0 sTreeLeafg1 sDataN sTagsN sDatag0 sTagsg0 line x) (bLt sKey sTreeRoot sTreeMidN sTreeLeafN sTreeMidg0 sTreeMidg1 sTreeLeafg0 sTreeLeafg1 line i75) (sTreeLeafg1 i75))))) ∧
     True)))))))) ∧
     ((Bool.true = Bool.true ∧
     (ro224 = ro268 ∧
     (3 = 3 ∧
     (1 = 1 ∧
     (sDataN = sDataN ∧
     (rc225 = rc269 ∧
     ((∀ i76 : Nat,
     (i76 < sDataN →
     (Value.int IntKind.i64 (sDatag06 i76)) = (Value.int IntKind.i64 (wDa sKey sTreeRoot sTreeMidN sTreeLeafN sTreeMidg0 sTreeMidg1 sTreeLeafg0 sTreeLeafg1 sDataN sTagsN sDatag0 sTagsg0 line x i76)))) ∧
     True))))))) ∧
     ((Bool.true = Bool.true ∧
     (ro326 = ro370 ∧
     (3 = 3 ∧
     (1 = 1 ∧
     (sTagsN = sTagsN ∧
     (rc327 = rc371 ∧
     ((∀ i77 : Nat,
     (i77 < sTagsN →
     (Value.int IntKind.i64 (sTagsg07 i77)) = (Value.int IntKind.i64 (wTa sKey sTreeRoot sTreeMidN sTreeLeafN sTreeMidg0 sTreeMidg1 sTreeLeafg0 sTreeLeafg1 sDataN sTagsN sDatag0 sTagsg0 line x i77)))) ∧
     True))))))) ∧
     True)))) ∧
     Bool.true = Bool.true)))))))))))))))))))))) ∧
    ((!(bOk sKey sTreeRoot sTreeMidN sTreeLeafN tMidg029 tMidg130 tLeafg031 tLeafg132 line)) = Bool.false →
    (b45 = b45 ∧
     (b28 = b28 ∧
     (b45 = b45 ∧
     (ro143 = ro143 ∧
     (sTreeLeafN = sTreeLeafN ∧
     ((0 ≤ line ∧ line < ((sTreeLeafN : Nat) : Int)) ∧
     (ro143 = ro143 ∧
     ((Int.toNat line) < sTreeLeafN ∧
     (ro143 = ro143 ∧
     ((Int.toNat line) < sTreeLeafN ∧
     (b28 = b28 ∧
     (b28 = b28 ∧
     (True ∧
     (ro224 = ro224 ∧
     (sDataN = sDataN ∧
     ((0 ≤ line ∧ line < ((sDataN : Nat) : Int)) ∧
     (ro224 = ro224 ∧
     ((Int.toNat line) < sDataN ∧
     (True ∧
     (b28 = b28 ∧
     (b28 = b28 ∧
     (b28 = b28 ∧
     (ro224 = ro224 ∧
     (sDataN = sDataN ∧
     ((0 ≤ line ∧ line < ((sDataN : Nat) : Int)) ∧
     (ro224 = ro224 ∧
     ((Int.toNat line) < sDataN ∧
     (True ∧
     (ro326 = ro326 ∧
     (sTagsN = sTagsN ∧
     ((0 ≤ line ∧ line < ((sTagsN : Nat) : Int)) ∧
     (ro326 = ro326 ∧
     ((Int.toNat line) < sTagsN ∧
     (True ∧
     (b28 = b28 ∧
     (b1 = b1 ∧
     (b1 = b1 ∧
     (Exists (fun (ro078 : (Option Addr)) => (Exists (fun (rc079 : Nat) => (Exists (fun (ro180 : (Option Addr)) => (Exists (fun (rc181 : Nat) => (Exists (fun (ro282 : (Option Addr)) => (Exists (fun (rc283 : Nat) => (Exists (fun (ro384 : (Option Addr)) => (Exists (fun (rc385 : Nat) => ((Value.tuple (List.toArray [(Value.agg (List.toArray [(Value.int IntKind.i64 sKey), (Value.int IntKind.i64 (bR sKey sTreeRoot sTreeMidN sTreeLeafN tMidg029 tMidg130 tLeafg031 tLeafg132 line)), (Value.slice ro041 sTreeMidN rc042), (Value.slice ro143 sTreeLeafN rc144), (Value.slice ro224 sDataN rc225), (Value.slice ro326 sTagsN rc327)])), (Value.bool Bool.true)])) = (Value.tuple (List.toArray [(Value.agg (List.toArray [(Value.int IntKind.i64 sKey), (Value.int IntKind.i64 (selZ (wOk sKey sTreeRoot sTreeMidN sTreeLeafN sTreeMidg0 sTreeMidg1 sTreeLeafg0 sTreeLeafg1 sDataN sTagsN sDatag0 sTagsg0 line x) (bR sKey sTreeRoot sTreeMidN sTreeLeafN sTreeMidg0 sTreeMidg1 sTreeLeafg0 sTreeLeafg1 line) sTreeRoot)), (Value.slice ro078 sTreeMidN rc079), (Value.slice ro180 sTreeLeafN rc181), (Value.slice ro282 sDataN rc283), (Value.slice ro384 sTagsN rc385)])), (Value.bool (wOk sKey sTreeRoot sTreeMidN sTreeLeafN sTreeMidg0 sTreeMidg1 sTreeLeafg0 sTreeLeafg1 sDataN sTagsN sDatag0 sTagsg0 line x))])) ∧
     (((Bool.true = Bool.true ∧
     (ro041 = ro078 ∧
     (37 = 37 ∧
     (2 = 2 ∧
     (sTreeMidN = sTreeMidN ∧
     (rc042 = rc079 ∧
     ((∀ i86 : Nat,
     (i86 < sTreeMidN →
     (Value.int IntKind.i64 (bMc sKey sTreeRoot sTreeMidN sTreeLeafN tMidg029 tMidg130 tLeafg031 tLeafg132 line i86)) = (Value.int IntKind.i64 (selZ (wOk sKey sTreeRoot sTreeMidN sTreeLeafN sTreeMidg0 sTreeMidg1 sTreeLeafg0 sTreeLeafg1 sDataN sTagsN sDatag0 sTagsg0 line x) (bMc sKey sTreeRoot sTreeMidN sTreeLeafN sTreeMidg0 sTreeMidg1 sTreeLeafg0 sTreeLeafg1 line i86) (sTreeMidg0 i86))))) ∧
     ((∀ i87 : Nat,
     (i87 < sTreeMidN →
     (Value.int IntKind.i64 (bMt sKey sTreeRoot sTreeMidN sTreeLeafN tMidg029 tMidg130 tLeafg031 tLeafg132 line i87)) = (Value.int IntKind.i64 (selZ (wOk sKey sTreeRoot sTreeMidN sTreeLeafN sTreeMidg0 sTreeMidg1 sTreeLeafg0 sTreeLeafg1 sDataN sTagsN sDatag0 sTagsg0 line x) (bMt sKey sTreeRoot sTreeMidN sTreeLeafN sTreeMidg0 sTreeMidg1 sTreeLeafg0 sTreeLeafg1 line i87) (sTreeMidg1 i87))))) ∧
     True)))))))) ∧
     ((Bool.true = Bool.true ∧
     (ro143 = ro180 ∧
     (37 = 37 ∧
     (2 = 2 ∧
     (sTreeLeafN = sTreeLeafN ∧
     (rc144 = rc181 ∧
     ((∀ i88 : Nat,
     (i88 < sTreeLeafN →
     (Value.int IntKind.i64 (bLc sKey sTreeRoot sTreeMidN sTreeLeafN tMidg029 tMidg130 tLeafg031 tLeafg132 line i88)) = (Value.int IntKind.i64 (selZ (wOk sKey sTreeRoot sTreeMidN sTreeLeafN sTreeMidg0 sTreeMidg1 sTreeLeafg0 sTreeLeafg1 sDataN sTagsN sDatag0 sTagsg0 line x) (bLc sKey sTreeRoot sTreeMidN sTreeLeafN sTreeMidg0 sTreeMidg1 sTreeLeafg0 sTreeLeafg1 line i88) (sTreeLeafg0 i88))))) ∧
     ((∀ i89 : Nat,
     (i89 < sTreeLeafN →
     (Value.int IntKind.i64 (bLt sKey sTreeRoot sTreeMidN sTreeLeafN tMidg029 tMidg130 tLeafg031 tLeafg132 line i89)) = (Value.int IntKind.i64 (selZ (wOk sKey sTreeRoot sTreeMidN sTreeLeafN sTreeMidg0 sTreeMidg1 sTreeLeafg0 sTreeLeafg1 sDataN sTagsN sDatag0 sTagsg0 line x) (bLt sKey sTreeRoot sTreeMidN sTreeLeafN sTreeMidg0 sTreeMidg1 sTreeLeafg0 sTreeLeafg1 line i89) (sTreeLeafg1 i89))))) ∧
     True)))))))) ∧
     ((Bool.true = Bool.true ∧
     (ro224 = ro282 ∧
     (3 = 3 ∧
     (1 = 1 ∧
     (sDataN = sDataN ∧
     (rc225 = rc283 ∧
     ((∀ i90 : Nat,
     (i90 < sDataN →
     (Value.int IntKind.i64 (if i90 = (Int.toNat line) then (sealW sKey line (bLc sKey sTreeRoot sTreeMidN sTreeLeafN tMidg029 tMidg130 tLeafg031 tLeafg132 line (Int.toNat line)) x) else (sDatag06 i90))) = (Value.int IntKind.i64 (wDa sKey sTreeRoot sTreeMidN sTreeLeafN sTreeMidg0 sTreeMidg1 sTreeLeafg0 sTreeLeafg1 sDataN sTagsN sDatag0 sTagsg0 line x i90)))) ∧
     True))))))) ∧
     ((Bool.true = Bool.true ∧
     (ro326 = ro384 ∧
     (3 = 3 ∧
     (1 = 1 ∧
     (sTagsN = sTagsN ∧
     (rc327 = rc385 ∧
     ((∀ i91 : Nat,
     (i91 < sTagsN →
     (Value.int IntKind.i64 (if i91 = (Int.toNat line) then (tagW sKey line (bLc sKey sTreeRoot sTreeMidN sTreeLeafN tMidg029 tMidg130 tLeafg031 tLeafg132 line (Int.toNat line)) (if (Int.toNat line) = (Int.toNat line) then (sealW sKey line (bLc sKey sTreeRoot sTreeMidN sTreeLeafN tMidg029 tMidg130 tLeafg031 tLeafg132 line (Int.toNat line)) x) else (sDatag06 (Int.toNat line)))) else (sTagsg07 i91))) = (Value.int IntKind.i64 (wTa sKey sTreeRoot sTreeMidN sTreeLeafN sTreeMidg0 sTreeMidg1 sTreeLeafg0 sTreeLeafg1 sDataN sTagsN sDatag0 sTagsg0 line x i91)))) ∧
     True))))))) ∧
     True)))) ∧
     Bool.true = Bool.true)))))))))))))))))))))))))))))))))))))))))))))))))))))))))) ∧
   ((!(isW x)) = Bool.true →
   (b28 = b28 ∧
    (b1 = b1 ∧
    (b1 = b1 ∧
    (Exists (fun (ro092 : (Option Addr)) => (Exists (fun (rc093 : Nat) => (Exists (fun (ro194 : (Option Addr)) => (Exists (fun (rc195 : Nat) => (Exists (fun (ro296 : (Option Addr)) => (Exists (fun (rc297 : Nat) => (Exists (fun (ro398 : (Option Addr)) => (Exists (fun (rc399 : Nat) => ((Value.tuple (List.toArray [(Value.agg (List.toArray [(Value.int IntKind.i64 sKey), (Value.int IntKind.i64 sTreeRoot), (Value.slice ro020 sTreeMidN rc021), (Value.slice ro122 sTreeLeafN rc123), (Value.slice ro224 sDataN rc225), (Value.slice ro326 sTagsN rc327)])), (Value.bool Bool.false)])) = (Value.tuple (List.toArray [(Value.agg (List.toArray [(Value.int IntKind.i64 sKey), (Value.int IntKind.i64 (selZ (wOk sKey sTreeRoot sTreeMidN sTreeLeafN sTreeMidg0 sTreeMidg1 sTreeLeafg0 sTreeLeafg1 sDataN sTagsN sDatag0 sTagsg0 line x) (bR sKey sTreeRoot sTreeMidN sTreeLeafN sTreeMidg0 sTreeMidg1 sTreeLeafg0 sTreeLeafg1 line) sTreeRoot)), (Value.slice ro092 sTreeMidN rc093), (Value.slice ro194 sTreeLeafN rc195), (Value.slice ro296 sDataN rc297), (Value.slice ro398 sTagsN rc399)])), (Value.bool (wOk sKey sTreeRoot sTreeMidN sTreeLeafN sTreeMidg0 sTreeMidg1 sTreeLeafg0 sTreeLeafg1 sDataN sTagsN sDatag0 sTagsg0 line x))])) ∧
    (((Bool.true = Bool.true ∧
    (ro020 = ro092 ∧
    (37 = 37 ∧
    (2 = 2 ∧
    (sTreeMidN = sTreeMidN ∧
    (rc021 = rc093 ∧
    ((∀ i100 : Nat,
    (i100 < sTreeMidN →
    (Value.int IntKind.i64 (sTreeMidg02 i100)) = (Value.int IntKind.i64 (selZ (wOk sKey sTreeRoot sTreeMidN sTreeLeafN sTreeMidg0 sTreeMidg1 sTreeLeafg0 sTreeLeafg1 sDataN sTagsN sDatag0 sTagsg0 line x) (bMc sKey sTreeRoot sTreeMidN sTreeLeafN sTreeMidg0 sTreeMidg1 sTreeLeafg0 sTreeLeafg1 line i100) (sTreeMidg0 i100))))) ∧
    ((∀ i101 : Nat,
    (i101 < sTreeMidN →
    (Value.int IntKind.i64 (sTreeMidg13 i101)) = (Value.int IntKind.i64 (selZ (wOk sKey sTreeRoot sTreeMidN sTreeLeafN sTreeMidg0 sTreeMidg1 sTreeLeafg0 sTreeLeafg1 sDataN sTagsN sDatag0 sTagsg0 line x) (bMt sKey sTreeRoot sTreeMidN sTreeLeafN sTreeMidg0 sTreeMidg1 sTreeLeafg0 sTreeLeafg1 line i101) (sTreeMidg1 i101))))) ∧
    True)))))))) ∧
    ((Bool.true = Bool.true ∧
    (ro122 = ro194 ∧
    (37 = 37 ∧
    (2 = 2 ∧
    (sTreeLeafN = sTreeLeafN ∧
    (rc123 = rc195 ∧
    ((∀ i102 : Nat,
    (i102 < sTreeLeafN →
    (Value.int IntKind.i64 (sTreeLeafg04 i102)) = (Value.int IntKind.i64 (selZ (wOk sKey sTreeRoot sTreeMidN sTreeLeafN sTreeMidg0 sTreeMidg1 sTreeLeafg0 sTreeLeafg1 sDataN sTagsN sDatag0 sTagsg0 line x) (bLc sKey sTreeRoot sTreeMidN sTreeLeafN sTreeMidg0 sTreeMidg1 sTreeLeafg0 sTreeLeafg1 line i102) (sTreeLeafg0 i102))))) ∧
    ((∀ i103 : Nat,
    (i103 < sTreeLeafN →
    (Value.int IntKind.i64 (sTreeLeafg15 i103)) = (Value.int IntKind.i64 (selZ (wOk sKey sTreeRoot sTreeMidN sTreeLeafN sTreeMidg0 sTreeMidg1 sTreeLeafg0 sTreeLeafg1 sDataN sTagsN sDatag0 sTagsg0 line x) (bLt sKey sTreeRoot sTreeMidN sTreeLeafN sTreeMidg0 sTreeMidg1 sTreeLeafg0 sTreeLeafg1 line i103) (sTreeLeafg1 i103))))) ∧
    True)))))))) ∧
    ((Bool.true = Bool.true ∧
    (ro224 = ro296 ∧
    (3 = 3 ∧
    (1 = 1 ∧
    (sDataN = sDataN ∧
    (rc225 = rc297 ∧
    ((∀ i104 : Nat,
    (i104 < sDataN →
    (Value.int IntKind.i64 (sDatag06 i104)) = (Value.int IntKind.i64 (wDa sKey sTreeRoot sTreeMidN sTreeLeafN sTreeMidg0 sTreeMidg1 sTreeLeafg0 sTreeLeafg1 sDataN sTagsN sDatag0 sTagsg0 line x i104)))) ∧
    True))))))) ∧
    ((Bool.true = Bool.true ∧
    (ro326 = ro398 ∧
    (3 = 3 ∧
    (1 = 1 ∧
    (sTagsN = sTagsN ∧
    (rc327 = rc399 ∧
    ((∀ i105 : Nat,
    (i105 < sTagsN →
    (Value.int IntKind.i64 (sTagsg07 i105)) = (Value.int IntKind.i64 (wTa sKey sTreeRoot sTreeMidN sTreeLeafN sTreeMidg0 sTreeMidg1 sTreeLeafg0 sTreeLeafg1 sDataN sTagsN sDatag0 sTagsg0 line x i105)))) ∧
    True))))))) ∧
    True)))) ∧
    Bool.true = Bool.true)))))))))))))))))))))))) ∧
  ((!(fitsB sDataN sTagsN)) = Bool.true →
  (b28 = b28 ∧
   (b1 = b1 ∧
   (b1 = b1 ∧
   (Exists (fun (ro0106 : (Option Addr)) => (Exists (fun (rc0107 : Nat) => (Exists (fun (ro1108 : (Option Addr)) => (Exists (fun (rc1109 : Nat) => (Exists (fun (ro2110 : (Option Addr)) => (Exists (fun (rc2111 : Nat) => (Exists (fun (ro3112 : (Option Addr)) => (Exists (fun (rc3113 : Nat) => ((Value.tuple (List.toArray [(Value.agg (List.toArray [(Value.int IntKind.i64 sKey), (Value.int IntKind.i64 sTreeRoot), (Value.slice ro020 sTreeMidN rc021), (Value.slice ro122 sTreeLeafN rc123), (Value.slice ro224 sDataN rc225), (Value.slice ro326 sTagsN rc327)])), (Value.bool Bool.false)])) = (Value.tuple (List.toArray [(Value.agg (List.toArray [(Value.int IntKind.i64 sKey), (Value.int IntKind.i64 (selZ (wOk sKey sTreeRoot sTreeMidN sTreeLeafN sTreeMidg0 sTreeMidg1 sTreeLeafg0 sTreeLeafg1 sDataN sTagsN sDatag0 sTagsg0 line x) (bR sKey sTreeRoot sTreeMidN sTreeLeafN sTreeMidg0 sTreeMidg1 sTreeLeafg0 sTreeLeafg1 line) sTreeRoot)), (Value.slice ro0106 sTreeMidN rc0107), (Value.slice ro1108 sTreeLeafN rc1109), (Value.slice ro2110 sDataN rc2111), (Value.slice ro3112 sTagsN rc3113)])), (Value.bool (wOk sKey sTreeRoot sTreeMidN sTreeLeafN sTreeMidg0 sTreeMidg1 sTreeLeafg0 sTreeLeafg1 sDataN sTagsN sDatag0 sTagsg0 line x))])) ∧
   (((Bool.true = Bool.true ∧
   (ro020 = ro0106 ∧
   (37 = 37 ∧
   (2 = 2 ∧
   (sTreeMidN = sTreeMidN ∧
   (rc021 = rc0107 ∧
   ((∀ i114 : Nat,
   (i114 < sTreeMidN →
   (Value.int IntKind.i64 (sTreeMidg02 i114)) = (Value.int IntKind.i64 (selZ (wOk sKey sTreeRoot sTreeMidN sTreeLeafN sTreeMidg0 sTreeMidg1 sTreeLeafg0 sTreeLeafg1 sDataN sTagsN sDatag0 sTagsg0 line x) (bMc sKey sTreeRoot sTreeMidN sTreeLeafN sTreeMidg0 sTreeMidg1 sTreeLeafg0 sTreeLeafg1 line i114) (sTreeMidg0 i114))))) ∧
   ((∀ i115 : Nat,
   (i115 < sTreeMidN →
   (Value.int IntKind.i64 (sTreeMidg13 i115)) = (Value.int IntKind.i64 (selZ (wOk sKey sTreeRoot sTreeMidN sTreeLeafN sTreeMidg0 sTreeMidg1 sTreeLeafg0 sTreeLeafg1 sDataN sTagsN sDatag0 sTagsg0 line x) (bMt sKey sTreeRoot sTreeMidN sTreeLeafN sTreeMidg0 sTreeMidg1 sTreeLeafg0 sTreeLeafg1 line i115) (sTreeMidg1 i115))))) ∧
   True)))))))) ∧
   ((Bool.true = Bool.true ∧
   (ro122 = ro1108 ∧
   (37 = 37 ∧
   (2 = 2 ∧
   (sTreeLeafN = sTreeLeafN ∧
   (rc123 = rc1109 ∧
   ((∀ i116 : Nat,
   (i116 < sTreeLeafN →
   (Value.int IntKind.i64 (sTreeLeafg04 i116)) = (Value.int IntKind.i64 (selZ (wOk sKey sTreeRoot sTreeMidN sTreeLeafN sTreeMidg0 sTreeMidg1 sTreeLeafg0 sTreeLeafg1 sDataN sTagsN sDatag0 sTagsg0 line x) (bLc sKey sTreeRoot sTreeMidN sTreeLeafN sTreeMidg0 sTreeMidg1 sTreeLeafg0 sTreeLeafg1 line i116) (sTreeLeafg0 i116))))) ∧
   ((∀ i117 : Nat,
   (i117 < sTreeLeafN →
   (Value.int IntKind.i64 (sTreeLeafg15 i117)) = (Value.int IntKind.i64 (selZ (wOk sKey sTreeRoot sTreeMidN sTreeLeafN sTreeMidg0 sTreeMidg1 sTreeLeafg0 sTreeLeafg1 sDataN sTagsN sDatag0 sTagsg0 line x) (bLt sKey sTreeRoot sTreeMidN sTreeLeafN sTreeMidg0 sTreeMidg1 sTreeLeafg0 sTreeLeafg1 line i117) (sTreeLeafg1 i117))))) ∧
   True)))))))) ∧
   ((Bool.true = Bool.true ∧
   (ro224 = ro2110 ∧
   (3 = 3 ∧
   (1 = 1 ∧
   (sDataN = sDataN ∧
   (rc225 = rc2111 ∧
   ((∀ i118 : Nat,
   (i118 < sDataN →
   (Value.int IntKind.i64 (sDatag06 i118)) = (Value.int IntKind.i64 (wDa sKey sTreeRoot sTreeMidN sTreeLeafN sTreeMidg0 sTreeMidg1 sTreeLeafg0 sTreeLeafg1 sDataN sTagsN sDatag0 sTagsg0 line x i118)))) ∧
   True))))))) ∧
   ((Bool.true = Bool.true ∧
   (ro326 = ro3112 ∧
   (3 = 3 ∧
   (1 = 1 ∧
   (sTagsN = sTagsN ∧
   (rc327 = rc3113 ∧
   ((∀ i119 : Nat,
   (i119 < sTagsN →
   (Value.int IntKind.i64 (sTagsg07 i119)) = (Value.int IntKind.i64 (wTa sKey sTreeRoot sTreeMidN sTreeLeafN sTreeMidg0 sTreeMidg1 sTreeLeafg0 sTreeLeafg1 sDataN sTagsN sDatag0 sTagsg0 line x i119)))) ∧
   True))))))) ∧
   True)))) ∧
   Bool.true = Bool.true))))))))))))))))))))))))))))))))))))))))))))))))))))))))))))))))))))))))))))))))) := by kernel_rfl
theorem swriteI_any (sKey : Int) (sTreeRoot : Int) (sTreeMidO : Option Addr) (sTreeMidN sTreeMidC : Nat) (sTreeMidg0 sTreeMidg1 : Nat → Int) (sTreeLeafO : Option Addr) (sTreeLeafN sTreeLeafC : Nat) (sTreeLeafg0 sTreeLeafg1 : Nat → Int) (sDataO : Option Addr) (sDataN sDataC : Nat) (sDatag0 : Nat → Int) (sTagsO : Option Addr) (sTagsN sTagsC : Nat) (sTagsg0 : Nat → Int) (line : Int) (x : Int) (w : World) (hrsTreeMid : Row.sat w ⟨false, sTreeMidO, 0, 2, sTreeMidN, 0, [fun i => .int (sTreeMidg0 i), fun i => .int (sTreeMidg1 i)]⟩) (hrsTreeLeaf : Row.sat w ⟨false, sTreeLeafO, 0, 2, sTreeLeafN, 0, [fun i => .int (sTreeLeafg0 i), fun i => .int (sTreeLeafg1 i)]⟩) (hrsData : Row.sat w ⟨false, sDataO, 0, 1, sDataN, 0, [fun i => .int (sDatag0 i)]⟩) (hrsTags : Row.sat w ⟨false, sTagsO, 0, 1, sTagsN, 0, [fun i => .int (sTagsg0 i)]⟩) (hpre : capC sTreeMidN ∧ capC sTreeLeafN ∧ capC sDataN ∧ capC sTagsN) : Calls Try.prog 25 #[.agg #[.int .i64 sKey, .int .i64 sTreeRoot, .slice sTreeMidO sTreeMidN sTreeMidC, .slice sTreeLeafO sTreeLeafN sTreeLeafC, .slice sDataO sDataN sDataC, .slice sTagsO sTagsN sTagsC], .int .i64 line, .int .i64 x] w fun e w' => ∃ (ro0 : Option Addr) (rc0 : Nat) (ro1 : Option Addr) (rc1 : Nat) (ro2 : Option Addr) (rc2 : Nat) (ro3 : Option Addr) (rc3 : Nat), e = .returned (.tuple #[.agg #[.int .i64 (sKey), .int .i64 (selZ (wOk sKey sTreeRoot sTreeMidN sTreeLeafN sTreeMidg0 sTreeMidg1 sTreeLeafg0 sTreeLeafg1 sDataN sTagsN sDatag0 sTagsg0 line x) (bR sKey sTreeRoot sTreeMidN sTreeLeafN sTreeMidg0 sTreeMidg1 sTreeLeafg0 sTreeLeafg1 line) sTreeRoot), .slice ro0 (sTreeMidN) rc0, .slice ro1 (sTreeLeafN) rc1, .slice ro2 (sDataN) rc2, .slice ro3 (sTagsN) rc3], .bool (wOk sKey sTreeRoot sTreeMidN sTreeLeafN sTreeMidg0 sTreeMidg1 sTreeLeafg0 sTreeLeafg1 sDataN sTagsN sDatag0 sTagsg0 line x)]) ∧ HS ⟨w, fun _ => False⟩ [.row ⟨true, ro0, 37, 2, sTreeMidN, rc0, [fun i => .int (selZ (wOk sKey sTreeRoot sTreeMidN sTreeLeafN sTreeMidg0 sTreeMidg1 sTreeLeafg0 sTreeLeafg1 sDataN sTagsN sDatag0 sTagsg0 line x) (bMc sKey sTreeRoot sTreeMidN sTreeLeafN sTreeMidg0 sTreeMidg1 sTreeLeafg0 sTreeLeafg1 line i) (sTreeMidg0 i)), fun i => .int (selZ (wOk sKey sTreeRoot sTreeMidN sTreeLeafN sTreeMidg0 sTreeMidg1 sTreeLeafg0 sTreeLeafg1 sDataN sTagsN sDatag0 sTagsg0 line x) (bMt sKey sTreeRoot sTreeMidN sTreeLeafN sTreeMidg0 sTreeMidg1 sTreeLeafg0 sTreeLeafg1 line i) (sTreeMidg1 i))]⟩, .row ⟨true, ro1, 37, 2, sTreeLeafN, rc1, [fun i => .int (selZ (wOk sKey sTreeRoot sTreeMidN sTreeLeafN sTreeMidg0 sTreeMidg1 sTreeLeafg0 sTreeLeafg1 sDataN sTagsN sDatag0 sTagsg0 line x) (bLc sKey sTreeRoot sTreeMidN sTreeLeafN sTreeMidg0 sTreeMidg1 sTreeLeafg0 sTreeLeafg1 line i) (sTreeLeafg0 i)), fun i => .int (selZ (wOk sKey sTreeRoot sTreeMidN sTreeLeafN sTreeMidg0 sTreeMidg1 sTreeLeafg0 sTreeLeafg1 sDataN sTagsN sDatag0 sTagsg0 line x) (bLt sKey sTreeRoot sTreeMidN sTreeLeafN sTreeMidg0 sTreeMidg1 sTreeLeafg0 sTreeLeafg1 line i) (sTreeLeafg1 i))]⟩, .row ⟨true, ro2, 3, 1, sDataN, rc2, [fun i => .int (wDa sKey sTreeRoot sTreeMidN sTreeLeafN sTreeMidg0 sTreeMidg1 sTreeLeafg0 sTreeLeafg1 sDataN sTagsN sDatag0 sTagsg0 line x i)]⟩, .row ⟨true, ro3, 3, 1, sTagsN, rc3, [fun i => .int (wTa sKey sTreeRoot sTreeMidN sTreeLeafN sTreeMidg0 sTreeMidg1 sTreeLeafg0 sTreeLeafg1 sDataN sTagsN sDatag0 sTagsg0 line x i)]⟩] w' := by
  refine fnB (tb := [(43, sCopyS), (12, sBump), (45, sFits), (29, sIsW), (52, iPut)]) ⟨sCopyS_ok_copySI, sBump_ok_bumpI, sFits_ok_fitsI, sIsW_impl, iPut_ok, trivial⟩ Try.func25 (@Eq.mpr _ _ (swriteI_T sKey sTreeRoot sTreeMidO sTreeMidN sTreeMidC sTreeMidg0 sTreeMidg1 sTreeLeafO sTreeLeafN sTreeLeafC sTreeLeafg0 sTreeLeafg1 sDataO sDataN sDataC sDatag0 sTagsO sTagsN sTagsC sTagsg0 line x) ?_) (HS.rows (fun _ => False) [⟨false, sTreeMidO, 0, 2, sTreeMidN, 0, [fun i => .int (sTreeMidg0 i), fun i => .int (sTreeMidg1 i)]⟩, ⟨false, sTreeLeafO, 0, 2, sTreeLeafN, 0, [fun i => .int (sTreeLeafg0 i), fun i => .int (sTreeLeafg1 i)]⟩, ⟨false, sDataO, 0, 1, sDataN, 0, [fun i => .int (sDatag0 i)]⟩, ⟨false, sTagsO, 0, 1, sTagsN, 0, [fun i => .int (sTagsg0 i)]⟩] (by simp; exact ⟨hrsTreeMid, hrsTreeLeaf, hrsData, hrsTags⟩)) (fun v ch' w' ⟨ro0, rc0, ro1, rc1, ro2, rc2, ro3, rc3, hk⟩ hs => ⟨ro0, rc0, ro1, rc1, ro2, rc2, ro3, rc3, by rw [hk.1], hk.hs hs⟩)
  clear hrsTreeMid hrsTreeLeaf hrsData hrsTags
  cases hb : bOk sKey sTreeRoot sTreeMidN sTreeLeafN sTreeMidg0 sTreeMidg1 sTreeLeafg0 sTreeLeafg1 line <;> cases hf : fitsB sDataN sTagsN <;> cases hw : isW x
  case true.true.true =>
    obtain ⟨hl, ht, _⟩ := bOk_facts hb
    obtain ⟨hn, hm, _⟩ := treeB_facts ht
    obtain ⟨hdn, htn⟩ := fits_facts hf
    have hok : wOk sKey sTreeRoot sTreeMidN sTreeLeafN sTreeMidg0 sTreeMidg1 sTreeLeafg0 sTreeLeafg1 sDataN sTagsN sDatag0 sTagsg0 line x = true := by simp [wOk, hb, hf, hw]
    repeat' (first
      | with_reducible exact rfl
      | exact True.intro
      | assumption
      | refine And.intro ?_ ?_
      | apply Exists.intro
      | (intro h; exfalso; simp [hb, hf, hw] at h; done)
      | (intro h; exfalso; simp [hb, hf, hw] at h; omega)
      | intro _
      | omega
      | (simp; omega))
    all_goals simp [selZ, wDa, wTa, hok]
  all_goals
    have hok : wOk sKey sTreeRoot sTreeMidN sTreeLeafN sTreeMidg0 sTreeMidg1 sTreeLeafg0 sTreeLeafg1 sDataN sTagsN sDatag0 sTagsg0 line x = false := by simp [wOk, hb, hf, hw]
    repeat' (first
      | with_reducible exact rfl
      | exact True.intro
      | assumption
      | refine And.intro ?_ ?_
      | apply Exists.intro
      | (intro h; exfalso; simp [hb, hf, hw] at h; done)
      | (intro h; exfalso; simp [hb, hf, hw] at h; omega)
      | intro _
      | omega
      | (simp; omega))
    all_goals simp [selZ, wDa, wTa, hok]
theorem swriteS_T (sKey : Int) (sTreeRoot : Int) (sTreeMidO : Option Addr) (sTreeMidN sTreeMidC : Nat) (sTreeMidg0 sTreeMidg1 : Nat → Int) (sTreeLeafO : Option Addr) (sTreeLeafN sTreeLeafC : Nat) (sTreeLeafg0 sTreeLeafg1 : Nat → Int) (sDataO : Option Addr) (sDataN sDataC : Nat) (sDatag0 : Nat → Int) (sTagsO : Option Addr) (sTagsN sTagsC : Nat) (sTagsg0 : Nat → Int) (line : Int) (x : Int) : (exFn Try.prog {tb := [(48, sCopyS), (16, sBump), (49, sFits), (34, sIsW), (50, sSeal), (51, sTag)]} 400 Try.f22 ([.a (.agg [.int sKey, .int sTreeRoot, .sl 0 sTreeMidO sTreeMidN sTreeMidC, .sl 1 sTreeLeafO sTreeLeafN sTreeLeafC, .sl 2 sDataO sDataN sDataC, .sl 3 sTagsO sTagsN sTagsC]), .a (.c (.int line)), .a (.c (.int x))]) ([.row ⟨false, sTreeMidO, 0, 2, sTreeMidN, 0, [fun i => .int (sTreeMidg0 i), fun i => .int (sTreeMidg1 i)]⟩, .row ⟨false, sTreeLeafO, 0, 2, sTreeLeafN, 0, [fun i => .int (sTreeLeafg0 i), fun i => .int (sTreeLeafg1 i)]⟩, .row ⟨false, sDataO, 0, 1, sDataN, 0, [fun i => .int (sDatag0 i)]⟩, .row ⟨false, sTagsO, 0, 1, sTagsN, 0, [fun i => .int (sTagsg0 i)]⟩]) (fun v ch => ∃ (ro0 : Option Addr) (rc0 : Nat) (ro1 : Option Addr) (rc1 : Nat) (ro2 : Option Addr) (rc2 : Nat) (ro3 : Option Addr) (rc3 : Nat), OutR v ch (.tuple #[.agg #[.int .i64 (sKey), .int .i64 (selZ (wOk sKey sTreeRoot sTreeMidN sTreeLeafN sTreeMidg0 sTreeMidg1 sTreeLeafg0 sTreeLeafg1 sDataN sTagsN sDatag0 sTagsg0 line x) (bR sKey sTreeRoot sTreeMidN sTreeLeafN sTreeMidg0 sTreeMidg1 sTreeLeafg0 sTreeLeafg1 line) sTreeRoot), .slice ro0 (sTreeMidN) rc0, .slice ro1 (sTreeLeafN) rc1, .slice ro2 (sDataN) rc2, .slice ro3 (sTagsN) rc3], .bool (wOk sKey sTreeRoot sTreeMidN sTreeLeafN sTreeMidg0 sTreeMidg1 sTreeLeafg0 sTreeLeafg1 sDataN sTagsN sDatag0 sTagsg0 line x)]) [.row ⟨true, ro0, 37, 2, sTreeMidN, rc0, [fun i => .int (selZ (wOk sKey sTreeRoot sTreeMidN sTreeLeafN sTreeMidg0 sTreeMidg1 sTreeLeafg0 sTreeLeafg1 sDataN sTagsN sDatag0 sTagsg0 line x) (bMc sKey sTreeRoot sTreeMidN sTreeLeafN sTreeMidg0 sTreeMidg1 sTreeLeafg0 sTreeLeafg1 line i) (sTreeMidg0 i)), fun i => .int (selZ (wOk sKey sTreeRoot sTreeMidN sTreeLeafN sTreeMidg0 sTreeMidg1 sTreeLeafg0 sTreeLeafg1 sDataN sTagsN sDatag0 sTagsg0 line x) (bMt sKey sTreeRoot sTreeMidN sTreeLeafN sTreeMidg0 sTreeMidg1 sTreeLeafg0 sTreeLeafg1 line i) (sTreeMidg1 i))]⟩, .row ⟨true, ro1, 37, 2, sTreeLeafN, rc1, [fun i => .int (selZ (wOk sKey sTreeRoot sTreeMidN sTreeLeafN sTreeMidg0 sTreeMidg1 sTreeLeafg0 sTreeLeafg1 sDataN sTagsN sDatag0 sTagsg0 line x) (bLc sKey sTreeRoot sTreeMidN sTreeLeafN sTreeMidg0 sTreeMidg1 sTreeLeafg0 sTreeLeafg1 line i) (sTreeLeafg0 i)), fun i => .int (selZ (wOk sKey sTreeRoot sTreeMidN sTreeLeafN sTreeMidg0 sTreeMidg1 sTreeLeafg0 sTreeLeafg1 sDataN sTagsN sDatag0 sTagsg0 line x) (bLt sKey sTreeRoot sTreeMidN sTreeLeafN sTreeMidg0 sTreeMidg1 sTreeLeafg0 sTreeLeafg1 line i) (sTreeLeafg1 i))]⟩, .row ⟨true, ro2, 3, 1, sDataN, rc2, [fun i => .int (wDa sKey sTreeRoot sTreeMidN sTreeLeafN sTreeMidg0 sTreeMidg1 sTreeLeafg0 sTreeLeafg1 sDataN sTagsN sDatag0 sTagsg0 line x i)]⟩, .row ⟨true, ro3, 3, 1, sTagsN, rc3, [fun i => .int (wTa sKey sTreeRoot sTreeMidN sTreeLeafN sTreeMidg0 sTreeMidg1 sTreeLeafg0 sTreeLeafg1 sDataN sTagsN sDatag0 sTagsg0 line x i)]⟩])) = (
  (∀ b0 : Nat,
  (∀ b1 : Nat,
  (b0 = b0 ∧
  (Exists (fun (sTreeMidg02 : (Nat →
  Int)) => (Exists (fun (sTreeMidg13 : (Nat →
  Int)) => (Exists (fun (sTreeLeafg04 : (Nat →
  Int)) => (Exists (fun (sTreeLeafg15 : (Nat →
  Int)) => (Exists (fun (sDatag06 : (Nat →
  Int)) => (Exists (fun (sTagsg07 : (Nat →
  Int)) => ((sTreeMidO = sTreeMidO ∧
  (sTreeMidN = sTreeMidN ∧
  ([(fun (i8 : Nat) => (SC.int (sTreeMidg0 i8))), (fun (i9 : Nat) => (SC.int (sTreeMidg1 i9)))] = [(fun (i10 : Nat) => (SC.int (sTreeMidg02 i10))), (fun (i11 : Nat) => (SC.int (sTreeMidg13 i11)))] ∧
  (sTreeLeafO = sTreeLeafO ∧
  (sTreeLeafN = sTreeLeafN ∧
  ([(fun (i12 : Nat) => (SC.int (sTreeLeafg0 i12))), (fun (i13 : Nat) => (SC.int (sTreeLeafg1 i13)))] = [(fun (i14 : Nat) => (SC.int (sTreeLeafg04 i14))), (fun (i15 : Nat) => (SC.int (sTreeLeafg15 i15)))] ∧
  (sDataO = sDataO ∧
  (sDataN = sDataN ∧
  ([(fun (i16 : Nat) => (SC.int (sDatag0 i16)))] = [(fun (i17 : Nat) => (SC.int (sDatag06 i17)))] ∧
  (sTagsO = sTagsO ∧
  (sTagsN = sTagsN ∧
  ([(fun (i18 : Nat) => (SC.int (sTagsg0 i18)))] = [(fun (i19 : Nat) => (SC.int (sTagsg07 i19)))] ∧
  ((capC sTreeMidN) ∧
  ((capC sTreeLeafN) ∧
  ((capC sDataN) ∧
  (capC sTagsN)))))))))))))))) ∧
  (∀ ro020 : (Option Addr),
  (∀ rc021 : Nat,
  (∀ ro122 : (Option Addr),
  (∀ rc123 : Nat,
  (∀ ro224 : (Option Addr),
  (∀ rc225 : Nat,
  (∀ ro326 : (Option Addr),
  (∀ rc327 : Nat,
  (∀ b28 : Nat,
  (b28 = b28 ∧
  (b0 = b0 ∧
  (b0 = b0 ∧
  (Exists (fun (tMidg029 : (Nat →
  Int)) => (Exists (fun (tMidg130 : (Nat →
  Int)) => (Exists (fun (tLeafg031 : (Nat →
  Int)) => (Exists (fun (tLeafg132 : (Nat →
  Int)) => ((sTreeMidO = sTreeMidO ∧
  (sTreeMidN = sTreeMidN ∧
  ([(fun (i33 : Nat) => (SC.int (sTreeMidg0 i33))), (fun (i34 : Nat) => (SC.int (sTreeMidg1 i34)))] = [(fun (i35 : Nat) => (SC.int (tMidg029 i35))), (fun (i36 : Nat) => (SC.int (tMidg130 i36)))] ∧
  (sTreeLeafO = sTreeLeafO ∧
  (sTreeLeafN = sTreeLeafN ∧
  ([(fun (i37 : Nat) => (SC.int (sTreeLeafg0 i37))), (fun (i38 : Nat) => (SC.int (sTreeLeafg1 i38)))] = [(fun (i39 : Nat) => (SC.int (tLeafg031 i39))), (fun (i40 : Nat) => (SC.int (tLeafg132 i40)))] ∧
  ((capC sTreeMidN) ∧
  (capC sTreeLeafN)))))))) ∧
  (∀ ro041 : (Option Addr),
  (∀ rc042 : Nat,
  (∀ ro143 : (Option Addr),
  (∀ rc144 : Nat,
  (∀ b45 : Nat,
  (b45 = b45 ∧
  (((!(bOk sKey sTreeRoot sTreeMidN sTreeLeafN tMidg029 tMidg130 tLeafg031 tLeafg132 line)) = Bool.false →
  (b0 = b0 ∧
   (Exists (fun (sTreeMidg046 : (Nat →
   Int)) => (Exists (fun (sTreeMidg147 : (Nat →
   Int)) => (Exists (fun (sTreeLeafg048 : (Nat →
   Int)) => (Exists (fun (sTreeLeafg149 : (Nat →
   Int)) => (Exists (fun (sDatag050 : (Nat →
   Int)) => (Exists (fun (sTagsg051 : (Nat →
   Int)) => ((sTreeMidO = sTreeMidO ∧
   (sTreeMidN = sTreeMidN ∧
   ([(fun (i52 : Nat) => (SC.int (sTreeMidg0 i52))), (fun (i53 : Nat) => (SC.int (sTreeMidg1 i53)))] = [(fun (i54 : Nat) => (SC.int (sTreeMidg046 i54))), (fun (i55 : Nat) => (SC.int (sTreeMidg147 i55)))] ∧
   (sTreeLeafO = sTreeLeafO ∧
   (sTreeLeafN = sTreeLeafN ∧
   ([(fun (i56 : Nat) => (SC.int (sTreeLeafg0 i56))), (fun (i57 : Nat) => (SC.int (sTreeLeafg1 i57)))] = [(fun (i58 : Nat) => (SC.int (sTreeLeafg048 i58))), (fun (i59 : Nat) => (SC.int (sTreeLeafg149 i59)))] ∧
   (sDataO = sDataO ∧
   (sDataN = sDataN ∧
   ([(fun (i60 : Nat) => (SC.int (sDatag0 i60)))] = [(fun (i61 : Nat) => (SC.int (sDatag050 i61)))] ∧
   (sTagsO = sTagsO ∧
   (sTagsN = sTagsN ∧
   [(fun (i62 : Nat) => (SC.int (sTagsg0 i62)))] = [(fun (i63 : Nat) => (SC.int (sTagsg051 i63)))]))))))))))) ∧
   (((!(fitsB sDataN sTagsN)) = Bool.false →
   (((!(isW x)) = Bool.true →
    (b28 = b28 ∧
     (b1 = b1 ∧
     (b1 = b1 ∧
     (Exists (fun (ro064 : (Option Addr)) => (Exists (fun (rc065 : Nat) => (Exists (fun (ro166 : (Option Addr)) => (Exists (fun (rc167 : Nat) => (Exists (fun (ro268 : (Option Addr)) => (Exists (fun (rc269 : Nat) => (Exists (fun (ro370 : (Option Addr)) => (Exists (fun (rc371 : Nat) => ((Value.tuple (List.toArray [(Value.agg (List.toArray [(Value.int IntKind.i64 sKey), (Value.int IntKind.i64 sTreeRoot), (Value.slice ro020 sTreeMidN rc021), (Value.slice ro122 sTreeLeafN rc123), (Value.slice ro224 sDataN rc225), (Value.slice ro326 sTagsN rc327)])), (Value.bool Bool.false)])) = (Value.tuple (List.toArray [(Value.agg (List.toArray [(Value.int IntKind.i64 sKey), (Value.int IntKind.i64 (selZ (wOk sKey sTreeRoot sTreeMidN sTreeLeafN sTreeMidg0 sTreeMidg1 sTreeLeafg0 sTreeLeafg1 sDataN sTagsN sDatag0 sTagsg0 line x) (bR sKey sTreeRoot sTreeMidN sTreeLeafN sTreeMidg0 sTreeMidg1 sTreeLeafg0 sTreeLeafg1 line) sTreeRoot)), (Value.slice ro064 sTreeMidN rc065), (Value.slice ro166 sTreeLeafN rc167), (Value.slice ro268 sDataN rc269), (Value.slice ro370 sTagsN rc371)])), (Value.bool (wOk sKey sTreeRoot sTreeMidN sTreeLeafN sTreeMidg0 sTreeMidg1 sTreeLeafg0 sTreeLeafg1 sDataN sTagsN sDatag0 sTagsg0 line x))])) ∧
     (((Bool.true = Bool.true ∧
     (ro020 = ro064 ∧
     (37 = 37 ∧
     (2 = 2 ∧
     (sTreeMidN = sTreeMidN ∧
     (rc021 = rc065 ∧
     ((∀ i72 : Nat,
     (i72 < sTreeMidN →
     (Value.int IntKind.i64 (sTreeMidg02 i72)) = (Value.int IntKind.i64 (selZ (wOk sKey sTreeRoot sTreeMidN sTreeLeafN sTreeMidg0 sTreeMidg1 sTreeLeafg0 sTreeLeafg1 sDataN sTagsN sDatag0 sTagsg0 line x) (bMc sKey sTreeRoot sTreeMidN sTreeLeafN sTreeMidg0 sTreeMidg1 sTreeLeafg0 sTreeLeafg1 line i72) (sTreeMidg0 i72))))) ∧
     ((∀ i73 : Nat,
     (i73 < sTreeMidN →
     (Value.int IntKind.i64 (sTreeMidg13 i73)) = (Value.int IntKind.i64 (selZ (wOk sKey sTreeRoot sTreeMidN sTreeLeafN sTreeMidg0 sTreeMidg1 sTreeLeafg0 sTreeLeafg1 sDataN sTagsN sDatag0 sTagsg0 line x) (bMt sKey sTreeRoot sTreeMidN sTreeLeafN sTreeMidg0 sTreeMidg1 sTreeLeafg0 sTreeLeafg1 line i73) (sTreeMidg1 i73))))) ∧
     True)))))))) ∧
     ((Bool.true = Bool.true ∧
     (ro122 = ro166 ∧
     (37 = 37 ∧
     (2 = 2 ∧
     (sTreeLeafN = sTreeLeafN ∧
     (rc123 = rc167 ∧
     ((∀ i74 : Nat,
     (i74 < sTreeLeafN →
     (Value.int IntKind.i64 (sTreeLeafg04 i74)) = (Value.int IntKind.i64 (selZ (wOk sKey sTreeRoot sTreeMidN sTreeLeafN sTreeMidg0 sTreeMidg1 sTreeLeafg0 sTreeLeafg1 sDataN sTagsN sDatag0 sTagsg0 line x) (bLc sKey sTreeRoot sTreeMidN sTreeLeafN sTreeMidg0 sTreeMidg1 sTreeLeafg0 sTreeLeafg1 line i74) (sTreeLeafg0 i74))))) ∧
     ((∀ i75 : Nat,
     (i75 < sTreeLeafN →
     (Value.int IntKind.i64 (sTreeLeafg15 i75)) = (Value.int IntKind.i64 (selZ (wOk sKey sTreeRoot sTreeMidN sTreeLeafN sTreeMidg0 sTreeMidg1 sTreeLeafg0 sTreeLeafg1 sDataN sTagsN sDatag0 sTagsg0 line x) (bLt sKey sTreeRoot sTreeMidN sTreeLeafN sTreeMidg0 sTreeMidg1 sTreeLeafg0 sTreeLeafg1 line i75) (sTreeLeafg1 i75))))) ∧
     True)))))))) ∧
     ((Bool.true = Bool.true ∧
     (ro224 = ro268 ∧
     (3 = 3 ∧
     (1 = 1 ∧
     (sDataN = sDataN ∧
     (rc225 = rc269 ∧
     ((∀ i76 : Nat,
     (i76 < sDataN →
     (Value.int IntKind.i64 (sDatag06 i76)) = (Value.int IntKind.i64 (wDa sKey sTreeRoot sTreeMidN sTreeLeafN sTreeMidg0 sTreeMidg1 sTreeLeafg0 sTreeLeafg1 sDataN sTagsN sDatag0 sTagsg0 line x i76)))) ∧
     True))))))) ∧
     ((Bool.true = Bool.true ∧
     (ro326 = ro370 ∧
     (3 = 3 ∧
     (1 = 1 ∧
     (sTagsN = sTagsN ∧
     (rc327 = rc371 ∧
     ((∀ i77 : Nat,
     (i77 < sTagsN →
     (Value.int IntKind.i64 (sTagsg07 i77)) = (Value.int IntKind.i64 (wTa sKey sTreeRoot sTreeMidN sTreeLeafN sTreeMidg0 sTreeMidg1 sTreeLeafg0 sTreeLeafg1 sDataN sTagsN sDatag0 sTagsg0 line x i77)))) ∧
     True))))))) ∧
     True)))) ∧
     Bool.true = Bool.true)))))))))))))))))))))) ∧
    ((!(isW x)) = Bool.false →
    (b45 = b45 ∧
     (ro143 = ro143 ∧
     (sTreeLeafN = sTreeLeafN ∧
     ((0 ≤ line ∧ line < ((sTreeLeafN : Nat) : Int)) ∧
     (ro143 = ro143 ∧
     ((Int.toNat line) < sTreeLeafN ∧
     (ro143 = ro143 ∧
     ((Int.toNat line) < sTreeLeafN ∧
     (b45 = b45 ∧
     (b28 = b28 ∧
     (b28 = b28 ∧
     (b0 = b0 ∧
     (True ∧
     (ro224 = ro224 ∧
     (sDataN = sDataN ∧
     ((0 ≤ line ∧ line < ((sDataN : Nat) : Int)) ∧
     (ro224 = ro224 ∧
     ((Int.toNat line) < sDataN ∧
     (True ∧
     (b28 = b28 ∧
     (b0 = b0 ∧
     (b28 = b28 ∧
     (ro224 = ro224 ∧
     (sDataN = sDataN ∧
     ((0 ≤ line ∧ line < ((sDataN : Nat) : Int)) ∧
     (ro224 = ro224 ∧
     ((Int.toNat line) < sDataN ∧
     (True ∧
     (ro326 = ro326 ∧
     (sTagsN = sTagsN ∧
     ((0 ≤ line ∧ line < ((sTagsN : Nat) : Int)) ∧
     (ro326 = ro326 ∧
     ((Int.toNat line) < sTagsN ∧
     (True ∧
     (b28 = b28 ∧
     (b1 = b1 ∧
     (b1 = b1 ∧
     (Exists (fun (ro078 : (Option Addr)) => (Exists (fun (rc079 : Nat) => (Exists (fun (ro180 : (Option Addr)) => (Exists (fun (rc181 : Nat) => (Exists (fun (ro282 : (Option Addr)) => (Exists (fun (rc283 : Nat) => (Exists (fun (ro384 : (Option Addr)) => (Exists (fun (rc385 : Nat) => ((Value.tuple (List.toArray [(Value.agg (List.toArray [(Value.int IntKind.i64 sKey), (Value.int IntKind.i64 (bR sKey sTreeRoot sTreeMidN sTreeLeafN tMidg029 tMidg130 tLeafg031 tLeafg132 line)), (Value.slice ro041 sTreeMidN rc042), (Value.slice ro143 sTreeLeafN rc144), (Value.slice ro224 sDataN rc225), (Value.slice ro326 sTagsN rc327)])), (Value.bool Bool.true)])) = (Value.tuple (List.toArray [(Value.agg (List.toArray [(Value.int IntKind.i64 sKey), (Value.int IntKind.i64 (selZ (wOk sKey sTreeRoot sTreeMidN sTreeLeafN sTreeMidg0 sTreeMidg1 sTreeLeafg0 sTreeLeafg1 sDataN sTagsN sDatag0 sTagsg0 line x) (bR sKey sTreeRoot sTreeMidN sTreeLeafN sTreeMidg0 sTreeMidg1 sTreeLeafg0 sTreeLeafg1 line) sTreeRoot)), (Value.slice ro078 sTreeMidN rc079), (Value.slice ro180 sTreeLeafN rc181), (Value.slice ro282 sDataN rc283), (Value.slice ro384 sTagsN rc385)])), (Value.bool (wOk sKey sTreeRoot sTreeMidN sTreeLeafN sTreeMidg0 sTreeMidg1 sTreeLeafg0 sTreeLeafg1 sDataN sTagsN sDatag0 sTagsg0 line x))])) ∧
     (((Bool.true = Bool.true ∧
     (ro041 = ro078 ∧
     (37 = 37 ∧
     (2 = 2 ∧
     (sTreeMidN = sTreeMidN ∧
     (rc042 = rc079 ∧
     ((∀ i86 : Nat,
     (i86 < sTreeMidN →
     (Value.int IntKind.i64 (bMc sKey sTreeRoot sTreeMidN sTreeLeafN tMidg029 tMidg130 tLeafg031 tLeafg132 line i86)) = (Value.int IntKind.i64 (selZ (wOk sKey sTreeRoot sTreeMidN sTreeLeafN sTreeMidg0 sTreeMidg1 sTreeLeafg0 sTreeLeafg1 sDataN sTagsN sDatag0 sTagsg0 line x) (bMc sKey sTreeRoot sTreeMidN sTreeLeafN sTreeMidg0 sTreeMidg1 sTreeLeafg0 sTreeLeafg1 line i86) (sTreeMidg0 i86))))) ∧
     ((∀ i87 : Nat,
     (i87 < sTreeMidN →
     (Value.int IntKind.i64 (bMt sKey sTreeRoot sTreeMidN sTreeLeafN tMidg029 tMidg130 tLeafg031 tLeafg132 line i87)) = (Value.int IntKind.i64 (selZ (wOk sKey sTreeRoot sTreeMidN sTreeLeafN sTreeMidg0 sTreeMidg1 sTreeLeafg0 sTreeLeafg1 sDataN sTagsN sDatag0 sTagsg0 line x) (bMt sKey sTreeRoot sTreeMidN sTreeLeafN sTreeMidg0 sTreeMidg1 sTreeLeafg0 sTreeLeafg1 line i87) (sTreeMidg1 i87))))) ∧
     True)))))))) ∧
     ((Bool.true = Bool.true ∧
     (ro143 = ro180 ∧
     (37 = 37 ∧
     (2 = 2 ∧
     (sTreeLeafN = sTreeLeafN ∧
     (rc144 = rc181 ∧
     ((∀ i88 : Nat,
     (i88 < sTreeLeafN →
     (Value.int IntKind.i64 (bLc sKey sTreeRoot sTreeMidN sTreeLeafN tMidg029 tMidg130 tLeafg031 tLeafg132 line i88)) = (Value.int IntKind.i64 (selZ (wOk sKey sTreeRoot sTreeMidN sTreeLeafN sTreeMidg0 sTreeMidg1 sTreeLeafg0 sTreeLeafg1 sDataN sTagsN sDatag0 sTagsg0 line x) (bLc sKey sTreeRoot sTreeMidN sTreeLeafN sTreeMidg0 sTreeMidg1 sTreeLeafg0 sTreeLeafg1 line i88) (sTreeLeafg0 i88))))) ∧
     ((∀ i89 : Nat,
     (i89 < sTreeLeafN →
     (Value.int IntKind.i64 (bLt sKey sTreeRoot sTreeMidN sTreeLeafN tMidg029 tMidg130 tLeafg031 tLeafg132 line i89)) = (Value.int IntKind.i64 (selZ (wOk sKey sTreeRoot sTreeMidN sTreeLeafN sTreeMidg0 sTreeMidg1 sTreeLeafg0 sTreeLeafg1 sDataN sTagsN sDatag0 sTagsg0 line x) (bLt sKey sTreeRoot sTreeMidN sTreeLeafN sTreeMidg0 sTreeMidg1 sTreeLeafg0 sTreeLeafg1 line i89) (sTreeLeafg1 i89))))) ∧
     True)))))))) ∧
     ((Bool.true = Bool.true ∧
     (ro224 = ro282 ∧
     (3 = 3 ∧
     (1 = 1 ∧
     (sDataN = sDataN ∧
     (rc225 = rc283 ∧
     ((∀ i90 : Nat,
     (i90 < sDataN →
     (Value.int IntKind.i64 (if i90 = (Int.toNat line) then (sealW sKey line (bLc sKey sTreeRoot sTreeMidN sTreeLeafN tMidg029 tMidg130 tLeafg031 tLeafg132 line (Int.toNat line)) x) else (sDatag06 i90))) = (Value.int IntKind.i64 (wDa sKey sTreeRoot sTreeMidN sTreeLeafN sTreeMidg0 sTreeMidg1 sTreeLeafg0 sTreeLeafg1 sDataN sTagsN sDatag0 sTagsg0 line x i90)))) ∧
     True))))))) ∧
     ((Bool.true = Bool.true ∧
     (ro326 = ro384 ∧
     (3 = 3 ∧
     (1 = 1 ∧
     (sTagsN = sTagsN ∧
     (rc327 = rc385 ∧
     ((∀ i91 : Nat,
     (i91 < sTagsN →
     (Value.int IntKind.i64 (if i91 = (Int.toNat line) then (tagW sKey line (bLc sKey sTreeRoot sTreeMidN sTreeLeafN tMidg029 tMidg130 tLeafg031 tLeafg132 line (Int.toNat line)) (if (Int.toNat line) = (Int.toNat line) then (sealW sKey line (bLc sKey sTreeRoot sTreeMidN sTreeLeafN tMidg029 tMidg130 tLeafg031 tLeafg132 line (Int.toNat line)) x) else (sDatag06 (Int.toNat line)))) else (sTagsg07 i91))) = (Value.int IntKind.i64 (wTa sKey sTreeRoot sTreeMidN sTreeLeafN sTreeMidg0 sTreeMidg1 sTreeLeafg0 sTreeLeafg1 sDataN sTagsN sDatag0 sTagsg0 line x i91)))) ∧
     True))))))) ∧
     True)))) ∧
     Bool.true = Bool.true)))))))))))))))))))))))))))))))))))))))))))))))))))))))))) ∧
   ((!(fitsB sDataN sTagsN)) = Bool.true →
   (b28 = b28 ∧
    (b1 = b1 ∧
    (b1 = b1 ∧
    (Exists (fun (ro092 : (Option Addr)) => (Exists (fun (rc093 : Nat) => (Exists (fun (ro194 : (Option Addr)) => (Exists (fun (rc195 : Nat) => (Exists (fun (ro296 : (Option Addr)) => (Exists (fun (rc297 : Nat) => (Exists (fun (ro398 : (Option Addr)) => (Exists (fun (rc399 : Nat) => ((Value.tuple (List.toArray [(Value.agg (List.toArray [(Value.int IntKind.i64 sKey), (Value.int IntKind.i64 sTreeRoot), (Value.slice ro020 sTreeMidN rc021), (Value.slice ro122 sTreeLeafN rc123), (Value.slice ro224 sDataN rc225), (Value.slice ro326 sTagsN rc327)])), (Value.bool Bool.false)])) = (Value.tuple (List.toArray [(Value.agg (List.toArray [(Value.int IntKind.i64 sKey), (Value.int IntKind.i64 (selZ (wOk sKey sTreeRoot sTreeMidN sTreeLeafN sTreeMidg0 sTreeMidg1 sTreeLeafg0 sTreeLeafg1 sDataN sTagsN sDatag0 sTagsg0 line x) (bR sKey sTreeRoot sTreeMidN sTreeLeafN sTreeMidg0 sTreeMidg1 sTreeLeafg0 sTreeLeafg1 line) sTreeRoot)), (Value.slice ro092 sTreeMidN rc093), (Value.slice ro194 sTreeLeafN rc195), (Value.slice ro296 sDataN rc297), (Value.slice ro398 sTagsN rc399)])), (Value.bool (wOk sKey sTreeRoot sTreeMidN sTreeLeafN sTreeMidg0 sTreeMidg1 sTreeLeafg0 sTreeLeafg1 sDataN sTagsN sDatag0 sTagsg0 line x))])) ∧
    (((Bool.true = Bool.true ∧
    (ro020 = ro092 ∧
    (37 = 37 ∧
    (2 = 2 ∧
    (sTreeMidN = sTreeMidN ∧
    (rc021 = rc093 ∧
    ((∀ i100 : Nat,
    (i100 < sTreeMidN →
    (Value.int IntKind.i64 (sTreeMidg02 i100)) = (Value.int IntKind.i64 (selZ (wOk sKey sTreeRoot sTreeMidN sTreeLeafN sTreeMidg0 sTreeMidg1 sTreeLeafg0 sTreeLeafg1 sDataN sTagsN sDatag0 sTagsg0 line x) (bMc sKey sTreeRoot sTreeMidN sTreeLeafN sTreeMidg0 sTreeMidg1 sTreeLeafg0 sTreeLeafg1 line i100) (sTreeMidg0 i100))))) ∧
    ((∀ i101 : Nat,
    (i101 < sTreeMidN →
    (Value.int IntKind.i64 (sTreeMidg13 i101)) = (Value.int IntKind.i64 (selZ (wOk sKey sTreeRoot sTreeMidN sTreeLeafN sTreeMidg0 sTreeMidg1 sTreeLeafg0 sTreeLeafg1 sDataN sTagsN sDatag0 sTagsg0 line x) (bMt sKey sTreeRoot sTreeMidN sTreeLeafN sTreeMidg0 sTreeMidg1 sTreeLeafg0 sTreeLeafg1 line i101) (sTreeMidg1 i101))))) ∧
    True)))))))) ∧
    ((Bool.true = Bool.true ∧
    (ro122 = ro194 ∧
    (37 = 37 ∧
    (2 = 2 ∧
    (sTreeLeafN = sTreeLeafN ∧
    (rc123 = rc195 ∧
    ((∀ i102 : Nat,
    (i102 < sTreeLeafN →
    (Value.int IntKind.i64 (sTreeLeafg04 i102)) = (Value.int IntKind.i64 (selZ (wOk sKey sTreeRoot sTreeMidN sTreeLeafN sTreeMidg0 sTreeMidg1 sTreeLeafg0 sTreeLeafg1 sDataN sTagsN sDatag0 sTagsg0 line x) (bLc sKey sTreeRoot sTreeMidN sTreeLeafN sTreeMidg0 sTreeMidg1 sTreeLeafg0 sTreeLeafg1 line i102) (sTreeLeafg0 i102))))) ∧
    ((∀ i103 : Nat,
    (i103 < sTreeLeafN →
    (Value.int IntKind.i64 (sTreeLeafg15 i103)) = (Value.int IntKind.i64 (selZ (wOk sKey sTreeRoot sTreeMidN sTreeLeafN sTreeMidg0 sTreeMidg1 sTreeLeafg0 sTreeLeafg1 sDataN sTagsN sDatag0 sTagsg0 line x) (bLt sKey sTreeRoot sTreeMidN sTreeLeafN sTreeMidg0 sTreeMidg1 sTreeLeafg0 sTreeLeafg1 line i103) (sTreeLeafg1 i103))))) ∧
    True)))))))) ∧
    ((Bool.true = Bool.true ∧
    (ro224 = ro296 ∧
    (3 = 3 ∧
    (1 = 1 ∧
    (sDataN = sDataN ∧
    (rc225 = rc297 ∧
    ((∀ i104 : Nat,
    (i104 < sDataN →
    (Value.int IntKind.i64 (sDatag06 i104)) = (Value.int IntKind.i64 (wDa sKey sTreeRoot sTreeMidN sTreeLeafN sTreeMidg0 sTreeMidg1 sTreeLeafg0 sTreeLeafg1 sDataN sTagsN sDatag0 sTagsg0 line x i104)))) ∧
    True))))))) ∧
    ((Bool.true = Bool.true ∧
    (ro326 = ro398 ∧
    (3 = 3 ∧
    (1 = 1 ∧
    (sTagsN = sTagsN ∧
    (rc327 = rc399 ∧
    ((∀ i105 : Nat,
    (i105 < sTagsN →
    (Value.int IntKind.i64 (sTagsg07 i105)) = (Value.int IntKind.i64 (wTa sKey sTreeRoot sTreeMidN sTreeLeafN sTreeMidg0 sTreeMidg1 sTreeLeafg0 sTreeLeafg1 sDataN sTagsN sDatag0 sTagsg0 line x i105)))) ∧
    True))))))) ∧
    True)))) ∧
    Bool.true = Bool.true)))))))))))))))))))))))))))))))))))))) ∧
  ((!(bOk sKey sTreeRoot sTreeMidN sTreeLeafN tMidg029 tMidg130 tLeafg031 tLeafg132 line)) = Bool.true →
  (b28 = b28 ∧
   (b1 = b1 ∧
   (b1 = b1 ∧
   (Exists (fun (ro0106 : (Option Addr)) => (Exists (fun (rc0107 : Nat) => (Exists (fun (ro1108 : (Option Addr)) => (Exists (fun (rc1109 : Nat) => (Exists (fun (ro2110 : (Option Addr)) => (Exists (fun (rc2111 : Nat) => (Exists (fun (ro3112 : (Option Addr)) => (Exists (fun (rc3113 : Nat) => ((Value.tuple (List.toArray [(Value.agg (List.toArray [(Value.int IntKind.i64 sKey), (Value.int IntKind.i64 sTreeRoot), (Value.slice ro020 sTreeMidN rc021), (Value.slice ro122 sTreeLeafN rc123), (Value.slice ro224 sDataN rc225), (Value.slice ro326 sTagsN rc327)])), (Value.bool Bool.false)])) = (Value.tuple (List.toArray [(Value.agg (List.toArray [(Value.int IntKind.i64 sKey), (Value.int IntKind.i64 (selZ (wOk sKey sTreeRoot sTreeMidN sTreeLeafN sTreeMidg0 sTreeMidg1 sTreeLeafg0 sTreeLeafg1 sDataN sTagsN sDatag0 sTagsg0 line x) (bR sKey sTreeRoot sTreeMidN sTreeLeafN sTreeMidg0 sTreeMidg1 sTreeLeafg0 sTreeLeafg1 line) sTreeRoot)), (Value.slice ro0106 sTreeMidN rc0107), (Value.slice ro1108 sTreeLeafN rc1109), (Value.slice ro2110 sDataN rc2111), (Value.slice ro3112 sTagsN rc3113)])), (Value.bool (wOk sKey sTreeRoot sTreeMidN sTreeLeafN sTreeMidg0 sTreeMidg1 sTreeLeafg0 sTreeLeafg1 sDataN sTagsN sDatag0 sTagsg0 line x))])) ∧
   (((Bool.true = Bool.true ∧
   (ro020 = ro0106 ∧
   (37 = 37 ∧
   (2 = 2 ∧
   (sTreeMidN = sTreeMidN ∧
   (rc021 = rc0107 ∧
   ((∀ i114 : Nat,
   (i114 < sTreeMidN →
   (Value.int IntKind.i64 (sTreeMidg02 i114)) = (Value.int IntKind.i64 (selZ (wOk sKey sTreeRoot sTreeMidN sTreeLeafN sTreeMidg0 sTreeMidg1 sTreeLeafg0 sTreeLeafg1 sDataN sTagsN sDatag0 sTagsg0 line x) (bMc sKey sTreeRoot sTreeMidN sTreeLeafN sTreeMidg0 sTreeMidg1 sTreeLeafg0 sTreeLeafg1 line i114) (sTreeMidg0 i114))))) ∧
   ((∀ i115 : Nat,
   (i115 < sTreeMidN →
   (Value.int IntKind.i64 (sTreeMidg13 i115)) = (Value.int IntKind.i64 (selZ (wOk sKey sTreeRoot sTreeMidN sTreeLeafN sTreeMidg0 sTreeMidg1 sTreeLeafg0 sTreeLeafg1 sDataN sTagsN sDatag0 sTagsg0 line x) (bMt sKey sTreeRoot sTreeMidN sTreeLeafN sTreeMidg0 sTreeMidg1 sTreeLeafg0 sTreeLeafg1 line i115) (sTreeMidg1 i115))))) ∧
   True)))))))) ∧
   ((Bool.true = Bool.true ∧
   (ro122 = ro1108 ∧
   (37 = 37 ∧
   (2 = 2 ∧
   (sTreeLeafN = sTreeLeafN ∧
   (rc123 = rc1109 ∧
   ((∀ i116 : Nat,
   (i116 < sTreeLeafN →
   (Value.int IntKind.i64 (sTreeLeafg04 i116)) = (Value.int IntKind.i64 (selZ (wOk sKey sTreeRoot sTreeMidN sTreeLeafN sTreeMidg0 sTreeMidg1 sTreeLeafg0 sTreeLeafg1 sDataN sTagsN sDatag0 sTagsg0 line x) (bLc sKey sTreeRoot sTreeMidN sTreeLeafN sTreeMidg0 sTreeMidg1 sTreeLeafg0 sTreeLeafg1 line i116) (sTreeLeafg0 i116))))) ∧
   ((∀ i117 : Nat,
   (i117 < sTreeLeafN →
   (Value.int IntKind.i64 (sTreeLeafg15 i117)) = (Value.int IntKind.i64 (selZ (wOk sKey sTreeRoot sTreeMidN sTreeLeafN sTreeMidg0 sTreeMidg1 sTreeLeafg0 sTreeLeafg1 sDataN sTagsN sDatag0 sTagsg0 line x) (bLt sKey sTreeRoot sTreeMidN sTreeLeafN sTreeMidg0 sTreeMidg1 sTreeLeafg0 sTreeLeafg1 line i117) (sTreeLeafg1 i117))))) ∧
   True)))))))) ∧
   ((Bool.true = Bool.true ∧
   (ro224 = ro2110 ∧
   (3 = 3 ∧
   (1 = 1 ∧
   (sDataN = sDataN ∧
   (rc225 = rc2111 ∧
   ((∀ i118 : Nat,
   (i118 < sDataN →
   (Value.int IntKind.i64 (sDatag06 i118)) = (Value.int IntKind.i64 (wDa sKey sTreeRoot sTreeMidN sTreeLeafN sTreeMidg0 sTreeMidg1 sTreeLeafg0 sTreeLeafg1 sDataN sTagsN sDatag0 sTagsg0 line x i118)))) ∧
   True))))))) ∧
   ((Bool.true = Bool.true ∧
   (ro326 = ro3112 ∧
   (3 = 3 ∧
   (1 = 1 ∧
   (sTagsN = sTagsN ∧
   (rc327 = rc3113 ∧
   ((∀ i119 : Nat,
   (i119 < sTagsN →
   (Value.int IntKind.i64 (sTagsg07 i119)) = (Value.int IntKind.i64 (wTa sKey sTreeRoot sTreeMidN sTreeLeafN sTreeMidg0 sTreeMidg1 sTreeLeafg0 sTreeLeafg1 sDataN sTagsN sDatag0 sTagsg0 line x i119)))) ∧
   True))))))) ∧
   True)))) ∧
   Bool.true = Bool.true))))))))))))))))))))))))))))))))))))))))))))))))))))))))))))))))))) := by kernel_rfl
theorem swriteS_any (sKey : Int) (sTreeRoot : Int) (sTreeMidO : Option Addr) (sTreeMidN sTreeMidC : Nat) (sTreeMidg0 sTreeMidg1 : Nat → Int) (sTreeLeafO : Option Addr) (sTreeLeafN sTreeLeafC : Nat) (sTreeLeafg0 sTreeLeafg1 : Nat → Int) (sDataO : Option Addr) (sDataN sDataC : Nat) (sDatag0 : Nat → Int) (sTagsO : Option Addr) (sTagsN sTagsC : Nat) (sTagsg0 : Nat → Int) (line : Int) (x : Int) (w : World) (hrsTreeMid : Row.sat w ⟨false, sTreeMidO, 0, 2, sTreeMidN, 0, [fun i => .int (sTreeMidg0 i), fun i => .int (sTreeMidg1 i)]⟩) (hrsTreeLeaf : Row.sat w ⟨false, sTreeLeafO, 0, 2, sTreeLeafN, 0, [fun i => .int (sTreeLeafg0 i), fun i => .int (sTreeLeafg1 i)]⟩) (hrsData : Row.sat w ⟨false, sDataO, 0, 1, sDataN, 0, [fun i => .int (sDatag0 i)]⟩) (hrsTags : Row.sat w ⟨false, sTagsO, 0, 1, sTagsN, 0, [fun i => .int (sTagsg0 i)]⟩) (hpre : capC sTreeMidN ∧ capC sTreeLeafN ∧ capC sDataN ∧ capC sTagsN) : Calls Try.prog 22 #[.agg #[.int .i64 sKey, .int .i64 sTreeRoot, .slice sTreeMidO sTreeMidN sTreeMidC, .slice sTreeLeafO sTreeLeafN sTreeLeafC, .slice sDataO sDataN sDataC, .slice sTagsO sTagsN sTagsC], .int .i64 line, .int .i64 x] w fun e w' => ∃ (ro0 : Option Addr) (rc0 : Nat) (ro1 : Option Addr) (rc1 : Nat) (ro2 : Option Addr) (rc2 : Nat) (ro3 : Option Addr) (rc3 : Nat), e = .returned (.tuple #[.agg #[.int .i64 (sKey), .int .i64 (selZ (wOk sKey sTreeRoot sTreeMidN sTreeLeafN sTreeMidg0 sTreeMidg1 sTreeLeafg0 sTreeLeafg1 sDataN sTagsN sDatag0 sTagsg0 line x) (bR sKey sTreeRoot sTreeMidN sTreeLeafN sTreeMidg0 sTreeMidg1 sTreeLeafg0 sTreeLeafg1 line) sTreeRoot), .slice ro0 (sTreeMidN) rc0, .slice ro1 (sTreeLeafN) rc1, .slice ro2 (sDataN) rc2, .slice ro3 (sTagsN) rc3], .bool (wOk sKey sTreeRoot sTreeMidN sTreeLeafN sTreeMidg0 sTreeMidg1 sTreeLeafg0 sTreeLeafg1 sDataN sTagsN sDatag0 sTagsg0 line x)]) ∧ HS ⟨w, fun _ => False⟩ [.row ⟨true, ro0, 37, 2, sTreeMidN, rc0, [fun i => .int (selZ (wOk sKey sTreeRoot sTreeMidN sTreeLeafN sTreeMidg0 sTreeMidg1 sTreeLeafg0 sTreeLeafg1 sDataN sTagsN sDatag0 sTagsg0 line x) (bMc sKey sTreeRoot sTreeMidN sTreeLeafN sTreeMidg0 sTreeMidg1 sTreeLeafg0 sTreeLeafg1 line i) (sTreeMidg0 i)), fun i => .int (selZ (wOk sKey sTreeRoot sTreeMidN sTreeLeafN sTreeMidg0 sTreeMidg1 sTreeLeafg0 sTreeLeafg1 sDataN sTagsN sDatag0 sTagsg0 line x) (bMt sKey sTreeRoot sTreeMidN sTreeLeafN sTreeMidg0 sTreeMidg1 sTreeLeafg0 sTreeLeafg1 line i) (sTreeMidg1 i))]⟩, .row ⟨true, ro1, 37, 2, sTreeLeafN, rc1, [fun i => .int (selZ (wOk sKey sTreeRoot sTreeMidN sTreeLeafN sTreeMidg0 sTreeMidg1 sTreeLeafg0 sTreeLeafg1 sDataN sTagsN sDatag0 sTagsg0 line x) (bLc sKey sTreeRoot sTreeMidN sTreeLeafN sTreeMidg0 sTreeMidg1 sTreeLeafg0 sTreeLeafg1 line i) (sTreeLeafg0 i)), fun i => .int (selZ (wOk sKey sTreeRoot sTreeMidN sTreeLeafN sTreeMidg0 sTreeMidg1 sTreeLeafg0 sTreeLeafg1 sDataN sTagsN sDatag0 sTagsg0 line x) (bLt sKey sTreeRoot sTreeMidN sTreeLeafN sTreeMidg0 sTreeMidg1 sTreeLeafg0 sTreeLeafg1 line i) (sTreeLeafg1 i))]⟩, .row ⟨true, ro2, 3, 1, sDataN, rc2, [fun i => .int (wDa sKey sTreeRoot sTreeMidN sTreeLeafN sTreeMidg0 sTreeMidg1 sTreeLeafg0 sTreeLeafg1 sDataN sTagsN sDatag0 sTagsg0 line x i)]⟩, .row ⟨true, ro3, 3, 1, sTagsN, rc3, [fun i => .int (wTa sKey sTreeRoot sTreeMidN sTreeLeafN sTreeMidg0 sTreeMidg1 sTreeLeafg0 sTreeLeafg1 sDataN sTagsN sDatag0 sTagsg0 line x i)]⟩] w' := by
  refine fnB (tb := [(48, sCopyS), (16, sBump), (49, sFits), (34, sIsW), (50, sSeal), (51, sTag)]) ⟨sCopyS_ok_copySS, sBump_ok_bumpS, sFits_ok_fitsS, sIsW_spec, sSeal_spec, sTag_spec, trivial⟩ Try.func22 (@Eq.mpr _ _ (swriteS_T sKey sTreeRoot sTreeMidO sTreeMidN sTreeMidC sTreeMidg0 sTreeMidg1 sTreeLeafO sTreeLeafN sTreeLeafC sTreeLeafg0 sTreeLeafg1 sDataO sDataN sDataC sDatag0 sTagsO sTagsN sTagsC sTagsg0 line x) ?_) (HS.rows (fun _ => False) [⟨false, sTreeMidO, 0, 2, sTreeMidN, 0, [fun i => .int (sTreeMidg0 i), fun i => .int (sTreeMidg1 i)]⟩, ⟨false, sTreeLeafO, 0, 2, sTreeLeafN, 0, [fun i => .int (sTreeLeafg0 i), fun i => .int (sTreeLeafg1 i)]⟩, ⟨false, sDataO, 0, 1, sDataN, 0, [fun i => .int (sDatag0 i)]⟩, ⟨false, sTagsO, 0, 1, sTagsN, 0, [fun i => .int (sTagsg0 i)]⟩] (by simp; exact ⟨hrsTreeMid, hrsTreeLeaf, hrsData, hrsTags⟩)) (fun v ch' w' ⟨ro0, rc0, ro1, rc1, ro2, rc2, ro3, rc3, hk⟩ hs => ⟨ro0, rc0, ro1, rc1, ro2, rc2, ro3, rc3, by rw [hk.1], hk.hs hs⟩)
  clear hrsTreeMid hrsTreeLeaf hrsData hrsTags
  cases hb : bOk sKey sTreeRoot sTreeMidN sTreeLeafN sTreeMidg0 sTreeMidg1 sTreeLeafg0 sTreeLeafg1 line <;> cases hf : fitsB sDataN sTagsN <;> cases hw : isW x
  case true.true.true =>
    obtain ⟨hl, ht, _⟩ := bOk_facts hb
    obtain ⟨hn, hm, _⟩ := treeB_facts ht
    obtain ⟨hdn, htn⟩ := fits_facts hf
    have hok : wOk sKey sTreeRoot sTreeMidN sTreeLeafN sTreeMidg0 sTreeMidg1 sTreeLeafg0 sTreeLeafg1 sDataN sTagsN sDatag0 sTagsg0 line x = true := by simp [wOk, hb, hf, hw]
    repeat' (first
      | with_reducible exact rfl
      | exact True.intro
      | assumption
      | refine And.intro ?_ ?_
      | apply Exists.intro
      | (intro h; exfalso; simp [hb, hf, hw] at h; done)
      | (intro h; exfalso; simp [hb, hf, hw] at h; omega)
      | intro _
      | omega
      | (simp; omega))
    all_goals simp [selZ, wDa, wTa, hok]
  all_goals
    have hok : wOk sKey sTreeRoot sTreeMidN sTreeLeafN sTreeMidg0 sTreeMidg1 sTreeLeafg0 sTreeLeafg1 sDataN sTagsN sDatag0 sTagsg0 line x = false := by simp [wOk, hb, hf, hw]
    repeat' (first
      | with_reducible exact rfl
      | exact True.intro
      | assumption
      | refine And.intro ?_ ?_
      | apply Exists.intro
      | (intro h; exfalso; simp [hb, hf, hw] at h; done)
      | (intro h; exfalso; simp [hb, hf, hw] at h; omega)
      | intro _
      | omega
      | (simp; omega))
    all_goals simp [selZ, wDa, wTa, hok]
def sSWrite : Sm := fun args ch kk =>
  match args with
  | [.a (.agg [c0, c1, .sl i0 a0 n0 d0, .sl i1 a1 n1 d1, .sl i2 a2 n2 d2, .sl i3 a3 n3 d3]), .a (.c c2), .a (.c c3)] =>
    match ch[i0]?, ch[i1]?, ch[i2]?, ch[i3]?, ints [c0, c1, c2, c3] with
    | some (.row r0), some (.row r1), some (.row r2), some (.row r3), some [sKey, sTreeRoot, line, x] => ∃ sTreeMidg0 sTreeMidg1 sTreeLeafg0 sTreeLeafg1 sDatag0 sTagsg0 : Nat → Int, (a0 = r0.ao ∧ n0 = r0.n ∧ r0.fld = [fun i => .int (sTreeMidg0 i), fun i => .int (sTreeMidg1 i)] ∧ a1 = r1.ao ∧ n1 = r1.n ∧ r1.fld = [fun i => .int (sTreeLeafg0 i), fun i => .int (sTreeLeafg1 i)] ∧ a2 = r2.ao ∧ n2 = r2.n ∧ r2.fld = [fun i => .int (sDatag0 i)] ∧ a3 = r3.ao ∧ n3 = r3.n ∧ r3.fld = [fun i => .int (sTagsg0 i)] ∧ capC n0 ∧ capC n1 ∧ capC n2 ∧ capC n3) ∧ ∀ (ro0 : Option Addr) (rc0 : Nat), ∀ (ro1 : Option Addr) (rc1 : Nat), ∀ (ro2 : Option Addr) (rc2 : Nat), ∀ (ro3 : Option Addr) (rc3 : Nat), kk (.tup [.agg [.int (sKey), .int (selZ (wOk sKey sTreeRoot n0 n1 sTreeMidg0 sTreeMidg1 sTreeLeafg0 sTreeLeafg1 n2 n3 sDatag0 sTagsg0 line x) (bR sKey sTreeRoot n0 n1 sTreeMidg0 sTreeMidg1 sTreeLeafg0 sTreeLeafg1 line) sTreeRoot), .sl (ch.length) ro0 (n0) rc0, .sl (ch.length + 1) ro1 (n1) rc1, .sl (ch.length + 2) ro2 (n2) rc2, .sl (ch.length + 3) ro3 (n3) rc3], .c (.bool (wOk sKey sTreeRoot n0 n1 sTreeMidg0 sTreeMidg1 sTreeLeafg0 sTreeLeafg1 n2 n3 sDatag0 sTagsg0 line x))]) (ch ++ [.row ⟨true, ro0, 37, 2, n0, rc0, [fun i => .int (selZ (wOk sKey sTreeRoot n0 n1 sTreeMidg0 sTreeMidg1 sTreeLeafg0 sTreeLeafg1 n2 n3 sDatag0 sTagsg0 line x) (bMc sKey sTreeRoot n0 n1 sTreeMidg0 sTreeMidg1 sTreeLeafg0 sTreeLeafg1 line i) (sTreeMidg0 i)), fun i => .int (selZ (wOk sKey sTreeRoot n0 n1 sTreeMidg0 sTreeMidg1 sTreeLeafg0 sTreeLeafg1 n2 n3 sDatag0 sTagsg0 line x) (bMt sKey sTreeRoot n0 n1 sTreeMidg0 sTreeMidg1 sTreeLeafg0 sTreeLeafg1 line i) (sTreeMidg1 i))]⟩, .row ⟨true, ro1, 37, 2, n1, rc1, [fun i => .int (selZ (wOk sKey sTreeRoot n0 n1 sTreeMidg0 sTreeMidg1 sTreeLeafg0 sTreeLeafg1 n2 n3 sDatag0 sTagsg0 line x) (bLc sKey sTreeRoot n0 n1 sTreeMidg0 sTreeMidg1 sTreeLeafg0 sTreeLeafg1 line i) (sTreeLeafg0 i)), fun i => .int (selZ (wOk sKey sTreeRoot n0 n1 sTreeMidg0 sTreeMidg1 sTreeLeafg0 sTreeLeafg1 n2 n3 sDatag0 sTagsg0 line x) (bLt sKey sTreeRoot n0 n1 sTreeMidg0 sTreeMidg1 sTreeLeafg0 sTreeLeafg1 line i) (sTreeLeafg1 i))]⟩, .row ⟨true, ro2, 3, 1, n2, rc2, [fun i => .int (wDa sKey sTreeRoot n0 n1 sTreeMidg0 sTreeMidg1 sTreeLeafg0 sTreeLeafg1 n2 n3 sDatag0 sTagsg0 line x i)]⟩, .row ⟨true, ro3, 3, 1, n3, rc3, [fun i => .int (wTa sKey sTreeRoot n0 n1 sTreeMidg0 sTreeMidg1 sTreeLeafg0 sTreeLeafg1 n2 n3 sDatag0 sTagsg0 line x i)]⟩]) []
    | _, _, _, _, _ => False
  | _ => False
theorem sSWrite_ok {f : FuncId} (hc : ∀ args w, (callFunc f args).run Try.prog w = .ok (.enter f args) w) (h : ∀ (sKey : Int) (sTreeRoot : Int) (sTreeMidO : Option Addr) (sTreeMidN sTreeMidC : Nat) (sTreeMidg0 sTreeMidg1 : Nat → Int) (sTreeLeafO : Option Addr) (sTreeLeafN sTreeLeafC : Nat) (sTreeLeafg0 sTreeLeafg1 : Nat → Int) (sDataO : Option Addr) (sDataN sDataC : Nat) (sDatag0 : Nat → Int) (sTagsO : Option Addr) (sTagsN sTagsC : Nat) (sTagsg0 : Nat → Int) (line : Int) (x : Int) (w : World), Row.sat w ⟨false, sTreeMidO, 0, 2, sTreeMidN, 0, [fun i => .int (sTreeMidg0 i), fun i => .int (sTreeMidg1 i)]⟩ → Row.sat w ⟨false, sTreeLeafO, 0, 2, sTreeLeafN, 0, [fun i => .int (sTreeLeafg0 i), fun i => .int (sTreeLeafg1 i)]⟩ → Row.sat w ⟨false, sDataO, 0, 1, sDataN, 0, [fun i => .int (sDatag0 i)]⟩ → Row.sat w ⟨false, sTagsO, 0, 1, sTagsN, 0, [fun i => .int (sTagsg0 i)]⟩ → capC sTreeMidN ∧ capC sTreeLeafN ∧ capC sDataN ∧ capC sTagsN → Calls Try.prog f #[.agg #[.int .i64 sKey, .int .i64 sTreeRoot, .slice sTreeMidO sTreeMidN sTreeMidC, .slice sTreeLeafO sTreeLeafN sTreeLeafC, .slice sDataO sDataN sDataC, .slice sTagsO sTagsN sTagsC], .int .i64 line, .int .i64 x] w fun e w' => ∃ (ro0 : Option Addr) (rc0 : Nat) (ro1 : Option Addr) (rc1 : Nat) (ro2 : Option Addr) (rc2 : Nat) (ro3 : Option Addr) (rc3 : Nat), e = .returned (.tuple #[.agg #[.int .i64 (sKey), .int .i64 (selZ (wOk sKey sTreeRoot sTreeMidN sTreeLeafN sTreeMidg0 sTreeMidg1 sTreeLeafg0 sTreeLeafg1 sDataN sTagsN sDatag0 sTagsg0 line x) (bR sKey sTreeRoot sTreeMidN sTreeLeafN sTreeMidg0 sTreeMidg1 sTreeLeafg0 sTreeLeafg1 line) sTreeRoot), .slice ro0 (sTreeMidN) rc0, .slice ro1 (sTreeLeafN) rc1, .slice ro2 (sDataN) rc2, .slice ro3 (sTagsN) rc3], .bool (wOk sKey sTreeRoot sTreeMidN sTreeLeafN sTreeMidg0 sTreeMidg1 sTreeLeafg0 sTreeLeafg1 sDataN sTagsN sDatag0 sTagsg0 line x)]) ∧ HS ⟨w, fun _ => False⟩ [.row ⟨true, ro0, 37, 2, sTreeMidN, rc0, [fun i => .int (selZ (wOk sKey sTreeRoot sTreeMidN sTreeLeafN sTreeMidg0 sTreeMidg1 sTreeLeafg0 sTreeLeafg1 sDataN sTagsN sDatag0 sTagsg0 line x) (bMc sKey sTreeRoot sTreeMidN sTreeLeafN sTreeMidg0 sTreeMidg1 sTreeLeafg0 sTreeLeafg1 line i) (sTreeMidg0 i)), fun i => .int (selZ (wOk sKey sTreeRoot sTreeMidN sTreeLeafN sTreeMidg0 sTreeMidg1 sTreeLeafg0 sTreeLeafg1 sDataN sTagsN sDatag0 sTagsg0 line x) (bMt sKey sTreeRoot sTreeMidN sTreeLeafN sTreeMidg0 sTreeMidg1 sTreeLeafg0 sTreeLeafg1 line i) (sTreeMidg1 i))]⟩, .row ⟨true, ro1, 37, 2, sTreeLeafN, rc1, [fun i => .int (selZ (wOk sKey sTreeRoot sTreeMidN sTreeLeafN sTreeMidg0 sTreeMidg1 sTreeLeafg0 sTreeLeafg1 sDataN sTagsN sDatag0 sTagsg0 line x) (bLc sKey sTreeRoot sTreeMidN sTreeLeafN sTreeMidg0 sTreeMidg1 sTreeLeafg0 sTreeLeafg1 line i) (sTreeLeafg0 i)), fun i => .int (selZ (wOk sKey sTreeRoot sTreeMidN sTreeLeafN sTreeMidg0 sTreeMidg1 sTreeLeafg0 sTreeLeafg1 sDataN sTagsN sDatag0 sTagsg0 line x) (bLt sKey sTreeRoot sTreeMidN sTreeLeafN sTreeMidg0 sTreeMidg1 sTreeLeafg0 sTreeLeafg1 line i) (sTreeLeafg1 i))]⟩, .row ⟨true, ro2, 3, 1, sDataN, rc2, [fun i => .int (wDa sKey sTreeRoot sTreeMidN sTreeLeafN sTreeMidg0 sTreeMidg1 sTreeLeafg0 sTreeLeafg1 sDataN sTagsN sDatag0 sTagsg0 line x i)]⟩, .row ⟨true, ro3, 3, 1, sTagsN, rc3, [fun i => .int (wTa sKey sTreeRoot sTreeMidN sTreeLeafN sTreeMidg0 sTreeMidg1 sTreeLeafg0 sTreeLeafg1 sDataN sTagsN sDatag0 sTagsg0 line x i)]⟩] w') : SmOK Try.prog f sSWrite := by
  refine smN hc fun args ch kk w X h0 hs => ?_
  unfold sSWrite at h0
  split at h0
  · rename_i c0 c1 i0 a0 n0 d0 i1 a1 n1 d1 i2 a2 n2 d2 i3 a3 n3 d3 c2 c3
    split at h0
    · rename_i r0 r1 r2 r3 sKey sTreeRoot line x hr0 hr1 hr2 hr3 hi
      obtain ⟨sTreeMidg0, sTreeMidg1, sTreeLeafg0, sTreeLeafg1, sDatag0, sTagsg0, ⟨rfl, rfl, hf0, rfl, rfl, hf1, rfl, rfl, hf2, rfl, rfl, hf3, hpre⟩, h0⟩ := h0
      obtain ⟨ec0, hi⟩ := ints_cons hi
      obtain ⟨ec1, hi⟩ := ints_cons hi
      obtain ⟨ec2, hi⟩ := ints_cons hi
      obtain ⟨ec3, hi⟩ := ints_cons hi
      refine Calls.mono (?_ : Calls Try.prog f _ w (fun e w' => ∃ (ro0 : Option Addr) (rc0 : Nat) (ro1 : Option Addr) (rc1 : Nat) (ro2 : Option Addr) (rc2 : Nat) (ro3 : Option Addr) (rc3 : Nat), e = .returned (.tuple #[.agg #[.int .i64 (sKey), .int .i64 (selZ (wOk sKey sTreeRoot r0.n r1.n sTreeMidg0 sTreeMidg1 sTreeLeafg0 sTreeLeafg1 r2.n r3.n sDatag0 sTagsg0 line x) (bR sKey sTreeRoot r0.n r1.n sTreeMidg0 sTreeMidg1 sTreeLeafg0 sTreeLeafg1 line) sTreeRoot), .slice ro0 (r0.n) rc0, .slice ro1 (r1.n) rc1, .slice ro2 (r2.n) rc2, .slice ro3 (r3.n) rc3], .bool (wOk sKey sTreeRoot r0.n r1.n sTreeMidg0 sTreeMidg1 sTreeLeafg0 sTreeLeafg1 r2.n r3.n sDatag0 sTagsg0 line x)]) ∧ HS ⟨w, fun _ => False⟩ [.row ⟨true, ro0, 37, 2, r0.n, rc0, [fun i => .int (selZ (wOk sKey sTreeRoot r0.n r1.n sTreeMidg0 sTreeMidg1 sTreeLeafg0 sTreeLeafg1 r2.n r3.n sDatag0 sTagsg0 line x) (bMc sKey sTreeRoot r0.n r1.n sTreeMidg0 sTreeMidg1 sTreeLeafg0 sTreeLeafg1 line i) (sTreeMidg0 i)), fun i => .int (selZ (wOk sKey sTreeRoot r0.n r1.n sTreeMidg0 sTreeMidg1 sTreeLeafg0 sTreeLeafg1 r2.n r3.n sDatag0 sTagsg0 line x) (bMt sKey sTreeRoot r0.n r1.n sTreeMidg0 sTreeMidg1 sTreeLeafg0 sTreeLeafg1 line i) (sTreeMidg1 i))]⟩, .row ⟨true, ro1, 37, 2, r1.n, rc1, [fun i => .int (selZ (wOk sKey sTreeRoot r0.n r1.n sTreeMidg0 sTreeMidg1 sTreeLeafg0 sTreeLeafg1 r2.n r3.n sDatag0 sTagsg0 line x) (bLc sKey sTreeRoot r0.n r1.n sTreeMidg0 sTreeMidg1 sTreeLeafg0 sTreeLeafg1 line i) (sTreeLeafg0 i)), fun i => .int (selZ (wOk sKey sTreeRoot r0.n r1.n sTreeMidg0 sTreeMidg1 sTreeLeafg0 sTreeLeafg1 r2.n r3.n sDatag0 sTagsg0 line x) (bLt sKey sTreeRoot r0.n r1.n sTreeMidg0 sTreeMidg1 sTreeLeafg0 sTreeLeafg1 line i) (sTreeLeafg1 i))]⟩, .row ⟨true, ro2, 3, 1, r2.n, rc2, [fun i => .int (wDa sKey sTreeRoot r0.n r1.n sTreeMidg0 sTreeMidg1 sTreeLeafg0 sTreeLeafg1 r2.n r3.n sDatag0 sTagsg0 line x i)]⟩, .row ⟨true, ro3, 3, 1, r3.n, rc3, [fun i => .int (wTa sKey sTreeRoot r0.n r1.n sTreeMidg0 sTreeMidg1 sTreeLeafg0 sTreeLeafg1 r2.n r3.n sDatag0 sTagsg0 line x i)]⟩] w')) (fun e w' ⟨ro0, rc0, ro1, rc1, ro2, rc2, ro3, rc3, he, hs'⟩ => ⟨_, _, ?_, hs', rfl, h0 ro0 rc0 ro1 rc1 ro2 rc2 ro3 rc3⟩)
      · simp only [List.map_cons, List.map_nil, den_a, den_c, SA.den, den_sl, ec0, ec1, ec2, ec3]
        exact h sKey sTreeRoot r0.ao r0.n d0 sTreeMidg0 sTreeMidg1 r1.ao r1.n d1 sTreeLeafg0 sTreeLeafg1 r2.ao r2.n d2 sDatag0 r3.ao r3.n d3 sTagsg0 line x w (Row.seenAs (hs.sat i0 _ hr0) hf0 rfl) (Row.seenAs (hs.sat i1 _ hr1) hf1 rfl) (Row.seenAs (hs.sat i2 _ hr2) hf2 rfl) (Row.seenAs (hs.sat i3 _ hr3) hf3 rfl) hpre
      · rw [he]
        rfl
    · exact h0.elim
  · exact h0.elim
theorem sSWrite_ok_swriteI : SmOK Try.prog 25 sSWrite := sSWrite_ok Try.call25 (fun sKey sTreeRoot sTreeMidO sTreeMidN sTreeMidC sTreeMidg0 sTreeMidg1 sTreeLeafO sTreeLeafN sTreeLeafC sTreeLeafg0 sTreeLeafg1 sDataO sDataN sDataC sDatag0 sTagsO sTagsN sTagsC sTagsg0 line x w h0 h1 h2 h3 hp => swriteI_any sKey sTreeRoot sTreeMidO sTreeMidN sTreeMidC sTreeMidg0 sTreeMidg1 sTreeLeafO sTreeLeafN sTreeLeafC sTreeLeafg0 sTreeLeafg1 sDataO sDataN sDataC sDatag0 sTagsO sTagsN sTagsC sTagsg0 line x w h0 h1 h2 h3 hp)
theorem sSWrite_ok_swriteS : SmOK Try.prog 22 sSWrite := sSWrite_ok Try.call22 (fun sKey sTreeRoot sTreeMidO sTreeMidN sTreeMidC sTreeMidg0 sTreeMidg1 sTreeLeafO sTreeLeafN sTreeLeafC sTreeLeafg0 sTreeLeafg1 sDataO sDataN sDataC sDatag0 sTagsO sTagsN sTagsC sTagsg0 line x w h0 h1 h2 h3 hp => swriteS_any sKey sTreeRoot sTreeMidO sTreeMidN sTreeMidC sTreeMidg0 sTreeMidg1 sTreeLeafO sTreeLeafN sTreeLeafC sTreeLeafg0 sTreeLeafg1 sDataO sDataN sDataC sDatag0 sTagsO sTagsN sTagsC sTagsg0 line x w h0 h1 h2 h3 hp)
end Go.Proofs.Ytppeocfcdeiemaa

/-
  FnOldNodes' loop.
-/
import Derived.Test.YtppeocfcdeiemaaSxBmp
namespace Go.Proofs.Ytppeocfcdeiemaa
set_option linter.unusedVariables false
set_option linter.unusedSimpArgs false
open Go.RowKit
set_option maxRecDepth 100000
set_option maxHeartbeats 8000000

def onH (co : Option Addr) (cn cc : Nat) (cu : Nat → Int) (po : Option Addr) (pc : Nat) (p : Nat → Int) (b4 : Nat) (ok : Bool) (i : SC) (g : Nat → Value) : List SV := [.a (.c (.sl 0 co cn cc)), .a (.c (.val (g 1))), .a (.c (.val (g 2))), .a (.c (.sl 1 po 12 pc)), .a (.c (.ptr 4 b4 0)), .a (.c (.bool ok)), .a (.c i), .a (.c (.val (g 7))), .a (.c (.val (g 8))), .a (.c (.val (g 9))), .a (.c (.val (g 10))), .a (.c (.val (g 11))), .a (.c (.val (g 12))), .a (.c (.val (g 13))), .a (.c (.val (g 14))), .a (.c (.val (g 15))), .a (.c (.val (g 16))), .a (.c (.val (g 17))), .a (.c (.val (g 18))), .a (.c (.val (g 19))), .a (.c (.val (g 20))), .a (.c (.val (g 21))), .a (.c (.val (g 22))), .a (.c (.val (g 23))), .a (.c (.val (g 24))), .a (.c (.val (g 25))), .a (.c (.val (g 26))), .a (.c (.val (g 27))), .a (.c (.val (g 28))), .a (.c (.val (g 29))), .a (.c (.val (g 30))), .a (.c (.val (g 31))), .a (.c (.val (g 32))), .a (.c (.val (g 33))), .a (.c (.val (g 34))), .a (.c (.val (g 35))), .a (.c (.val (g 36))), .a (.c (.val (g 37))), .a (.c (.val (g 38))), .a (.c (.val (g 39))), .a (.c (.val (g 40))), .a (.c (.val (g 41))), .a (.c (.val (g 42))), .a (.c (.val (g 43))), .a (.c (.val (g 44))), .a (.c (.val (g 45))), .a (.c (.val (g 46))), .a (.c (.val (g 47))), .a (.c (.val (g 48))), .a (.c (.val (g 49))), .a (.c (.val (g 50))), .a (.c (.val (g 51))), .a (.c (.val (g 52))), .a (.c (.val (g 53))), .a (.c (.val (g 54))), .a (.c (.val (g 55))), .a (.c (.val (g 56))), .a (.c (.val (g 57))), .a (.c (.val (g 58))), .a (.c (.val (g 59))), .a (.c (.val (g 60))), .a (.c (.val (g 61))), .a (.c (.val (g 62))), .a (.c (.val (g 63))), .a (.c (.val (g 64))), .a (.c (.val (g 65))), .a (.c (.val (g 66))), .a (.c (.val (g 67))), .a (.c (.val (g 68))), .a (.c (.val (g 69))), .a (.c (.val (g 70))), .a (.c (.val (g 71))), .a (.c (.val (g 72))), .a (.c (.val (g 73))), .a (.c (.val (g 74))), .a (.c (.val (g 75))), .a (.c (.val (g 76))), .a (.c (.val (g 77))), .a (.c (.val (g 78))), .a (.c (.val (g 79))), .a (.c (.val (g 80))), .a (.c (.val (g 81))), .a (.c (.val (g 82))), .a (.c (.val (g 83))), .a (.c (.val (g 84))), .a (.c (.val (g 85))), .a (.c (.val (g 86))), .a (.c (.val (g 87))), .a (.c (.val (g 88))), .a (.c (.val (g 89))), .a (.c (.val (g 90))), .a (.c (.val (g 91))), .a (.c (.val (g 92))), .a (.c (.val (g 93))), .a (.c (.val (g 94))), .a (.c (.val (g 95))), .a (.c (.val (g 96))), .a (.c (.val (g 97))), .a (.c (.val (g 98))), .a (.c (.val (g 99))), .a (.c (.val (g 100))), .a (.c (.val (g 101))), .a (.c (.val (g 102))), .a (.c (.val (g 103))), .a (.c (.val (g 104))), .a (.c (.val (g 105))), .a (.c (.val (g 106))), .a (.c (.val (g 107)))]
theorem GoodX.old {key : Int} {x : TrX} (h : GoodX key x) (hb : x.root ≤ 1000) : ∀ j : Int, 0 ≤ j ∧ j ≤ 7 → lcOk key (x.root + 1) 2 8 x.mc x.mt x.lc x.lt j = false := fun j hj => GoodT.oldNodes h (by omega) hj
theorem mod4 {x : Int} : inR (x % 4) 0 3 := by
  have h1 := Int.emod_nonneg x (show (4 : Int) ≠ 0 by decide)
  have h2 := Int.emod_lt_of_pos x (show (0 : Int) < 4 by decide)
  exact ⟨h1, by omega⟩
def son (co : Option Addr) (cn cc : Nat) (cu : Nat → Int) : LSm := fun ts ch kk => ∃ (po : Option Addr) (pc : Nat) (p : Nat → Int) (b4 : Nat) (ok : Bool) (x : TrX) (mo lo : Option Addr) (mc lc : Nat), (ts.map SV.den = (onH co cn cc cu po pc p b4 ok (.il 0) (fun d => (ts.getD d .undef).den)).map SV.den ∧ ch = boT co cn cc cu po pc p b4 ok x mo lo mc lc ∧ GoodX (p 0) x ∧ x.root = 0 ∧ plC p) ∧
    ∀ (g : Nat → Value) (kx : Int) (x : TrX) (mo lo : Option Addr) (mc lc : Nat), (GoodX (p 0) x ∧ leZ x.root 3) → kk (.exit 0) (onH co cn cc cu po pc p b4 ok (.int kx) g) (boT co cn cc cu po pc p b4 ok x mo lo mc lc)
theorem onB (co : Option Addr) (cn cc : Nat) (cu : Nat → Int) (po : Option Addr) (pc : Nat) (p : Nat → Int) (b4 : Nat) (ok : Bool) (x : TrX) (mo lo : Option Addr) (mc lc : Nat) (j : Nat) (g : Nat → Value) (NX : List SV → List Ch → Prop) (kx : Exit → List SV → List Ch → Prop) : (exCode Try.prog {tb := [(16, sBumpX)]} 400 (theLoop Try.f4 0) (onH co cn cc cu po pc p b4 ok (.int (j : Int)) g) (boT co cn cc cu po pc p b4 ok x mo lo mc lc) (loopK NX kx)) = (
  (po = po ∧
  (12 = 12 ∧
  ((0 ≤ (1 : Int) ∧ (1 : Int) < ((12 : Nat) : Int)) ∧
  (po = po ∧
  (1 < 12 ∧
  ((divC (p 1) (4 : Int)) ∧
  (((decide (((j : Nat) : Int) < ((p 1) % (4 : Int)))) = Bool.true →
  (po = po ∧
   (12 = 12 ∧
   ((0 ≤ (0 : Int) ∧ (0 : Int) < ((12 : Nat) : Int)) ∧
   (po = po ∧
   (0 < 12 ∧
   (b4 = b4 ∧
   ((rng ((2 : Int) + ((j : Nat) : Int))) ∧
   (po = po ∧
   (12 = 12 ∧
   ((0 ≤ ((2 : Int) + ((j : Nat) : Int)) ∧ ((2 : Int) + ((j : Nat) : Int)) < ((12 : Nat) : Int)) ∧
   (po = po ∧
   ((Int.toNat ((2 : Int) + ((j : Nat) : Int))) < 12 ∧
   ((divC (p (Int.toNat ((2 : Int) + ((j : Nat) : Int)))) (8 : Int)) ∧
   (Exists (fun (x0 : TrX) => ((mo = mo ∧
   (2 = 2 ∧
   ([(fun (i1 : Nat) => (SC.int ((x).2 i1))), (fun (i2 : Nat) => (SC.int ((x).3 i2)))] = [(fun (i3 : Nat) => (SC.int ((x0).2 i3))), (fun (i4 : Nat) => (SC.int ((x0).3 i4)))] ∧
   (lo = lo ∧
   (8 = 8 ∧
   ([(fun (i5 : Nat) => (SC.int ((x).4 i5))), (fun (i6 : Nat) => (SC.int ((x).5 i6)))] = [(fun (i7 : Nat) => (SC.int ((x0).4 i7))), (fun (i8 : Nat) => (SC.int ((x0).5 i8)))] ∧
   (2 = 2 ∧
   (8 = 8 ∧
   ((x).1 = (x0).1 ∧
   ((GoodX (p 0) x0) ∧
   ((leZ (x0).1 (1000 : Int)) ∧
   (inR ((p (Int.toNat ((2 : Int) + ((j : Nat) : Int)))) % (8 : Int)) (0 : Int) (7 : Int))))))))))))) ∧
   (∀ x'9 : TrX,
   (∀ ro010 : (Option Addr),
   (∀ rc011 : Nat,
   (∀ ro112 : (Option Addr),
   (∀ rc113 : Nat,
   (((GoodX (p 0) x'9) ∧
   (BumpX x0 ((p (Int.toNat ((2 : Int) + ((j : Nat) : Int)))) % (8 : Int)) x'9)) →
   (True ∧
    (b4 = b4 ∧
    (True ∧
    ((rng (((j : Nat) : Int) + (1 : Int))) ∧
    (NX [(SV.a (SA.c (SC.sl 0 co cn cc))), (SV.a (SA.c (SC.val (g 1)))), (SV.a (SA.c (SC.val (g 2)))), (SV.a (SA.c (SC.sl 1 po 12 pc))), (SV.a (SA.c (SC.ptr 4 b4 0))), (SV.a (SA.c (SC.bool ok))), (SV.a (SA.c (SC.int (((j : Nat) : Int) + (1 : Int))))), (SV.a (SA.c (SC.val (g 7)))), (SV.a (SA.c (SC.val (g 8)))), (SV.a (SA.c (SC.val (g 9)))), (SV.a (SA.c (SC.val (g 10)))), (SV.a (SA.c (SC.val (g 11)))), (SV.a (SA.c (SC.val (g 12)))), (SV.a (SA.c (SC.val (g 13)))), (SV.a (SA.c (SC.val (g 14)))), (SV.a (SA.c (SC.val (g 15)))), (SV.a (SA.c (SC.val (g 16)))), (SV.a (SA.c (SC.val (g 17)))), (SV.a (SA.c (SC.val (g 18)))), (SV.a (SA.c (SC.val (g 19)))), (SV.a (SA.c (SC.val (g 20)))), (SV.a (SA.c (SC.val (g 21)))), (SV.a (SA.c (SC.val (g 22)))), (SV.a (SA.c (SC.val (g 23)))), (SV.a (SA.c (SC.val (g 24)))), (SV.a (SA.c (SC.int ((j : Nat) : Int)))), (SV.a (SA.c (SC.sl 1 po 12 pc))), (SV.a (SA.c (SC.rptr 1 po 1 1 0))), (SV.a (SA.c (SC.int (p 1)))), (SV.a (SA.c (SC.int ((p 1) % (4 : Int))))), (SV.a (SA.c (SC.lit Bool.true))), (SV.a (SA.c (SC.int ((j : Nat) : Int)))), (SV.a (SA.c (SC.int (((j : Nat) : Int) + (1 : Int))))), (SV.tup [(SA.agg [(SC.int (x'9).1), (SC.sl 5 ro010 2 rc011), (SC.sl 6 ro112 8 rc113)]), (SA.c (SC.lit Bool.true))]), (SV.a (SA.c (SC.sl 1 po 12 pc))), (SV.a (SA.c (SC.rptr 1 po 1 0 0))), (SV.a (SA.c (SC.int (p 0)))), (SV.a (SA.agg [(SC.int (x).1), (SC.sl 2 mo 2 mc), (SC.sl 3 lo 8 lc)])), (SV.a (SA.c (SC.sl 1 po 12 pc))), (SV.a (SA.c (SC.int ((j : Nat) : Int)))), (SV.a (SA.c (SC.int ((2 : Int) + ((j : Nat) : Int))))), (SV.a (SA.c (SC.rptr 1 po 1 (Int.toNat ((2 : Int) + ((j : Nat) : Int))) 0))), (SV.a (SA.c (SC.int (p (Int.toNat ((2 : Int) + ((j : Nat) : Int))))))), (SV.a (SA.c (SC.int ((p (Int.toNat ((2 : Int) + ((j : Nat) : Int)))) % (8 : Int))))), (SV.tup [(SA.agg [(SC.int (x'9).1), (SC.sl 5 ro010 2 rc011), (SC.sl 6 ro112 8 rc113)]), (SA.c (SC.lit Bool.true))]), (SV.a (SA.agg [(SC.int (x'9).1), (SC.sl 5 ro010 2 rc011), (SC.sl 6 ro112 8 rc113)])), (SV.a (SA.c (SC.lit Bool.true))), (SV.a (SA.c (SC.val (g 47)))), (SV.a (SA.c (SC.val (g 48)))), (SV.a (SA.c (SC.val (g 49)))), (SV.a (SA.c (SC.val (g 50)))), (SV.a (SA.c (SC.val (g 51)))), (SV.a (SA.c (SC.val (g 52)))), (SV.a (SA.c (SC.val (g 53)))), (SV.a (SA.c (SC.val (g 54)))), (SV.a (SA.c (SC.val (g 55)))), (SV.a (SA.c (SC.val (g 56)))), (SV.a (SA.c (SC.val (g 57)))), (SV.a (SA.c (SC.val (g 58)))), (SV.a (SA.c (SC.val (g 59)))), (SV.a (SA.c (SC.val (g 60)))), (SV.a (SA.c (SC.val (g 61)))), (SV.a (SA.c (SC.val (g 62)))), (SV.a (SA.c (SC.val (g 63)))), (SV.a (SA.c (SC.val (g 64)))), (SV.a (SA.c (SC.val (g 65)))), (SV.a (SA.c (SC.val (g 66)))), (SV.a (SA.c (SC.val (g 67)))), (SV.a (SA.c (SC.val (g 68)))), (SV.a (SA.c (SC.val (g 69)))), (SV.a (SA.c (SC.val (g 70)))), (SV.a (SA.c (SC.val (g 71)))), (SV.a (SA.c (SC.val (g 72)))), (SV.a (SA.c (SC.val (g 73)))), (SV.a (SA.c (SC.val (g 74)))), (SV.a (SA.c (SC.val (g 75)))), (SV.a (SA.c (SC.val (g 76)))), (SV.a (SA.c (SC.val (g 77)))), (SV.a (SA.c (SC.val (g 78)))), (SV.a (SA.c (SC.val (g 79)))), (SV.a (SA.c (SC.val (g 80)))), (SV.a (SA.c (SC.val (g 81)))), (SV.a (SA.c (SC.val (g 82)))), (SV.a (SA.c (SC.val (g 83)))), (SV.a (SA.c (SC.val (g 84)))), (SV.a (SA.c (SC.val (g 85)))), (SV.a (SA.c (SC.val (g 86)))), (SV.a (SA.c (SC.val (g 87)))), (SV.a (SA.c (SC.val (g 88)))), (SV.a (SA.c (SC.val (g 89)))), (SV.a (SA.c (SC.val (g 90)))), (SV.a (SA.c (SC.val (g 91)))), (SV.a (SA.c (SC.val (g 92)))), (SV.a (SA.c (SC.val (g 93)))), (SV.a (SA.c (SC.val (g 94)))), (SV.a (SA.c (SC.val (g 95)))), (SV.a (SA.c (SC.val (g 96)))), (SV.a (SA.c (SC.val (g 97)))), (SV.a (SA.c (SC.val (g 98)))), (SV.a (SA.c (SC.val (g 99)))), (SV.a (SA.c (SC.val (g 100)))), (SV.a (SA.c (SC.val (g 101)))), (SV.a (SA.c (SC.val (g 102)))), (SV.a (SA.c (SC.val (g 103)))), (SV.a (SA.c (SC.val (g 104)))), (SV.a (SA.c (SC.val (g 105)))), (SV.a (SA.c (SC.val (g 106)))), (SV.a (SA.c (SC.val (g 107))))] [(Ch.row (Row.mk Bool.false co 0 1 cn 0 [(fun (i14 : Nat) => (SC.u8 (cu i14)))])), (Ch.row (Row.mk Bool.true po 3 1 12 pc [(fun (i15 : Nat) => (SC.int (p i15)))])), (Ch.row (Row.mk Bool.true mo 37 2 2 mc [(fun (i16 : Nat) => (SC.int ((x).2 i16))), (fun (i17 : Nat) => (SC.int ((x).3 i17)))])), (Ch.row (Row.mk Bool.true lo 37 2 8 lc [(fun (i18 : Nat) => (SC.int ((x).4 i18))), (fun (i19 : Nat) => (SC.int ((x).5 i19)))])), (Ch.cells b4 28 [(SC.int (x'9).1), (SC.sl 5 ro010 2 rc011), (SC.sl 6 ro112 8 rc113)]), (Ch.row (Row.mk Bool.true ro010 37 2 2 rc011 [(fun (i20 : Nat) => (SC.int ((x'9).2 i20))), (fun (i21 : Nat) => (SC.int ((x'9).3 i21)))])), (Ch.row (Row.mk Bool.true ro112 37 2 8 rc113 [(fun (i22 : Nat) => (SC.int ((x'9).4 i22))), (fun (i23 : Nat) => (SC.int ((x'9).5 i23)))]))])))))))))))))))))))))))))))) ∧
  ((decide (((j : Nat) : Int) < ((p 1) % (4 : Int)))) = Bool.false →
  (kx (Exit.exit 0) [(SV.a (SA.c (SC.sl 0 co cn cc))), (SV.a (SA.c (SC.val (g 1)))), (SV.a (SA.c (SC.val (g 2)))), (SV.a (SA.c (SC.sl 1 po 12 pc))), (SV.a (SA.c (SC.ptr 4 b4 0))), (SV.a (SA.c (SC.bool ok))), (SV.a (SA.c (SC.int ((j : Nat) : Int)))), (SV.a (SA.c (SC.val (g 7)))), (SV.a (SA.c (SC.val (g 8)))), (SV.a (SA.c (SC.val (g 9)))), (SV.a (SA.c (SC.val (g 10)))), (SV.a (SA.c (SC.val (g 11)))), (SV.a (SA.c (SC.val (g 12)))), (SV.a (SA.c (SC.val (g 13)))), (SV.a (SA.c (SC.val (g 14)))), (SV.a (SA.c (SC.val (g 15)))), (SV.a (SA.c (SC.val (g 16)))), (SV.a (SA.c (SC.val (g 17)))), (SV.a (SA.c (SC.val (g 18)))), (SV.a (SA.c (SC.val (g 19)))), (SV.a (SA.c (SC.val (g 20)))), (SV.a (SA.c (SC.val (g 21)))), (SV.a (SA.c (SC.val (g 22)))), (SV.a (SA.c (SC.val (g 23)))), (SV.a (SA.c (SC.val (g 24)))), (SV.a (SA.c (SC.int ((j : Nat) : Int)))), (SV.a (SA.c (SC.sl 1 po 12 pc))), (SV.a (SA.c (SC.rptr 1 po 1 1 0))), (SV.a (SA.c (SC.int (p 1)))), (SV.a (SA.c (SC.int ((p 1) % (4 : Int))))), (SV.a (SA.c (SC.lit Bool.false))), (SV.a (SA.c (SC.val (g 31)))), (SV.a (SA.c (SC.val (g 32)))), (SV.a (SA.c (SC.val (g 33)))), (SV.a (SA.c (SC.val (g 34)))), (SV.a (SA.c (SC.val (g 35)))), (SV.a (SA.c (SC.val (g 36)))), (SV.a (SA.c (SC.val (g 37)))), (SV.a (SA.c (SC.val (g 38)))), (SV.a (SA.c (SC.val (g 39)))), (SV.a (SA.c (SC.val (g 40)))), (SV.a (SA.c (SC.val (g 41)))), (SV.a (SA.c (SC.val (g 42)))), (SV.a (SA.c (SC.val (g 43)))), (SV.a (SA.c (SC.val (g 44)))), (SV.a (SA.c (SC.val (g 45)))), (SV.a (SA.c (SC.val (g 46)))), (SV.a (SA.c (SC.val (g 47)))), (SV.a (SA.c (SC.val (g 48)))), (SV.a (SA.c (SC.val (g 49)))), (SV.a (SA.c (SC.val (g 50)))), (SV.a (SA.c (SC.val (g 51)))), (SV.a (SA.c (SC.val (g 52)))), (SV.a (SA.c (SC.val (g 53)))), (SV.a (SA.c (SC.val (g 54)))), (SV.a (SA.c (SC.val (g 55)))), (SV.a (SA.c (SC.val (g 56)))), (SV.a (SA.c (SC.val (g 57)))), (SV.a (SA.c (SC.val (g 58)))), (SV.a (SA.c (SC.val (g 59)))), (SV.a (SA.c (SC.val (g 60)))), (SV.a (SA.c (SC.val (g 61)))), (SV.a (SA.c (SC.val (g 62)))), (SV.a (SA.c (SC.val (g 63)))), (SV.a (SA.c (SC.val (g 64)))), (SV.a (SA.c (SC.val (g 65)))), (SV.a (SA.c (SC.val (g 66)))), (SV.a (SA.c (SC.val (g 67)))), (SV.a (SA.c (SC.val (g 68)))), (SV.a (SA.c (SC.val (g 69)))), (SV.a (SA.c (SC.val (g 70)))), (SV.a (SA.c (SC.val (g 71)))), (SV.a (SA.c (SC.val (g 72)))), (SV.a (SA.c (SC.val (g 73)))), (SV.a (SA.c (SC.val (g 74)))), (SV.a (SA.c (SC.val (g 75)))), (SV.a (SA.c (SC.val (g 76)))), (SV.a (SA.c (SC.val (g 77)))), (SV.a (SA.c (SC.val (g 78)))), (SV.a (SA.c (SC.val (g 79)))), (SV.a (SA.c (SC.val (g 80)))), (SV.a (SA.c (SC.val (g 81)))), (SV.a (SA.c (SC.val (g 82)))), (SV.a (SA.c (SC.val (g 83)))), (SV.a (SA.c (SC.val (g 84)))), (SV.a (SA.c (SC.val (g 85)))), (SV.a (SA.c (SC.val (g 86)))), (SV.a (SA.c (SC.val (g 87)))), (SV.a (SA.c (SC.val (g 88)))), (SV.a (SA.c (SC.val (g 89)))), (SV.a (SA.c (SC.val (g 90)))), (SV.a (SA.c (SC.val (g 91)))), (SV.a (SA.c (SC.val (g 92)))), (SV.a (SA.c (SC.val (g 93)))), (SV.a (SA.c (SC.val (g 94)))), (SV.a (SA.c (SC.val (g 95)))), (SV.a (SA.c (SC.val (g 96)))), (SV.a (SA.c (SC.val (g 97)))), (SV.a (SA.c (SC.val (g 98)))), (SV.a (SA.c (SC.val (g 99)))), (SV.a (SA.c (SC.val (g 100)))), (SV.a (SA.c (SC.val (g 101)))), (SV.a (SA.c (SC.val (g 102)))), (SV.a (SA.c (SC.val (g 103)))), (SV.a (SA.c (SC.val (g 104)))), (SV.a (SA.c (SC.val (g 105)))), (SV.a (SA.c (SC.val (g 106)))), (SV.a (SA.c (SC.val (g 107))))] [(Ch.row (Row.mk Bool.false co 0 1 cn 0 [(fun (i24 : Nat) => (SC.u8 (cu i24)))])), (Ch.row (Row.mk Bool.true po 3 1 12 pc [(fun (i25 : Nat) => (SC.int (p i25)))])), (Ch.row (Row.mk Bool.true mo 37 2 2 mc [(fun (i26 : Nat) => (SC.int ((x).2 i26))), (fun (i27 : Nat) => (SC.int ((x).3 i27)))])), (Ch.row (Row.mk Bool.true lo 37 2 8 lc [(fun (i28 : Nat) => (SC.int ((x).4 i28))), (fun (i29 : Nat) => (SC.int ((x).5 i29)))])), (Ch.cells b4 28 [(SC.int (x).1), (SC.sl 2 mo 2 mc), (SC.sl 3 lo 8 lc)])])))))))))) := by kernel_rfl
theorem on_ok (co : Option Addr) (cn cc : Nat) (cu : Nat → Int) (X : Cx) : LoopOK Try.prog X (theLoop Try.f4 0) (son co cn cc cu) := by
  intro ts ch kk a w hS hT hd hs
  obtain ⟨po, pc, p, b4, ok, x, mo, lo, mc, lc, ⟨h1, rfl, hX, hr, hpl⟩, hk⟩ := hS
  have hm4 := mod4 (x := p 1)
  have hm5 := hm4.1
  have hm6 := hm4.2
  refine loop_ok mixed (E := {tb := [(16, sBumpX)]}) ⟨sBumpX_S, trivial⟩ (loopsOK_nil _ _ _) 400 3 (fun j ts ch => ∃ g x mo lo mc lc, (GoodX (p 0) x ∧ x.root = (j : Int)) ∧ ts = onH co cn cc cu po pc p b4 ok (.int (j : Int)) g ∧ ch = boT co cn cc cu po pc p b4 ok x mo lo mc lc) ?_ ?_ hT hd hs
  · clear hX hr
    rintro j _ _ ⟨g, x, mo, lo, mc, lc, ⟨hX, hr⟩, rfl, rfl⟩ hj
    refine (@Eq.mpr _ _ (onB co cn cc cu po pc p b4 ok x mo lo mc lc j g _ _) ?_)
    have hb : leZ x.root 1000 := by show _ ≤ _; omega
    have hb3 : leZ x.root 3 := by show _ ≤ _; omega
    repeat' (first
      | with_reducible exact rfl
      | exact True.intro
      | with_reducible assumption
      | with_reducible exact plc_min hpl _
      | with_reducible exact plc_max hpl _
      | with_reducible exact mod8
      | (refine ⟨by omega, ?_⟩; show Next _ _ _ _; refine Next.mk (fun g => onH co cn cc cu po pc p b4 ok (.int ((j + 1 : Nat) : Int)) g) _ ⟨_, _, _, _, _, _, ⟨hY, by rw [hyr]; omega⟩, rfl, rfl⟩ rfl fun w hw => (hw.sel [0, 1, 5, 6, 4] (by simp)).recell 4 rfl [.int _, .sl 2 _ 2 _, .sl 3 _ 8 _] rfl)
      | (refine Next.mk (fun g => onH co cn cc cu po pc p b4 ok (.int (j : Int)) g) _ (hk _ _ _ _ _ _ _ ⟨hX, hb3⟩) rfl fun w hw => hw)
      | refine And.intro ?_ ?_
      | apply Exists.intro
      | (intro (h : GoodX _ _ ∧ BumpX _ _ _); obtain ⟨hY, hBp⟩ := h; have hyr := hBp.1)
      | (intro h; replace h := of_decide_eq_true h; first | (exfalso; omega) | skip)
      | (intro h; replace h := of_decide_eq_false h; first | (exfalso; omega) | skip)
      | intro _
      | omega
      | (simp; omega))
  · exact Next.mk (fun g => onH co cn cc cu po pc p b4 ok (.int ((0 : Nat) : Int)) g) _ ⟨_, _, _, _, _, _, ⟨hX, hr⟩, rfl, rfl⟩ h1 fun w hw => hw
end Go.Proofs.Ytppeocfcdeiemaa

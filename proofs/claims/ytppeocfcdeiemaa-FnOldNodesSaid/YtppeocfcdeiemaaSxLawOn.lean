/-
  FnOldNodes.
-/
import Derived.Test.YtppeocfcdeiemaaSxOld
import Derived.Test.YtppeocfcdeiemaaSxCode
namespace Go.Proofs.Ytppeocfcdeiemaa
set_option linter.unusedVariables false
set_option linter.unusedSimpArgs false
open Go.RowKit
set_option maxRecDepth 100000
set_option maxHeartbeats 8000000

def sBig : Sm := inlM Try.prog {tb := []} 300 Try.f9
theorem sBig_ok : SmOK Try.prog 9 sBig := inlM_ok mixed (E := {tb := []}) trivial Try.func9 Try.call9 (fun _ _ _ => loopsOK_nil _ _ _)
theorem law_FnOldNodes_T (co : Option Addr) (cn cc : Nat) (cu : Nat → Int) : (exFn Try.prog {tb := [(9, sBig), (10, sPlaces), (15, sTNewX), (16, sBumpX), (17, sWith), (14, sLC), (13, sTOk)], L := [(6, son co cn cc cu)]} 400 Try.f4 ([.a (.c (.sl 0 co cn cc))]) ([.row ⟨false, co, 0, 1, cn, 0, [fun i => .u8 (cu i)]⟩]) (fun v _ => v.den = .bool true)) = (
  (((decide (((cn : Nat) : Int) > (1048576 : Int))) = Bool.true →
  (Value.bool Bool.true) = (Value.bool Bool.true)) ∧
  ((decide (((cn : Nat) : Int) > (1048576 : Int))) = Bool.false →
  (Exists (fun (u0 : (Nat →
   Int)) => (((co = co ∧
   (cn = cn ∧
   [(fun (i1 : Nat) => (SC.u8 (cu i1)))] = [(fun (i2 : Nat) => (SC.u8 (u0 i2)))])) ∧
   (codeC cn u0)) ∧
   (∀ p3 : (Nat →
   Int),
   (∀ ro04 : (Option Addr),
   (∀ rc05 : Nat,
   ((plC p3) →
   (ro04 = ro04 ∧
    (12 = 12 ∧
    ((0 ≤ (0 : Int) ∧ (0 : Int) < ((12 : Nat) : Int)) ∧
    (ro04 = ro04 ∧
    (0 < 12 ∧
    ((isW (p3 0)) = Bool.true ∧
    (∀ x6 : TrX,
    (∀ ro07 : (Option Addr),
    (∀ rc08 : Nat,
    (∀ ro19 : (Option Addr),
    (∀ rc110 : Nat,
    (((GoodX (p3 0) x6) ∧
    (x6).1 = (0 : Int)) →
    (∀ b11 : Nat,
     (b11 = b11 ∧
     (Exists (fun (po12 : (Option Addr)) => (Exists (fun (pc13 : Nat) => (Exists (fun (p14 : (Nat →
     Int)) => (Exists (fun (b415 : Nat) => (Exists (fun (ok16 : Bool) => (Exists (fun (x17 : TrX) => (Exists (fun (mo18 : (Option Addr)) => (Exists (fun (lo19 : (Option Addr)) => (Exists (fun (mc20 : Nat) => (Exists (fun (lc21 : Nat) => (([(Value.slice co cn cc), (Value.tuple (List.toArray [])), (Value.bool Bool.false), (Value.slice ro04 12 rc05), (Value.pointer (Option.some (Addr.mk b11 0 Option.none))), (Value.bool Bool.true), (Value.int IntKind.i64 (0 : Int)), (Value.tuple (List.toArray [])), (Value.tuple (List.toArray [])), (Value.tuple (List.toArray [])), (Value.tuple (List.toArray [])), (Value.tuple (List.toArray [])), (Value.tuple (List.toArray [])), (Value.tuple (List.toArray [])), (Value.slice co cn cc), (Value.bool Bool.false), (Value.slice co cn cc), (Value.slice ro04 12 rc05), (Value.tuple (List.toArray [(Value.agg (List.toArray [(Value.int IntKind.i64 (x6).1), (Value.slice ro07 2 rc08), (Value.slice ro19 8 rc110)])), (Value.bool Bool.true)])), (Value.slice ro04 12 rc05), (rptrV ro04 1 0 0), (Value.int IntKind.i64 (p3 0)), (Value.tuple (List.toArray [(Value.agg (List.toArray [(Value.int IntKind.i64 (x6).1), (Value.slice ro07 2 rc08), (Value.slice ro19 8 rc110)])), (Value.bool Bool.true)])), (Value.agg (List.toArray [(Value.int IntKind.i64 (x6).1), (Value.slice ro07 2 rc08), (Value.slice ro19 8 rc110)])), (Value.bool Bool.true), (Value.tuple (List.toArray [])), (Value.tuple (List.toArray [])), (Value.tuple (List.toArray [])), (Value.tuple (List.toArray [])), (Value.tuple (List.toArray [])), (Value.tuple (List.toArray [])), (Value.tuple (List.toArray [])), (Value.tuple (List.toArray [])), (Value.tuple (List.toArray [])), (Value.tuple (List.toArray [])), (Value.tuple (List.toArray [])), (Value.tuple (List.toArray [])), (Value.tuple (List.toArray [])), (Value.tuple (List.toArray [])), (Value.tuple (List.toArray [])), (Value.tuple (List.toArray [])), (Value.tuple (List.toArray [])), (Value.tuple (List.toArray [])), (Value.tuple (List.toArray [])), (Value.tuple (List.toArray [])), (Value.tuple (List.toArray [])), (Value.tuple (List.toArray [])), (Value.tuple (List.toArray [])), (Value.tuple (List.toArray [])), (Value.tuple (List.toArray [])), (Value.tuple (List.toArray [])), (Value.tuple (List.toArray [])), (Value.tuple (List.toArray [])), (Value.tuple (List.toArray [])), (Value.tuple (List.toArray [])), (Value.tuple (List.toArray [])), (Value.tuple (List.toArray [])), (Value.tuple (List.toArray [])), (Value.tuple (List.toArray [])), (Value.tuple (List.toArray [])), (Value.tuple (List.toArray [])), (Value.tuple (List.toArray [])), (Value.tuple (List.toArray [])), (Value.tuple (List.toArray [])), (Value.tuple (List.toArray [])), (Value.tuple (List.toArray [])), (Value.tuple (List.toArray [])), (Value.tuple (List.toArray [])), (Value.tuple (List.toArray [])), (Value.tuple (List.toArray [])), (Value.tuple (List.toArray [])), (Value.tuple (List.toArray [])), (Value.tuple (List.toArray [])), (Value.tuple (List.toArray [])), (Value.tuple (List.toArray [])), (Value.tuple (List.toArray [])), (Value.tuple (List.toArray [])), (Value.tuple (List.toArray [])), (Value.tuple (List.toArray [])), (Value.tuple (List.toArray [])), (Value.tuple (List.toArray [])), (Value.tuple (List.toArray [])), (Value.tuple (List.toArray [])), (Value.tuple (List.toArray [])), (Value.tuple (List.toArray [])), (Value.tuple (List.toArray [])), (Value.tuple (List.toArray [])), (Value.tuple (List.toArray [])), (Value.tuple (List.toArray [])), (Value.tuple (List.toArray [])), (Value.tuple (List.toArray [])), (Value.tuple (List.toArray [])), (Value.tuple (List.toArray [])), (Value.tuple (List.toArray [])), (Value.tuple (List.toArray [])), (Value.tuple (List.toArray [])), (Value.tuple (List.toArray [])), (Value.tuple (List.toArray [])), (Value.tuple (List.toArray [])), (Value.tuple (List.toArray [])), (Value.tuple (List.toArray [])), (Value.tuple (List.toArray [])), (Value.tuple (List.toArray [])), (Value.tuple (List.toArray [])), (Value.tuple (List.toArray [])), (Value.tuple (List.toArray [])), (Value.tuple (List.toArray [])), (Value.tuple (List.toArray []))] = [(Value.slice co cn cc), (Value.tuple (List.toArray [])), (Value.bool Bool.false), (Value.slice po12 12 pc13), (Value.pointer (Option.some (Addr.mk b415 0 Option.none))), (Value.bool ok16), (Value.int IntKind.i64 (0 : Int)), (Value.tuple (List.toArray [])), (Value.tuple (List.toArray [])), (Value.tuple (List.toArray [])), (Value.tuple (List.toArray [])), (Value.tuple (List.toArray [])), (Value.tuple (List.toArray [])), (Value.tuple (List.toArray [])), (Value.slice co cn cc), (Value.bool Bool.false), (Value.slice co cn cc), (Value.slice ro04 12 rc05), (Value.tuple (List.toArray [(Value.agg (List.toArray [(Value.int IntKind.i64 (x6).1), (Value.slice ro07 2 rc08), (Value.slice ro19 8 rc110)])), (Value.bool Bool.true)])), (Value.slice ro04 12 rc05), (rptrV ro04 1 0 0), (Value.int IntKind.i64 (p3 0)), (Value.tuple (List.toArray [(Value.agg (List.toArray [(Value.int IntKind.i64 (x6).1), (Value.slice ro07 2 rc08), (Value.slice ro19 8 rc110)])), (Value.bool Bool.true)])), (Value.agg (List.toArray [(Value.int IntKind.i64 (x6).1), (Value.slice ro07 2 rc08), (Value.slice ro19 8 rc110)])), (Value.bool Bool.true), (Value.tuple (List.toArray [])), (Value.tuple (List.toArray [])), (Value.tuple (List.toArray [])), (Value.tuple (List.toArray [])), (Value.tuple (List.toArray [])), (Value.tuple (List.toArray [])), (Value.tuple (List.toArray [])), (Value.tuple (List.toArray [])), (Value.tuple (List.toArray [])), (Value.tuple (List.toArray [])), (Value.tuple (List.toArray [])), (Value.tuple (List.toArray [])), (Value.tuple (List.toArray [])), (Value.tuple (List.toArray [])), (Value.tuple (List.toArray [])), (Value.tuple (List.toArray [])), (Value.tuple (List.toArray [])), (Value.tuple (List.toArray [])), (Value.tuple (List.toArray [])), (Value.tuple (List.toArray [])), (Value.tuple (List.toArray [])), (Value.tuple (List.toArray [])), (Value.tuple (List.toArray [])), (Value.tuple (List.toArray [])), (Value.tuple (List.toArray [])), (Value.tuple (List.toArray [])), (Value.tuple (List.toArray [])), (Value.tuple (List.toArray [])), (Value.tuple (List.toArray [])), (Value.tuple (List.toArray [])), (Value.tuple (List.toArray [])), (Value.tuple (List.toArray [])), (Value.tuple (List.toArray [])), (Value.tuple (List.toArray [])), (Value.tuple (List.toArray [])), (Value.tuple (List.toArray [])), (Value.tuple (List.toArray [])), (Value.tuple (List.toArray [])), (Value.tuple (List.toArray [])), (Value.tuple (List.toArray [])), (Value.tuple (List.toArray [])), (Value.tuple (List.toArray [])), (Value.tuple (List.toArray [])), (Value.tuple (List.toArray [])), (Value.tuple (List.toArray [])), (Value.tuple (List.toArray [])), (Value.tuple (List.toArray [])), (Value.tuple (List.toArray [])), (Value.tuple (List.toArray [])), (Value.tuple (List.toArray [])), (Value.tuple (List.toArray [])), (Value.tuple (List.toArray [])), (Value.tuple (List.toArray [])), (Value.tuple (List.toArray [])), (Value.tuple (List.toArray [])), (Value.tuple (List.toArray [])), (Value.tuple (List.toArray [])), (Value.tuple (List.toArray [])), (Value.tuple (List.toArray [])), (Value.tuple (List.toArray [])), (Value.tuple (List.toArray [])), (Value.tuple (List.toArray [])), (Value.tuple (List.toArray [])), (Value.tuple (List.toArray [])), (Value.tuple (List.toArray [])), (Value.tuple (List.toArray [])), (Value.tuple (List.toArray [])), (Value.tuple (List.toArray [])), (Value.tuple (List.toArray [])), (Value.tuple (List.toArray [])), (Value.tuple (List.toArray [])), (Value.tuple (List.toArray [])), (Value.tuple (List.toArray [])), (Value.tuple (List.toArray [])), (Value.tuple (List.toArray [])), (Value.tuple (List.toArray [])), (Value.tuple (List.toArray [])), (Value.tuple (List.toArray [])), (Value.tuple (List.toArray [])), (Value.tuple (List.toArray [])), (Value.tuple (List.toArray [])), (Value.tuple (List.toArray [])), (Value.tuple (List.toArray []))] ∧
     ([(Ch.row (Row.mk Bool.false co 0 1 cn 0 [(fun (i22 : Nat) => (SC.u8 (cu i22)))])), (Ch.row (Row.mk Bool.true ro04 3 1 12 rc05 [(fun (i23 : Nat) => (SC.int (p3 i23)))])), (Ch.row (Row.mk Bool.true ro07 37 2 2 rc08 [(fun (i24 : Nat) => (SC.int ((x6).2 i24))), (fun (i25 : Nat) => (SC.int ((x6).3 i25)))])), (Ch.row (Row.mk Bool.true ro19 37 2 8 rc110 [(fun (i26 : Nat) => (SC.int ((x6).4 i26))), (fun (i27 : Nat) => (SC.int ((x6).5 i27)))])), (Ch.cells b11 28 [(SC.int (x6).1), (SC.sl 2 ro07 2 rc08), (SC.sl 3 ro19 8 rc110)])] = [(Ch.row (Row.mk Bool.false co 0 1 cn 0 [(fun (i28 : Nat) => (SC.u8 (cu i28)))])), (Ch.row (Row.mk Bool.true po12 3 1 12 pc13 [(fun (i29 : Nat) => (SC.int (p14 i29)))])), (Ch.row (Row.mk Bool.true mo18 37 2 2 mc20 [(fun (i30 : Nat) => (SC.int ((x17).2 i30))), (fun (i31 : Nat) => (SC.int ((x17).3 i31)))])), (Ch.row (Row.mk Bool.true lo19 37 2 8 lc21 [(fun (i32 : Nat) => (SC.int ((x17).4 i32))), (fun (i33 : Nat) => (SC.int ((x17).5 i33)))])), (Ch.cells b415 28 [(SC.int (x17).1), (SC.sl 2 mo18 2 mc20), (SC.sl 3 lo19 8 lc21)])] ∧
     ((GoodX (p14 0) x17) ∧
     ((x17).1 = (0 : Int) ∧
     (plC p14))))) ∧
     (∀ g34 : (Nat →
     Value),
     (∀ kx35 : Int,
     (∀ x36 : TrX,
     (∀ mo37 : (Option Addr),
     (∀ lo38 : (Option Addr),
     (∀ mc39 : Nat,
     (∀ lc40 : Nat,
     (((GoodX (p14 0) x36) ∧
     (leZ (x36).1 (3 : Int))) →
     (po12 = po12 ∧
      (12 = 12 ∧
      ((0 ≤ (0 : Int) ∧ (0 : Int) < ((12 : Nat) : Int)) ∧
      (po12 = po12 ∧
      (0 < 12 ∧
      (b415 = b415 ∧
      (po12 = po12 ∧
      (12 = 12 ∧
      ((0 ≤ (6 : Int) ∧ (6 : Int) < ((12 : Nat) : Int)) ∧
      (po12 = po12 ∧
      (6 < 12 ∧
      ((divC (p14 6) (8 : Int)) ∧
      ((Exists (fun (x41 : TrX) => ((mo37 = mo37 ∧
      (2 = 2 ∧
      ([(fun (i42 : Nat) => (SC.int ((x36).2 i42))), (fun (i43 : Nat) => (SC.int ((x36).3 i43)))] = [(fun (i44 : Nat) => (SC.int ((x41).2 i44))), (fun (i45 : Nat) => (SC.int ((x41).3 i45)))] ∧
      (lo38 = lo38 ∧
      (8 = 8 ∧
      ([(fun (i46 : Nat) => (SC.int ((x36).4 i46))), (fun (i47 : Nat) => (SC.int ((x36).5 i47)))] = [(fun (i48 : Nat) => (SC.int ((x41).4 i48))), (fun (i49 : Nat) => (SC.int ((x41).5 i49)))] ∧
      (2 = 2 ∧
      (8 = 8 ∧
      ((x36).1 = (x41).1 ∧
      ((GoodX (p14 0) x41) ∧
      ((leZ (x41).1 (1000 : Int)) ∧
      (inR ((p14 6) % (8 : Int)) (0 : Int) (7 : Int))))))))))))) ∧
      (∀ x'50 : TrX,
      (∀ ro051 : (Option Addr),
      (∀ rc052 : Nat,
      (∀ ro153 : (Option Addr),
      (∀ rc154 : Nat,
      (((GoodX (p14 0) x'50) ∧
      (BumpX x41 ((p14 6) % (8 : Int)) x'50)) →
      (True ∧
       (∀ b55 : Nat,
       (True ∧
       (b55 = b55 ∧
       (True ∧
       (b55 = b55 ∧
       (b415 = b415 ∧
       (Exists (fun (tMidg056 : (Nat →
       Int)) => (Exists (fun (tMidg157 : (Nat →
       Int)) => (Exists (fun (tLeafg058 : (Nat →
       Int)) => (Exists (fun (tLeafg159 : (Nat →
       Int)) => (Exists (fun (oldMidg060 : (Nat →
       Int)) => (Exists (fun (oldMidg161 : (Nat →
       Int)) => (Exists (fun (oldLeafg062 : (Nat →
       Int)) => (Exists (fun (oldLeafg163 : (Nat →
       Int)) => ((ro051 = ro051 ∧
       (2 = 2 ∧
       ([(fun (i64 : Nat) => (SC.int ((x'50).2 i64))), (fun (i65 : Nat) => (SC.int ((x'50).3 i65)))] = [(fun (i66 : Nat) => (SC.int (tMidg056 i66))), (fun (i67 : Nat) => (SC.int (tMidg157 i67)))] ∧
       (ro153 = ro153 ∧
       (8 = 8 ∧
       ([(fun (i68 : Nat) => (SC.int ((x'50).4 i68))), (fun (i69 : Nat) => (SC.int ((x'50).5 i69)))] = [(fun (i70 : Nat) => (SC.int (tLeafg058 i70))), (fun (i71 : Nat) => (SC.int (tLeafg159 i71)))] ∧
       (mo37 = mo37 ∧
       (2 = 2 ∧
       ([(fun (i72 : Nat) => (SC.int ((x36).2 i72))), (fun (i73 : Nat) => (SC.int ((x36).3 i73)))] = [(fun (i74 : Nat) => (SC.int (oldMidg060 i74))), (fun (i75 : Nat) => (SC.int (oldMidg161 i75)))] ∧
       (lo38 = lo38 ∧
       (8 = 8 ∧
       ([(fun (i76 : Nat) => (SC.int ((x36).4 i76))), (fun (i77 : Nat) => (SC.int ((x36).5 i77)))] = [(fun (i78 : Nat) => (SC.int (oldLeafg062 i78))), (fun (i79 : Nat) => (SC.int (oldLeafg163 i79)))] ∧
       ((capC 2) ∧
       (capC 8)))))))))))))) ∧
       (∀ ro080 : (Option Addr),
       (∀ rc081 : Nat,
       (∀ ro182 : (Option Addr),
       (∀ rc183 : Nat,
       (∀ b84 : Nat,
       (b84 = b84 ∧
       (po12 = po12 ∧
       (12 = 12 ∧
       ((0 ≤ (0 : Int) ∧ (0 : Int) < ((12 : Nat) : Int)) ∧
       (po12 = po12 ∧
       (0 < 12 ∧
       (b84 = b84 ∧
       (po12 = po12 ∧
       (12 = 12 ∧
       ((0 ≤ (7 : Int) ∧ (7 : Int) < ((12 : Nat) : Int)) ∧
       (po12 = po12 ∧
       (7 < 12 ∧
       ((divC (p14 7) (8 : Int)) ∧
       (Exists (fun (mc85 : (Nat →
       Int)) => (Exists (fun (mt86 : (Nat →
       Int)) => (Exists (fun (lc87 : (Nat →
       Int)) => (Exists (fun (lt88 : (Nat →
       Int)) => ((ro080 = ro080 ∧
       (2 = 2 ∧
       ([(fun (i89 : Nat) => (SC.int (oldMidg060 i89))), (fun (i90 : Nat) => (SC.int (oldMidg161 i90)))] = [(fun (i91 : Nat) => (SC.int (mc85 i91))), (fun (i92 : Nat) => (SC.int (mt86 i92)))] ∧
       (ro182 = ro182 ∧
       (8 = 8 ∧
       [(fun (i93 : Nat) => (SC.int (oldLeafg062 i93))), (fun (i94 : Nat) => (SC.int (oldLeafg163 i94)))] = [(fun (i95 : Nat) => (SC.int (lc87 i95))), (fun (i96 : Nat) => (SC.int (lt88 i96)))]))))) ∧
       (True ∧
       (po12 = po12 ∧
       (12 = 12 ∧
       ((0 ≤ (0 : Int) ∧ (0 : Int) < ((12 : Nat) : Int)) ∧
       (po12 = po12 ∧
       (0 < 12 ∧
       (b55 = b55 ∧
       (po12 = po12 ∧
       (12 = 12 ∧
       ((0 ≤ (7 : Int) ∧ (7 : Int) < ((12 : Nat) : Int)) ∧
       (po12 = po12 ∧
       (7 < 12 ∧
       ((divC (p14 7) (8 : Int)) ∧
       (Exists (fun (mc97 : (Nat →
       Int)) => (Exists (fun (mt98 : (Nat →
       Int)) => (Exists (fun (lc99 : (Nat →
       Int)) => (Exists (fun (lt100 : (Nat →
       Int)) => ((ro051 = ro051 ∧
       (2 = 2 ∧
       ([(fun (i101 : Nat) => (SC.int ((x'50).2 i101))), (fun (i102 : Nat) => (SC.int ((x'50).3 i102)))] = [(fun (i103 : Nat) => (SC.int (mc97 i103))), (fun (i104 : Nat) => (SC.int (mt98 i104)))] ∧
       (ro153 = ro153 ∧
       (8 = 8 ∧
       [(fun (i105 : Nat) => (SC.int ((x'50).4 i105))), (fun (i106 : Nat) => (SC.int ((x'50).5 i106)))] = [(fun (i107 : Nat) => (SC.int (lc99 i107))), (fun (i108 : Nat) => (SC.int (lt100 i108)))]))))) ∧
       (True ∧
       (((!(lcOk (p14 0) (x'50).1 2 8 mc85 mt86 lc87 lt88 ((p14 7) % (8 : Int)))) = Bool.true →
       (((lcOk (p14 0) (x'50).1 2 8 mc97 mt98 lc99 lt100 ((p14 7) % (8 : Int))) = Bool.true →
        (po12 = po12 ∧
         (12 = 12 ∧
         ((0 ≤ (0 : Int) ∧ (0 : Int) < ((12 : Nat) : Int)) ∧
         (po12 = po12 ∧
         (0 < 12 ∧
         (b84 = b84 ∧
         (Exists (fun (tMidg0109 : (Nat →
         Int)) => (Exists (fun (tMidg1110 : (Nat →
         Int)) => (Exists (fun (tLeafg0111 : (Nat →
         Int)) => (Exists (fun (tLeafg1112 : (Nat →
         Int)) => ((ro080 = ro080 ∧
         (2 = 2 ∧
         ([(fun (i113 : Nat) => (SC.int (oldMidg060 i113))), (fun (i114 : Nat) => (SC.int (oldMidg161 i114)))] = [(fun (i115 : Nat) => (SC.int (tMidg0109 i115))), (fun (i116 : Nat) => (SC.int (tMidg1110 i116)))] ∧
         (ro182 = ro182 ∧
         (8 = 8 ∧
         [(fun (i117 : Nat) => (SC.int (oldLeafg062 i117))), (fun (i118 : Nat) => (SC.int (oldLeafg163 i118)))] = [(fun (i119 : Nat) => (SC.int (tLeafg0111 i119))), (fun (i120 : Nat) => (SC.int (tLeafg1112 i120)))]))))) ∧
         (True ∧
         (((!(treeB (p14 0) (x'50).1 2 8 tMidg0109 tMidg1110 tLeafg0111 tLeafg1112)) = Bool.true →
         (po12 = po12 ∧
          (12 = 12 ∧
          ((0 ≤ (0 : Int) ∧ (0 : Int) < ((12 : Nat) : Int)) ∧
          (po12 = po12 ∧
          (0 < 12 ∧
          (b55 = b55 ∧
          (b55 = b55 ∧
          (Exists (fun (tMidg0121 : (Nat →
          Int)) => (Exists (fun (tMidg1122 : (Nat →
          Int)) => (Exists (fun (tLeafg0123 : (Nat →
          Int)) => (Exists (fun (tLeafg1124 : (Nat →
          Int)) => (Exists (fun (oldMidg0125 : (Nat →
          Int)) => (Exists (fun (oldMidg1126 : (Nat →
          Int)) => (Exists (fun (oldLeafg0127 : (Nat →
          Int)) => (Exists (fun (oldLeafg1128 : (Nat →
          Int)) => ((ro051 = ro051 ∧
          (2 = 2 ∧
          ([(fun (i129 : Nat) => (SC.int ((x'50).2 i129))), (fun (i130 : Nat) => (SC.int ((x'50).3 i130)))] = [(fun (i131 : Nat) => (SC.int (tMidg0121 i131))), (fun (i132 : Nat) => (SC.int (tMidg1122 i132)))] ∧
          (ro153 = ro153 ∧
          (8 = 8 ∧
          ([(fun (i133 : Nat) => (SC.int ((x'50).4 i133))), (fun (i134 : Nat) => (SC.int ((x'50).5 i134)))] = [(fun (i135 : Nat) => (SC.int (tLeafg0123 i135))), (fun (i136 : Nat) => (SC.int (tLeafg1124 i136)))] ∧
          (ro051 = ro051 ∧
          (2 = 2 ∧
          ([(fun (i137 : Nat) => (SC.int ((x'50).2 i137))), (fun (i138 : Nat) => (SC.int ((x'50).3 i138)))] = [(fun (i139 : Nat) => (SC.int (oldMidg0125 i139))), (fun (i140 : Nat) => (SC.int (oldMidg1126 i140)))] ∧
          (ro153 = ro153 ∧
          (8 = 8 ∧
          ([(fun (i141 : Nat) => (SC.int ((x'50).4 i141))), (fun (i142 : Nat) => (SC.int ((x'50).5 i142)))] = [(fun (i143 : Nat) => (SC.int (oldLeafg0127 i143))), (fun (i144 : Nat) => (SC.int (oldLeafg1128 i144)))] ∧
          ((capC 2) ∧
          (capC 8)))))))))))))) ∧
          (∀ ro0145 : (Option Addr),
          (∀ rc0146 : Nat,
          (∀ ro1147 : (Option Addr),
          (∀ rc1148 : Nat,
          (True ∧
          (Exists (fun (tMidg0149 : (Nat →
          Int)) => (Exists (fun (tMidg1150 : (Nat →
          Int)) => (Exists (fun (tLeafg0151 : (Nat →
          Int)) => (Exists (fun (tLeafg1152 : (Nat →
          Int)) => ((ro0145 = ro0145 ∧
          (2 = 2 ∧
          ([(fun (i153 : Nat) => (SC.int (oldMidg0125 i153))), (fun (i154 : Nat) => (SC.int (oldMidg1126 i154)))] = [(fun (i155 : Nat) => (SC.int (tMidg0149 i155))), (fun (i156 : Nat) => (SC.int (tMidg1150 i156)))] ∧
          (ro1147 = ro1147 ∧
          (8 = 8 ∧
          [(fun (i157 : Nat) => (SC.int (oldLeafg0127 i157))), (fun (i158 : Nat) => (SC.int (oldLeafg1128 i158)))] = [(fun (i159 : Nat) => (SC.int (tLeafg0151 i159))), (fun (i160 : Nat) => (SC.int (tLeafg1152 i160)))]))))) ∧
          (True ∧
          (Value.bool (treeB (p14 0) (x'50).1 2 8 tMidg0149 tMidg1150 tLeafg0151 tLeafg1152)) = (Value.bool Bool.true))))))))))))))))))))))))))))))))))))))))) ∧
         ((!(treeB (p14 0) (x'50).1 2 8 tMidg0109 tMidg1110 tLeafg0111 tLeafg1112)) = Bool.false →
         (Value.bool Bool.false) = (Value.bool Bool.true)))))))))))))))))))) ∧
        ((lcOk (p14 0) (x'50).1 2 8 mc97 mt98 lc99 lt100 ((p14 7) % (8 : Int))) = Bool.false →
        (Value.bool Bool.false) = (Value.bool Bool.true)))) ∧
       ((!(lcOk (p14 0) (x'50).1 2 8 mc85 mt86 lc87 lt88 ((p14 7) % (8 : Int)))) = Bool.false →
       (Value.bool Bool.false) = (Value.bool Bool.true)))))))))))))))))))))))))))))))))))))))))))))))))))))))))))))))))))))))))))))))))))))) ∧
      (∀ b161 : Nat,
      (True ∧
      (Exists (fun (x162 : TrX) => ((mo37 = mo37 ∧
      (2 = 2 ∧
      ([(fun (i163 : Nat) => (SC.int ((x36).2 i163))), (fun (i164 : Nat) => (SC.int ((x36).3 i164)))] = [(fun (i165 : Nat) => (SC.int ((x162).2 i165))), (fun (i166 : Nat) => (SC.int ((x162).3 i166)))] ∧
      (lo38 = lo38 ∧
      (8 = 8 ∧
      ([(fun (i167 : Nat) => (SC.int ((x36).4 i167))), (fun (i168 : Nat) => (SC.int ((x36).5 i168)))] = [(fun (i169 : Nat) => (SC.int ((x162).4 i169))), (fun (i170 : Nat) => (SC.int ((x162).5 i170)))] ∧
      (2 = 2 ∧
      (8 = 8 ∧
      ((x36).1 = (x162).1 ∧
      ((GoodX (p14 0) x162) ∧
      ((leZ (x162).1 (1000 : Int)) ∧
      (inR ((p14 6) % (8 : Int)) (0 : Int) (7 : Int))))))))))))) ∧
      (∀ x'171 : TrX,
      (∀ ro0172 : (Option Addr),
      (∀ rc0173 : Nat,
      (∀ ro1174 : (Option Addr),
      (∀ rc1175 : Nat,
      (((GoodX (p14 0) x'171) ∧
      (BumpX x162 ((p14 6) % (8 : Int)) x'171)) →
      (True ∧
       (b161 = b161 ∧
       (True ∧
       (b161 = b161 ∧
       (b415 = b415 ∧
       (Exists (fun (tMidg0176 : (Nat →
       Int)) => (Exists (fun (tMidg1177 : (Nat →
       Int)) => (Exists (fun (tLeafg0178 : (Nat →
       Int)) => (Exists (fun (tLeafg1179 : (Nat →
       Int)) => (Exists (fun (oldMidg0180 : (Nat →
       Int)) => (Exists (fun (oldMidg1181 : (Nat →
       Int)) => (Exists (fun (oldLeafg0182 : (Nat →
       Int)) => (Exists (fun (oldLeafg1183 : (Nat →
       Int)) => ((ro0172 = ro0172 ∧
       (2 = 2 ∧
       ([(fun (i184 : Nat) => (SC.int ((x'171).2 i184))), (fun (i185 : Nat) => (SC.int ((x'171).3 i185)))] = [(fun (i186 : Nat) => (SC.int (tMidg0176 i186))), (fun (i187 : Nat) => (SC.int (tMidg1177 i187)))] ∧
       (ro1174 = ro1174 ∧
       (8 = 8 ∧
       ([(fun (i188 : Nat) => (SC.int ((x'171).4 i188))), (fun (i189 : Nat) => (SC.int ((x'171).5 i189)))] = [(fun (i190 : Nat) => (SC.int (tLeafg0178 i190))), (fun (i191 : Nat) => (SC.int (tLeafg1179 i191)))] ∧
       (mo37 = mo37 ∧
       (2 = 2 ∧
       ([(fun (i192 : Nat) => (SC.int ((x36).2 i192))), (fun (i193 : Nat) => (SC.int ((x36).3 i193)))] = [(fun (i194 : Nat) => (SC.int (oldMidg0180 i194))), (fun (i195 : Nat) => (SC.int (oldMidg1181 i195)))] ∧
       (lo38 = lo38 ∧
       (8 = 8 ∧
       ([(fun (i196 : Nat) => (SC.int ((x36).4 i196))), (fun (i197 : Nat) => (SC.int ((x36).5 i197)))] = [(fun (i198 : Nat) => (SC.int (oldLeafg0182 i198))), (fun (i199 : Nat) => (SC.int (oldLeafg1183 i199)))] ∧
       ((capC 2) ∧
       (capC 8)))))))))))))) ∧
       (∀ ro0200 : (Option Addr),
       (∀ rc0201 : Nat,
       (∀ ro1202 : (Option Addr),
       (∀ rc1203 : Nat,
       (∀ b204 : Nat,
       (b204 = b204 ∧
       (po12 = po12 ∧
       (12 = 12 ∧
       ((0 ≤ (0 : Int) ∧ (0 : Int) < ((12 : Nat) : Int)) ∧
       (po12 = po12 ∧
       (0 < 12 ∧
       (b204 = b204 ∧
       (po12 = po12 ∧
       (12 = 12 ∧
       ((0 ≤ (7 : Int) ∧ (7 : Int) < ((12 : Nat) : Int)) ∧
       (po12 = po12 ∧
       (7 < 12 ∧
       ((divC (p14 7) (8 : Int)) ∧
       (Exists (fun (mc205 : (Nat →
       Int)) => (Exists (fun (mt206 : (Nat →
       Int)) => (Exists (fun (lc207 : (Nat →
       Int)) => (Exists (fun (lt208 : (Nat →
       Int)) => ((ro0200 = ro0200 ∧
       (2 = 2 ∧
       ([(fun (i209 : Nat) => (SC.int (oldMidg0180 i209))), (fun (i210 : Nat) => (SC.int (oldMidg1181 i210)))] = [(fun (i211 : Nat) => (SC.int (mc205 i211))), (fun (i212 : Nat) => (SC.int (mt206 i212)))] ∧
       (ro1202 = ro1202 ∧
       (8 = 8 ∧
       [(fun (i213 : Nat) => (SC.int (oldLeafg0182 i213))), (fun (i214 : Nat) => (SC.int (oldLeafg1183 i214)))] = [(fun (i215 : Nat) => (SC.int (lc207 i215))), (fun (i216 : Nat) => (SC.int (lt208 i216)))]))))) ∧
       (True ∧
       (po12 = po12 ∧
       (12 = 12 ∧
       ((0 ≤ (0 : Int) ∧ (0 : Int) < ((12 : Nat) : Int)) ∧
       (po12 = po12 ∧
       (0 < 12 ∧
       (b161 = b161 ∧
       (po12 = po12 ∧
       (12 = 12 ∧
       ((0 ≤ (7 : Int) ∧ (7 : Int) < ((12 : Nat) : Int)) ∧
       (po12 = po12 ∧
       (7 < 12 ∧
       ((divC (p14 7) (8 : Int)) ∧
       (Exists (fun (mc217 : (Nat →
       Int)) => (Exists (fun (mt218 : (Nat →
       Int)) => (Exists (fun (lc219 : (Nat →
       Int)) => (Exists (fun (lt220 : (Nat →
       Int)) => ((ro0172 = ro0172 ∧
       (2 = 2 ∧
       ([(fun (i221 : Nat) => (SC.int ((x'171).2 i221))), (fun (i222 : Nat) => (SC.int ((x'171).3 i222)))] = [(fun (i223 : Nat) => (SC.int (mc217 i223))), (fun (i224 : Nat) => (SC.int (mt218 i224)))] ∧
       (ro1174 = ro1174 ∧
       (8 = 8 ∧
       [(fun (i225 : Nat) => (SC.int ((x'171).4 i225))), (fun (i226 : Nat) => (SC.int ((x'171).5 i226)))] = [(fun (i227 : Nat) => (SC.int (lc219 i227))), (fun (i228 : Nat) => (SC.int (lt220 i228)))]))))) ∧
       (True ∧
       (((!(lcOk (p14 0) (x'171).1 2 8 mc205 mt206 lc207 lt208 ((p14 7) % (8 : Int)))) = Bool.true →
       (((lcOk (p14 0) (x'171).1 2 8 mc217 mt218 lc219 lt220 ((p14 7) % (8 : Int))) = Bool.true →
        (po12 = po12 ∧
         (12 = 12 ∧
         ((0 ≤ (0 : Int) ∧ (0 : Int) < ((12 : Nat) : Int)) ∧
         (po12 = po12 ∧
         (0 < 12 ∧
         (b204 = b204 ∧
         (Exists (fun (tMidg0229 : (Nat →
         Int)) => (Exists (fun (tMidg1230 : (Nat →
         Int)) => (Exists (fun (tLeafg0231 : (Nat →
         Int)) => (Exists (fun (tLeafg1232 : (Nat →
         Int)) => ((ro0200 = ro0200 ∧
         (2 = 2 ∧
         ([(fun (i233 : Nat) => (SC.int (oldMidg0180 i233))), (fun (i234 : Nat) => (SC.int (oldMidg1181 i234)))] = [(fun (i235 : Nat) => (SC.int (tMidg0229 i235))), (fun (i236 : Nat) => (SC.int (tMidg1230 i236)))] ∧
         (ro1202 = ro1202 ∧
         (8 = 8 ∧
         [(fun (i237 : Nat) => (SC.int (oldLeafg0182 i237))), (fun (i238 : Nat) => (SC.int (oldLeafg1183 i238)))] = [(fun (i239 : Nat) => (SC.int (tLeafg0231 i239))), (fun (i240 : Nat) => (SC.int (tLeafg1232 i240)))]))))) ∧
         (True ∧
         (((!(treeB (p14 0) (x'171).1 2 8 tMidg0229 tMidg1230 tLeafg0231 tLeafg1232)) = Bool.true →
         (po12 = po12 ∧
          (12 = 12 ∧
          ((0 ≤ (0 : Int) ∧ (0 : Int) < ((12 : Nat) : Int)) ∧
          (po12 = po12 ∧
          (0 < 12 ∧
          (b161 = b161 ∧
          (b161 = b161 ∧
          (Exists (fun (tMidg0241 : (Nat →
          Int)) => (Exists (fun (tMidg1242 : (Nat →
          Int)) => (Exists (fun (tLeafg0243 : (Nat →
          Int)) => (Exists (fun (tLeafg1244 : (Nat →
          Int)) => (Exists (fun (oldMidg0245 : (Nat →
          Int)) => (Exists (fun (oldMidg1246 : (Nat →
          Int)) => (Exists (fun (oldLeafg0247 : (Nat →
          Int)) => (Exists (fun (oldLeafg1248 : (Nat →
          Int)) => ((ro0172 = ro0172 ∧
          (2 = 2 ∧
          ([(fun (i249 : Nat) => (SC.int ((x'171).2 i249))), (fun (i250 : Nat) => (SC.int ((x'171).3 i250)))] = [(fun (i251 : Nat) => (SC.int (tMidg0241 i251))), (fun (i252 : Nat) => (SC.int (tMidg1242 i252)))] ∧
          (ro1174 = ro1174 ∧
          (8 = 8 ∧
          ([(fun (i253 : Nat) => (SC.int ((x'171).4 i253))), (fun (i254 : Nat) => (SC.int ((x'171).5 i254)))] = [(fun (i255 : Nat) => (SC.int (tLeafg0243 i255))), (fun (i256 : Nat) => (SC.int (tLeafg1244 i256)))] ∧
          (ro0172 = ro0172 ∧
          (2 = 2 ∧
          ([(fun (i257 : Nat) => (SC.int ((x'171).2 i257))), (fun (i258 : Nat) => (SC.int ((x'171).3 i258)))] = [(fun (i259 : Nat) => (SC.int (oldMidg0245 i259))), (fun (i260 : Nat) => (SC.int (oldMidg1246 i260)))] ∧
          (ro1174 = ro1174 ∧
          (8 = 8 ∧
          ([(fun (i261 : Nat) => (SC.int ((x'171).4 i261))), (fun (i262 : Nat) => (SC.int ((x'171).5 i262)))] = [(fun (i263 : Nat) => (SC.int (oldLeafg0247 i263))), (fun (i264 : Nat) => (SC.int (oldLeafg1248 i264)))] ∧
          ((capC 2) ∧
          (capC 8)))))))))))))) ∧
          (∀ ro0265 : (Option Addr),
          (∀ rc0266 : Nat,
          (∀ ro1267 : (Option Addr),
          (∀ rc1268 : Nat,
          (True ∧
          (Exists (fun (tMidg0269 : (Nat →
          Int)) => (Exists (fun (tMidg1270 : (Nat →
          Int)) => (Exists (fun (tLeafg0271 : (Nat →
          Int)) => (Exists (fun (tLeafg1272 : (Nat →
          Int)) => ((ro0265 = ro0265 ∧
          (2 = 2 ∧
          ([(fun (i273 : Nat) => (SC.int (oldMidg0245 i273))), (fun (i274 : Nat) => (SC.int (oldMidg1246 i274)))] = [(fun (i275 : Nat) => (SC.int (tMidg0269 i275))), (fun (i276 : Nat) => (SC.int (tMidg1270 i276)))] ∧
          (ro1267 = ro1267 ∧
          (8 = 8 ∧
          [(fun (i277 : Nat) => (SC.int (oldLeafg0247 i277))), (fun (i278 : Nat) => (SC.int (oldLeafg1248 i278)))] = [(fun (i279 : Nat) => (SC.int (tLeafg0271 i279))), (fun (i280 : Nat) => (SC.int (tLeafg1272 i280)))]))))) ∧
          (True ∧
          (Value.bool (treeB (p14 0) (x'171).1 2 8 tMidg0269 tMidg1270 tLeafg0271 tLeafg1272)) = (Value.bool Bool.true))))))))))))))))))))))))))))))))))))))))) ∧
         ((!(treeB (p14 0) (x'171).1 2 8 tMidg0229 tMidg1230 tLeafg0231 tLeafg1232)) = Bool.false →
         (Value.bool Bool.false) = (Value.bool Bool.true)))))))))))))))))))) ∧
        ((lcOk (p14 0) (x'171).1 2 8 mc217 mt218 lc219 lt220 ((p14 7) % (8 : Int))) = Bool.false →
        (Value.bool Bool.false) = (Value.bool Bool.true)))) ∧
       ((!(lcOk (p14 0) (x'171).1 2 8 mc205 mt206 lc207 lt208 ((p14 7) % (8 : Int)))) = Bool.false →
       (Value.bool Bool.false) = (Value.bool Bool.true)))))))))))))))))))))))))))))))))))))))))))))))))))))))))))))))))))))))))))))))))))))))))))))))))))))))))))))))))))))))))))))))))))))))))))))))))))))))) := by kernel_rfl
theorem law_FnOldNodes_any (co : Option Addr) (cn cc : Nat) (cu : Nat → Int) (W : World) (hr : Row.sat W ⟨false, co, 0, 1, cn, 0, [fun i => .u8 (cu i)]⟩) (hu : ∀ i, 0 ≤ cu i ∧ cu i ≤ 255) : Calls Try.prog 4 #[.slice co cn cc] W fun e W' => e = .returned (.bool true) ∧ Below W.heap.size W W' := by
  refine fn_ok mixed (E := {tb := [(9, sBig), (10, sPlaces), (15, sTNewX), (16, sBumpX), (17, sWith), (14, sLC), (13, sTOk)], L := [(6, son co cn cc cu)]}) ⟨sBig_ok, sPlaces_ok, sTNewX_S, sBumpX_S, sWith_ok_withI, sLC_impl, sTOk_ok_okI, trivial⟩ Try.func4 (one_loop (by kernel_rfl) (by kernel_rfl) (on_ok co cn cc cu _)) (@Eq.mpr _ _ (law_FnOldNodes_T co cn cc cu) ?_) (HS.rows (fun _ => False) [⟨false, co, 0, 1, cn, 0, [fun i => .u8 (cu i)]⟩] (by simpa using hr)) (fun v ch' w' hk hs => ⟨by rw [hk], hs.below⟩)
  clear hr
  by_cases hle : cn ≤ 1048576
  · have hcode : codeC cn cu := ⟨hle, hu⟩
    refine ⟨fun h => by exfalso; replace h := of_decide_eq_true h; omega, fun h => ?_⟩
    clear h
    refine ⟨cu, ⟨⟨rfl, rfl, rfl⟩, hcode⟩, ?_⟩
    intro p ro rc hp
    have hw : isW (p 0) = true := btw_yes (by have h1 := hp 0; have e : isub 10000 1 = 9999 := rfl; have h2 := h1.1; have h3 := h1.2; omega)
    have h7 := mod8 (x := p 7)
    repeat' (first
      | with_reducible exact rfl
      | exact True.intro
      | with_reducible assumption
      | with_reducible exact plc_min hp _
      | with_reducible exact plc_max hp _
      | with_reducible exact mod8
      | refine And.intro ?_ ?_
      | apply Exists.intro
      | (intro (h : GoodX _ _ ∧ leZ _ 3); obtain ⟨hX, hb3⟩ := h; have hb3' : _ ≤ (3 : Int) := hb3; have hb : leZ _ 1000 := Int.le_trans hb3' (by decide); have f2 := hX.old hb)
      | (intro (h : GoodX _ _ ∧ BumpX _ _ _); obtain ⟨hY, hBp⟩ := h; have hyr := hBp.1; have hyb := hBp.le (by omega); have f1 := hY.lc hyb h7; have f3 := hY.tree hyb; rw [← hyr] at f2; have f4 := f2 _ h7; have f5 := f2 0 (by omega))
      | exact congrArg Value.bool f3
      | (intro h; exfalso; rw [f1] at h; simp at h; done)
      | (intro h; exfalso; rw [f4] at h; simp at h; done)
      | (intro h; exfalso; rw [f3] at h; simp at h; done)
      | (intro h; exfalso; simp [treeB, f5] at h; done)
      | (intro (h : _ ∧ _); obtain ⟨_, _⟩ := h)
      | intro _
      | omega)
    all_goals trace_state
  · refine ⟨fun _ => rfl, fun h => ?_⟩
    replace h := of_decide_eq_false h
    exfalso
    omega
theorem walk_FnOldNodes (ao : Option Addr) (len cap : Nat) (w : World) (h : Has w (.slice .u8) [.slice ao len cap]) : Calls Try.prog 4 #[.slice ao len cap] w fun e w' => e = .returned (.bool true) ∧ Below w.heap.size w w' := by
  obtain ⟨u, hu, hr⟩ := row_u8_of_has h
  exact law_FnOldNodes_any ao len cap u w hr hu
end Go.Proofs.Ytppeocfcdeiemaa

/-
  Trees checked.
-/
import Derived.Test.YtppeocfcdeiemaaSxTree3
namespace Go.Proofs.Ytppeocfcdeiemaa
set_option linter.unusedVariables false
set_option linter.unusedSimpArgs false
open Go.RowKit
set_option maxRecDepth 100000
set_option maxHeartbeats 8000000

def treeB (key root : Int) (n m : Nat) (mc mt lc lt : Nat → Int) : Bool := lcOk key root n m mc mt lc lt 0 && lcOk key root n m mc mt lc lt 1 && lcOk key root n m mc mt lc lt 2 && lcOk key root n m mc mt lc lt 3 && lcOk key root n m mc mt lc lt 4 && lcOk key root n m mc mt lc lt 5 && lcOk key root n m mc mt lc lt 6 && lcOk key root n m mc mt lc lt 7
theorem okI_T (key : Int) (tRoot : Int) (tMidO : Option Addr) (tMidN tMidC : Nat) (tMidg0 tMidg1 : Nat → Int) (tLeafO : Option Addr) (tLeafN tLeafC : Nat) (tLeafg0 tLeafg1 : Nat → Int) : (exFn Try.prog {tb := [(14, sLC)]} 400 Try.f13 ([.a (.c (.int key)), .a (.agg [.int tRoot, .sl 0 tMidO tMidN tMidC, .sl 1 tLeafO tLeafN tLeafC])]) ([.row ⟨false, tMidO, 0, 2, tMidN, 0, [fun i => .int (tMidg0 i), fun i => .int (tMidg1 i)]⟩, .row ⟨false, tLeafO, 0, 2, tLeafN, 0, [fun i => .int (tLeafg0 i), fun i => .int (tLeafg1 i)]⟩]) (fun v _ => v.den = .bool (treeB key tRoot tMidN tLeafN tMidg0 tMidg1 tLeafg0 tLeafg1))) = (
  (∀ b0 : Nat,
  (b0 = b0 ∧
  (Exists (fun (mc1 : (Nat →
  Int)) => (Exists (fun (mt2 : (Nat →
  Int)) => (Exists (fun (lc3 : (Nat →
  Int)) => (Exists (fun (lt4 : (Nat →
  Int)) => ((tMidO = tMidO ∧
  (tMidN = tMidN ∧
  ([(fun (i5 : Nat) => (SC.int (tMidg0 i5))), (fun (i6 : Nat) => (SC.int (tMidg1 i6)))] = [(fun (i7 : Nat) => (SC.int (mc1 i7))), (fun (i8 : Nat) => (SC.int (mt2 i8)))] ∧
  (tLeafO = tLeafO ∧
  (tLeafN = tLeafN ∧
  [(fun (i9 : Nat) => (SC.int (tLeafg0 i9))), (fun (i10 : Nat) => (SC.int (tLeafg1 i10)))] = [(fun (i11 : Nat) => (SC.int (lc3 i11))), (fun (i12 : Nat) => (SC.int (lt4 i12)))]))))) ∧
  (((!(lcOk key tRoot tMidN tLeafN mc1 mt2 lc3 lt4 (0 : Int))) = Bool.true →
  (Value.bool Bool.false) = (Value.bool (treeB key tRoot tMidN tLeafN tMidg0 tMidg1 tLeafg0 tLeafg1))) ∧
  ((!(lcOk key tRoot tMidN tLeafN mc1 mt2 lc3 lt4 (0 : Int))) = Bool.false →
  (b0 = b0 ∧
   (Exists (fun (mc13 : (Nat →
   Int)) => (Exists (fun (mt14 : (Nat →
   Int)) => (Exists (fun (lc15 : (Nat →
   Int)) => (Exists (fun (lt16 : (Nat →
   Int)) => ((tMidO = tMidO ∧
   (tMidN = tMidN ∧
   ([(fun (i17 : Nat) => (SC.int (tMidg0 i17))), (fun (i18 : Nat) => (SC.int (tMidg1 i18)))] = [(fun (i19 : Nat) => (SC.int (mc13 i19))), (fun (i20 : Nat) => (SC.int (mt14 i20)))] ∧
   (tLeafO = tLeafO ∧
   (tLeafN = tLeafN ∧
   [(fun (i21 : Nat) => (SC.int (tLeafg0 i21))), (fun (i22 : Nat) => (SC.int (tLeafg1 i22)))] = [(fun (i23 : Nat) => (SC.int (lc15 i23))), (fun (i24 : Nat) => (SC.int (lt16 i24)))]))))) ∧
   (((!(lcOk key tRoot tMidN tLeafN mc13 mt14 lc15 lt16 (1 : Int))) = Bool.true →
   (Value.bool Bool.false) = (Value.bool (treeB key tRoot tMidN tLeafN tMidg0 tMidg1 tLeafg0 tLeafg1))) ∧
   ((!(lcOk key tRoot tMidN tLeafN mc13 mt14 lc15 lt16 (1 : Int))) = Bool.false →
   (b0 = b0 ∧
    (Exists (fun (mc25 : (Nat →
    Int)) => (Exists (fun (mt26 : (Nat →
    Int)) => (Exists (fun (lc27 : (Nat →
    Int)) => (Exists (fun (lt28 : (Nat →
    Int)) => ((tMidO = tMidO ∧
    (tMidN = tMidN ∧
    ([(fun (i29 : Nat) => (SC.int (tMidg0 i29))), (fun (i30 : Nat) => (SC.int (tMidg1 i30)))] = [(fun (i31 : Nat) => (SC.int (mc25 i31))), (fun (i32 : Nat) => (SC.int (mt26 i32)))] ∧
    (tLeafO = tLeafO ∧
    (tLeafN = tLeafN ∧
    [(fun (i33 : Nat) => (SC.int (tLeafg0 i33))), (fun (i34 : Nat) => (SC.int (tLeafg1 i34)))] = [(fun (i35 : Nat) => (SC.int (lc27 i35))), (fun (i36 : Nat) => (SC.int (lt28 i36)))]))))) ∧
    (((!(lcOk key tRoot tMidN tLeafN mc25 mt26 lc27 lt28 (2 : Int))) = Bool.true →
    (Value.bool Bool.false) = (Value.bool (treeB key tRoot tMidN tLeafN tMidg0 tMidg1 tLeafg0 tLeafg1))) ∧
    ((!(lcOk key tRoot tMidN tLeafN mc25 mt26 lc27 lt28 (2 : Int))) = Bool.false →
    (b0 = b0 ∧
     (Exists (fun (mc37 : (Nat →
     Int)) => (Exists (fun (mt38 : (Nat →
     Int)) => (Exists (fun (lc39 : (Nat →
     Int)) => (Exists (fun (lt40 : (Nat →
     Int)) => ((tMidO = tMidO ∧
     (tMidN = tMidN ∧
     ([(fun (i41 : Nat) => (SC.int (tMidg0 i41))), (fun (i42 : Nat) => (SC.int (tMidg1 i42)))] = [(fun (i43 : Nat) => (SC.int (mc37 i43))), (fun (i44 : Nat) => (SC.int (mt38 i44)))] ∧
     (tLeafO = tLeafO ∧
     (tLeafN = tLeafN ∧
     [(fun (i45 : Nat) => (SC.int (tLeafg0 i45))), (fun (i46 : Nat) => (SC.int (tLeafg1 i46)))] = [(fun (i47 : Nat) => (SC.int (lc39 i47))), (fun (i48 : Nat) => (SC.int (lt40 i48)))]))))) ∧
     (((!(lcOk key tRoot tMidN tLeafN mc37 mt38 lc39 lt40 (3 : Int))) = Bool.true →
     (Value.bool Bool.false) = (Value.bool (treeB key tRoot tMidN tLeafN tMidg0 tMidg1 tLeafg0 tLeafg1))) ∧
     ((!(lcOk key tRoot tMidN tLeafN mc37 mt38 lc39 lt40 (3 : Int))) = Bool.false →
     (b0 = b0 ∧
      (Exists (fun (mc49 : (Nat →
      Int)) => (Exists (fun (mt50 : (Nat →
      Int)) => (Exists (fun (lc51 : (Nat →
      Int)) => (Exists (fun (lt52 : (Nat →
      Int)) => ((tMidO = tMidO ∧
      (tMidN = tMidN ∧
      ([(fun (i53 : Nat) => (SC.int (tMidg0 i53))), (fun (i54 : Nat) => (SC.int (tMidg1 i54)))] = [(fun (i55 : Nat) => (SC.int (mc49 i55))), (fun (i56 : Nat) => (SC.int (mt50 i56)))] ∧
      (tLeafO = tLeafO ∧
      (tLeafN = tLeafN ∧
      [(fun (i57 : Nat) => (SC.int (tLeafg0 i57))), (fun (i58 : Nat) => (SC.int (tLeafg1 i58)))] = [(fun (i59 : Nat) => (SC.int (lc51 i59))), (fun (i60 : Nat) => (SC.int (lt52 i60)))]))))) ∧
      (((!(lcOk key tRoot tMidN tLeafN mc49 mt50 lc51 lt52 (4 : Int))) = Bool.true →
      (Value.bool Bool.false) = (Value.bool (treeB key tRoot tMidN tLeafN tMidg0 tMidg1 tLeafg0 tLeafg1))) ∧
      ((!(lcOk key tRoot tMidN tLeafN mc49 mt50 lc51 lt52 (4 : Int))) = Bool.false →
      (b0 = b0 ∧
       (Exists (fun (mc61 : (Nat →
       Int)) => (Exists (fun (mt62 : (Nat →
       Int)) => (Exists (fun (lc63 : (Nat →
       Int)) => (Exists (fun (lt64 : (Nat →
       Int)) => ((tMidO = tMidO ∧
       (tMidN = tMidN ∧
       ([(fun (i65 : Nat) => (SC.int (tMidg0 i65))), (fun (i66 : Nat) => (SC.int (tMidg1 i66)))] = [(fun (i67 : Nat) => (SC.int (mc61 i67))), (fun (i68 : Nat) => (SC.int (mt62 i68)))] ∧
       (tLeafO = tLeafO ∧
       (tLeafN = tLeafN ∧
       [(fun (i69 : Nat) => (SC.int (tLeafg0 i69))), (fun (i70 : Nat) => (SC.int (tLeafg1 i70)))] = [(fun (i71 : Nat) => (SC.int (lc63 i71))), (fun (i72 : Nat) => (SC.int (lt64 i72)))]))))) ∧
       (((!(lcOk key tRoot tMidN tLeafN mc61 mt62 lc63 lt64 (5 : Int))) = Bool.true →
       (Value.bool Bool.false) = (Value.bool (treeB key tRoot tMidN tLeafN tMidg0 tMidg1 tLeafg0 tLeafg1))) ∧
       ((!(lcOk key tRoot tMidN tLeafN mc61 mt62 lc63 lt64 (5 : Int))) = Bool.false →
       (b0 = b0 ∧
        (Exists (fun (mc73 : (Nat →
        Int)) => (Exists (fun (mt74 : (Nat →
        Int)) => (Exists (fun (lc75 : (Nat →
        Int)) => (Exists (fun (lt76 : (Nat →
        Int)) => ((tMidO = tMidO ∧
        (tMidN = tMidN ∧
        ([(fun (i77 : Nat) => (SC.int (tMidg0 i77))), (fun (i78 : Nat) => (SC.int (tMidg1 i78)))] = [(fun (i79 : Nat) => (SC.int (mc73 i79))), (fun (i80 : Nat) => (SC.int (mt74 i80)))] ∧
        (tLeafO = tLeafO ∧
        (tLeafN = tLeafN ∧
        [(fun (i81 : Nat) => (SC.int (tLeafg0 i81))), (fun (i82 : Nat) => (SC.int (tLeafg1 i82)))] = [(fun (i83 : Nat) => (SC.int (lc75 i83))), (fun (i84 : Nat) => (SC.int (lt76 i84)))]))))) ∧
        (((!(lcOk key tRoot tMidN tLeafN mc73 mt74 lc75 lt76 (6 : Int))) = Bool.true →
        (Value.bool Bool.false) = (Value.bool (treeB key tRoot tMidN tLeafN tMidg0 tMidg1 tLeafg0 tLeafg1))) ∧
        ((!(lcOk key tRoot tMidN tLeafN mc73 mt74 lc75 lt76 (6 : Int))) = Bool.false →
        (b0 = b0 ∧
         (Exists (fun (mc85 : (Nat →
         Int)) => (Exists (fun (mt86 : (Nat →
         Int)) => (Exists (fun (lc87 : (Nat →
         Int)) => (Exists (fun (lt88 : (Nat →
         Int)) => ((tMidO = tMidO ∧
         (tMidN = tMidN ∧
         ([(fun (i89 : Nat) => (SC.int (tMidg0 i89))), (fun (i90 : Nat) => (SC.int (tMidg1 i90)))] = [(fun (i91 : Nat) => (SC.int (mc85 i91))), (fun (i92 : Nat) => (SC.int (mt86 i92)))] ∧
         (tLeafO = tLeafO ∧
         (tLeafN = tLeafN ∧
         [(fun (i93 : Nat) => (SC.int (tLeafg0 i93))), (fun (i94 : Nat) => (SC.int (tLeafg1 i94)))] = [(fun (i95 : Nat) => (SC.int (lc87 i95))), (fun (i96 : Nat) => (SC.int (lt88 i96)))]))))) ∧
         (((!(lcOk key tRoot tMidN tLeafN mc85 mt86 lc87 lt88 (7 : Int))) = Bool.true →
         (Value.bool Bool.false) = (Value.bool (treeB key tRoot tMidN tLeafN tMidg0 tMidg1 tLeafg0 tLeafg1))) ∧
         ((!(lcOk key tRoot tMidN tLeafN mc85 mt86 lc87 lt88 (7 : Int))) = Bool.false →
         (Value.bool Bool.true) = (Value.bool (treeB key tRoot tMidN tLeafN tMidg0 tMidg1 tLeafg0 tLeafg1)))))))))))))))))))))))))))))))))))))))))))))))))))))))))))))))))))))))))))))))))))))))))))))))))))) := by kernel_rfl
theorem okI_any (key : Int) (tRoot : Int) (tMidO : Option Addr) (tMidN tMidC : Nat) (tMidg0 tMidg1 : Nat → Int) (tLeafO : Option Addr) (tLeafN tLeafC : Nat) (tLeafg0 tLeafg1 : Nat → Int) (w : World) (hrtMid : Row.sat w ⟨false, tMidO, 0, 2, tMidN, 0, [fun i => .int (tMidg0 i), fun i => .int (tMidg1 i)]⟩) (hrtLeaf : Row.sat w ⟨false, tLeafO, 0, 2, tLeafN, 0, [fun i => .int (tLeafg0 i), fun i => .int (tLeafg1 i)]⟩) : Calls Try.prog 13 #[.int .i64 key, .agg #[.int .i64 tRoot, .slice tMidO tMidN tMidC, .slice tLeafO tLeafN tLeafC]] w fun e w' => e = .returned (.bool (treeB key tRoot tMidN tLeafN tMidg0 tMidg1 tLeafg0 tLeafg1)) ∧ Below w.heap.size w w' := by
  refine fnB (tb := [(14, sLC)]) ⟨sLC_impl, trivial⟩ Try.func13 (@Eq.mpr _ _ (okI_T key tRoot tMidO tMidN tMidC tMidg0 tMidg1 tLeafO tLeafN tLeafC tLeafg0 tLeafg1) ?_) (HS.rows (fun _ => False) [⟨false, tMidO, 0, 2, tMidN, 0, [fun i => .int (tMidg0 i), fun i => .int (tMidg1 i)]⟩, ⟨false, tLeafO, 0, 2, tLeafN, 0, [fun i => .int (tLeafg0 i), fun i => .int (tLeafg1 i)]⟩] (by simp; exact ⟨hrtMid, hrtLeaf⟩)) (fun v ch' w' hk hs => ⟨by rw [hk], hs.below⟩)
  clear hrtMid hrtLeaf
  repeat' (first
    | exact rfl
    | exact True.intro
    | refine And.intro ?_ ?_
    | apply Exists.intro
    | assumption
    | intro _)
  all_goals (simp_all [treeB]; done)
theorem okS_T (key : Int) (tRoot : Int) (tMidO : Option Addr) (tMidN tMidC : Nat) (tMidg0 tMidg1 : Nat → Int) (tLeafO : Option Addr) (tLeafN tLeafC : Nat) (tLeafg0 tLeafg1 : Nat → Int) : (exFn Try.prog {tb := [(53, sLC)]} 400 Try.f38 ([.a (.c (.int key)), .a (.agg [.int tRoot, .sl 0 tMidO tMidN tMidC, .sl 1 tLeafO tLeafN tLeafC])]) ([.row ⟨false, tMidO, 0, 2, tMidN, 0, [fun i => .int (tMidg0 i), fun i => .int (tMidg1 i)]⟩, .row ⟨false, tLeafO, 0, 2, tLeafN, 0, [fun i => .int (tLeafg0 i), fun i => .int (tLeafg1 i)]⟩]) (fun v _ => v.den = .bool (treeB key tRoot tMidN tLeafN tMidg0 tMidg1 tLeafg0 tLeafg1))) = (
  (∀ b0 : Nat,
  (b0 = b0 ∧
  (Exists (fun (mc1 : (Nat →
  Int)) => (Exists (fun (mt2 : (Nat →
  Int)) => (Exists (fun (lc3 : (Nat →
  Int)) => (Exists (fun (lt4 : (Nat →
  Int)) => ((tMidO = tMidO ∧
  (tMidN = tMidN ∧
  ([(fun (i5 : Nat) => (SC.int (tMidg0 i5))), (fun (i6 : Nat) => (SC.int (tMidg1 i6)))] = [(fun (i7 : Nat) => (SC.int (mc1 i7))), (fun (i8 : Nat) => (SC.int (mt2 i8)))] ∧
  (tLeafO = tLeafO ∧
  (tLeafN = tLeafN ∧
  [(fun (i9 : Nat) => (SC.int (tLeafg0 i9))), (fun (i10 : Nat) => (SC.int (tLeafg1 i10)))] = [(fun (i11 : Nat) => (SC.int (lc3 i11))), (fun (i12 : Nat) => (SC.int (lt4 i12)))]))))) ∧
  (((!(lcOk key tRoot tMidN tLeafN mc1 mt2 lc3 lt4 (0 : Int))) = Bool.true →
  (Value.bool Bool.false) = (Value.bool (treeB key tRoot tMidN tLeafN tMidg0 tMidg1 tLeafg0 tLeafg1))) ∧
  ((!(lcOk key tRoot tMidN tLeafN mc1 mt2 lc3 lt4 (0 : Int))) = Bool.false →
  (b0 = b0 ∧
   (Exists (fun (mc13 : (Nat →
   Int)) => (Exists (fun (mt14 : (Nat →
   Int)) => (Exists (fun (lc15 : (Nat →
   Int)) => (Exists (fun (lt16 : (Nat →
   Int)) => ((tMidO = tMidO ∧
   (tMidN = tMidN ∧
   ([(fun (i17 : Nat) => (SC.int (tMidg0 i17))), (fun (i18 : Nat) => (SC.int (tMidg1 i18)))] = [(fun (i19 : Nat) => (SC.int (mc13 i19))), (fun (i20 : Nat) => (SC.int (mt14 i20)))] ∧
   (tLeafO = tLeafO ∧
   (tLeafN = tLeafN ∧
   [(fun (i21 : Nat) => (SC.int (tLeafg0 i21))), (fun (i22 : Nat) => (SC.int (tLeafg1 i22)))] = [(fun (i23 : Nat) => (SC.int (lc15 i23))), (fun (i24 : Nat) => (SC.int (lt16 i24)))]))))) ∧
   (((!(lcOk key tRoot tMidN tLeafN mc13 mt14 lc15 lt16 (1 : Int))) = Bool.true →
   (Value.bool Bool.false) = (Value.bool (treeB key tRoot tMidN tLeafN tMidg0 tMidg1 tLeafg0 tLeafg1))) ∧
   ((!(lcOk key tRoot tMidN tLeafN mc13 mt14 lc15 lt16 (1 : Int))) = Bool.false →
   (b0 = b0 ∧
    (Exists (fun (mc25 : (Nat →
    Int)) => (Exists (fun (mt26 : (Nat →
    Int)) => (Exists (fun (lc27 : (Nat →
    Int)) => (Exists (fun (lt28 : (Nat →
    Int)) => ((tMidO = tMidO ∧
    (tMidN = tMidN ∧
    ([(fun (i29 : Nat) => (SC.int (tMidg0 i29))), (fun (i30 : Nat) => (SC.int (tMidg1 i30)))] = [(fun (i31 : Nat) => (SC.int (mc25 i31))), (fun (i32 : Nat) => (SC.int (mt26 i32)))] ∧
    (tLeafO = tLeafO ∧
    (tLeafN = tLeafN ∧
    [(fun (i33 : Nat) => (SC.int (tLeafg0 i33))), (fun (i34 : Nat) => (SC.int (tLeafg1 i34)))] = [(fun (i35 : Nat) => (SC.int (lc27 i35))), (fun (i36 : Nat) => (SC.int (lt28 i36)))]))))) ∧
    (((!(lcOk key tRoot tMidN tLeafN mc25 mt26 lc27 lt28 (2 : Int))) = Bool.true →
    (Value.bool Bool.false) = (Value.bool (treeB key tRoot tMidN tLeafN tMidg0 tMidg1 tLeafg0 tLeafg1))) ∧
    ((!(lcOk key tRoot tMidN tLeafN mc25 mt26 lc27 lt28 (2 : Int))) = Bool.false →
    (b0 = b0 ∧
     (Exists (fun (mc37 : (Nat →
     Int)) => (Exists (fun (mt38 : (Nat →
     Int)) => (Exists (fun (lc39 : (Nat →
     Int)) => (Exists (fun (lt40 : (Nat →
     Int)) => ((tMidO = tMidO ∧
     (tMidN = tMidN ∧
     ([(fun (i41 : Nat) => (SC.int (tMidg0 i41))), (fun (i42 : Nat) => (SC.int (tMidg1 i42)))] = [(fun (i43 : Nat) => (SC.int (mc37 i43))), (fun (i44 : Nat) => (SC.int (mt38 i44)))] ∧
     (tLeafO = tLeafO ∧
     (tLeafN = tLeafN ∧
     [(fun (i45 : Nat) => (SC.int (tLeafg0 i45))), (fun (i46 : Nat) => (SC.int (tLeafg1 i46)))] = [(fun (i47 : Nat) => (SC.int (lc39 i47))), (fun (i48 : Nat) => (SC.int (lt40 i48)))]))))) ∧
     (((!(lcOk key tRoot tMidN tLeafN mc37 mt38 lc39 lt40 (3 : Int))) = Bool.true →
     (Value.bool Bool.false) = (Value.bool (treeB key tRoot tMidN tLeafN tMidg0 tMidg1 tLeafg0 tLeafg1))) ∧
     ((!(lcOk key tRoot tMidN tLeafN mc37 mt38 lc39 lt40 (3 : Int))) = Bool.false →
     (b0 = b0 ∧
      (Exists (fun (mc49 : (Nat →
      Int)) => (Exists (fun (mt50 : (Nat →
      Int)) => (Exists (fun (lc51 : (Nat →
      Int)) => (Exists (fun (lt52 : (Nat →
      Int)) => ((tMidO = tMidO ∧
      (tMidN = tMidN ∧
      ([(fun (i53 : Nat) => (SC.int (tMidg0 i53))), (fun (i54 : Nat) => (SC.int (tMidg1 i54)))] = [(fun (i55 : Nat) => (SC.int (mc49 i55))), (fun (i56 : Nat) => (SC.int (mt50 i56)))] ∧
      (tLeafO = tLeafO ∧
      (tLeafN = tLeafN ∧
      [(fun (i57 : Nat) => (SC.int (tLeafg0 i57))), (fun (i58 : Nat) => (SC.int (tLeafg1 i58)))] = [(fun (i59 : Nat) => (SC.int (lc51 i59))), (fun (i60 : Nat) => (SC.int (lt52 i60)))]))))) ∧
      (((!(lcOk key tRoot tMidN tLeafN mc49 mt50 lc51 lt52 (4 : Int))) = Bool.true →
      (Value.bool Bool.false) = (Value.bool (treeB key tRoot tMidN tLeafN tMidg0 tMidg1 tLeafg0 tLeafg1))) ∧
      ((!(lcOk key tRoot tMidN tLeafN mc49 mt50 lc51 lt52 (4 : Int))) = Bool.false →
      (b0 = b0 ∧
       (Exists (fun (mc61 : (Nat →
       Int)) => (Exists (fun (mt62 : (Nat →
       Int)) => (Exists (fun (lc63 : (Nat →
       Int)) => (Exists (fun (lt64 : (Nat →
       Int)) => ((tMidO = tMidO ∧
       (tMidN = tMidN ∧
       ([(fun (i65 : Nat) => (SC.int (tMidg0 i65))), (fun (i66 : Nat) => (SC.int (tMidg1 i66)))] = [(fun (i67 : Nat) => (SC.int (mc61 i67))), (fun (i68 : Nat) => (SC.int (mt62 i68)))] ∧
       (tLeafO = tLeafO ∧
       (tLeafN = tLeafN ∧
       [(fun (i69 : Nat) => (SC.int (tLeafg0 i69))), (fun (i70 : Nat) => (SC.int (tLeafg1 i70)))] = [(fun (i71 : Nat) => (SC.int (lc63 i71))), (fun (i72 : Nat) => (SC.int (lt64 i72)))]))))) ∧
       (((!(lcOk key tRoot tMidN tLeafN mc61 mt62 lc63 lt64 (5 : Int))) = Bool.true →
       (Value.bool Bool.false) = (Value.bool (treeB key tRoot tMidN tLeafN tMidg0 tMidg1 tLeafg0 tLeafg1))) ∧
       ((!(lcOk key tRoot tMidN tLeafN mc61 mt62 lc63 lt64 (5 : Int))) = Bool.false →
       (b0 = b0 ∧
        (Exists (fun (mc73 : (Nat →
        Int)) => (Exists (fun (mt74 : (Nat →
        Int)) => (Exists (fun (lc75 : (Nat →
        Int)) => (Exists (fun (lt76 : (Nat →
        Int)) => ((tMidO = tMidO ∧
        (tMidN = tMidN ∧
        ([(fun (i77 : Nat) => (SC.int (tMidg0 i77))), (fun (i78 : Nat) => (SC.int (tMidg1 i78)))] = [(fun (i79 : Nat) => (SC.int (mc73 i79))), (fun (i80 : Nat) => (SC.int (mt74 i80)))] ∧
        (tLeafO = tLeafO ∧
        (tLeafN = tLeafN ∧
        [(fun (i81 : Nat) => (SC.int (tLeafg0 i81))), (fun (i82 : Nat) => (SC.int (tLeafg1 i82)))] = [(fun (i83 : Nat) => (SC.int (lc75 i83))), (fun (i84 : Nat) => (SC.int (lt76 i84)))]))))) ∧
        (((!(lcOk key tRoot tMidN tLeafN mc73 mt74 lc75 lt76 (6 : Int))) = Bool.true →
        (Value.bool Bool.false) = (Value.bool (treeB key tRoot tMidN tLeafN tMidg0 tMidg1 tLeafg0 tLeafg1))) ∧
        ((!(lcOk key tRoot tMidN tLeafN mc73 mt74 lc75 lt76 (6 : Int))) = Bool.false →
        (b0 = b0 ∧
         (Exists (fun (mc85 : (Nat →
         Int)) => (Exists (fun (mt86 : (Nat →
         Int)) => (Exists (fun (lc87 : (Nat →
         Int)) => (Exists (fun (lt88 : (Nat →
         Int)) => ((tMidO = tMidO ∧
         (tMidN = tMidN ∧
         ([(fun (i89 : Nat) => (SC.int (tMidg0 i89))), (fun (i90 : Nat) => (SC.int (tMidg1 i90)))] = [(fun (i91 : Nat) => (SC.int (mc85 i91))), (fun (i92 : Nat) => (SC.int (mt86 i92)))] ∧
         (tLeafO = tLeafO ∧
         (tLeafN = tLeafN ∧
         [(fun (i93 : Nat) => (SC.int (tLeafg0 i93))), (fun (i94 : Nat) => (SC.int (tLeafg1 i94)))] = [(fun (i95 : Nat) => (SC.int (lc87 i95))), (fun (i96 : Nat) => (SC.int (lt88 i96)))]))))) ∧
         (((!(lcOk key tRoot tMidN tLeafN mc85 mt86 lc87 lt88 (7 : Int))) = Bool.true →
         (Value.bool Bool.false) = (Value.bool (treeB key tRoot tMidN tLeafN tMidg0 tMidg1 tLeafg0 tLeafg1))) ∧
         ((!(lcOk key tRoot tMidN tLeafN mc85 mt86 lc87 lt88 (7 : Int))) = Bool.false →
         (Value.bool Bool.true) = (Value.bool (treeB key tRoot tMidN tLeafN tMidg0 tMidg1 tLeafg0 tLeafg1)))))))))))))))))))))))))))))))))))))))))))))))))))))))))))))))))))))))))))))))))))))))))))))))))))) := by kernel_rfl
theorem okS_any (key : Int) (tRoot : Int) (tMidO : Option Addr) (tMidN tMidC : Nat) (tMidg0 tMidg1 : Nat → Int) (tLeafO : Option Addr) (tLeafN tLeafC : Nat) (tLeafg0 tLeafg1 : Nat → Int) (w : World) (hrtMid : Row.sat w ⟨false, tMidO, 0, 2, tMidN, 0, [fun i => .int (tMidg0 i), fun i => .int (tMidg1 i)]⟩) (hrtLeaf : Row.sat w ⟨false, tLeafO, 0, 2, tLeafN, 0, [fun i => .int (tLeafg0 i), fun i => .int (tLeafg1 i)]⟩) : Calls Try.prog 38 #[.int .i64 key, .agg #[.int .i64 tRoot, .slice tMidO tMidN tMidC, .slice tLeafO tLeafN tLeafC]] w fun e w' => e = .returned (.bool (treeB key tRoot tMidN tLeafN tMidg0 tMidg1 tLeafg0 tLeafg1)) ∧ Below w.heap.size w w' := by
  refine fnB (tb := [(53, sLC)]) ⟨sLC_spec, trivial⟩ Try.func38 (@Eq.mpr _ _ (okS_T key tRoot tMidO tMidN tMidC tMidg0 tMidg1 tLeafO tLeafN tLeafC tLeafg0 tLeafg1) ?_) (HS.rows (fun _ => False) [⟨false, tMidO, 0, 2, tMidN, 0, [fun i => .int (tMidg0 i), fun i => .int (tMidg1 i)]⟩, ⟨false, tLeafO, 0, 2, tLeafN, 0, [fun i => .int (tLeafg0 i), fun i => .int (tLeafg1 i)]⟩] (by simp; exact ⟨hrtMid, hrtLeaf⟩)) (fun v ch' w' hk hs => ⟨by rw [hk], hs.below⟩)
  clear hrtMid hrtLeaf
  repeat' (first
    | exact rfl
    | exact True.intro
    | refine And.intro ?_ ?_
    | apply Exists.intro
    | assumption
    | intro _)
  all_goals (simp_all [treeB]; done)
def sTOk : Sm := fun args ch kk =>
  match args with
  | [.a (.c c0), .a (.agg [c1, .sl i0 a0 n0 d0, .sl i1 a1 n1 d1])] =>
    match ch[i0]?, ch[i1]?, ints [c0, c1] with
    | some (.row r0), some (.row r1), some [key, tRoot] => ∃ tMidg0 tMidg1 tLeafg0 tLeafg1 : Nat → Int, (a0 = r0.ao ∧ n0 = r0.n ∧ r0.fld = [fun i => .int (tMidg0 i), fun i => .int (tMidg1 i)] ∧ a1 = r1.ao ∧ n1 = r1.n ∧ r1.fld = [fun i => .int (tLeafg0 i), fun i => .int (tLeafg1 i)]) ∧ kk (.a (.c (.bool (treeB key tRoot n0 n1 tMidg0 tMidg1 tLeafg0 tLeafg1)))) ch []
    | _, _, _ => False
  | _ => False
theorem sTOk_ok {f : FuncId} (hc : ∀ args w, (callFunc f args).run Try.prog w = .ok (.enter f args) w) (h : ∀ (key : Int) (tRoot : Int) (tMidO : Option Addr) (tMidN tMidC : Nat) (tMidg0 tMidg1 : Nat → Int) (tLeafO : Option Addr) (tLeafN tLeafC : Nat) (tLeafg0 tLeafg1 : Nat → Int) (w : World), Row.sat w ⟨false, tMidO, 0, 2, tMidN, 0, [fun i => .int (tMidg0 i), fun i => .int (tMidg1 i)]⟩ → Row.sat w ⟨false, tLeafO, 0, 2, tLeafN, 0, [fun i => .int (tLeafg0 i), fun i => .int (tLeafg1 i)]⟩ → Calls Try.prog f #[.int .i64 key, .agg #[.int .i64 tRoot, .slice tMidO tMidN tMidC, .slice tLeafO tLeafN tLeafC]] w fun e w' => e = .returned (.bool (treeB key tRoot tMidN tLeafN tMidg0 tMidg1 tLeafg0 tLeafg1)) ∧ Below w.heap.size w w') : SmOK Try.prog f sTOk := by
  refine smB hc fun args ch kk w X h0 hs => ?_
  unfold sTOk at h0
  split at h0
  · rename_i c0 c1 i0 a0 n0 d0 i1 a1 n1 d1
    split at h0
    · rename_i r0 r1 key tRoot hr0 hr1 hi
      obtain ⟨tMidg0, tMidg1, tLeafg0, tLeafg1, ⟨rfl, rfl, hf0, rfl, rfl, hf1⟩, h0⟩ := h0
      obtain ⟨ec0, hi⟩ := ints_cons hi
      obtain ⟨ec1, hi⟩ := ints_cons hi
      refine ⟨_, h0, ?_⟩
      simp only [List.map_cons, List.map_nil, den_a, den_c, SA.den, den_sl, ec0, ec1]
      exact h key tRoot r0.ao r0.n d0 tMidg0 tMidg1 r1.ao r1.n d1 tLeafg0 tLeafg1 w (Row.seenAs (hs.sat i0 _ hr0) hf0 rfl) (Row.seenAs (hs.sat i1 _ hr1) hf1 rfl)
    · exact h0.elim
  · exact h0.elim
theorem sTOk_ok_okI : SmOK Try.prog 13 sTOk := sTOk_ok Try.call13 (fun key tRoot tMidO tMidN tMidC tMidg0 tMidg1 tLeafO tLeafN tLeafC tLeafg0 tLeafg1 w h0 h1 => okI_any key tRoot tMidO tMidN tMidC tMidg0 tMidg1 tLeafO tLeafN tLeafC tLeafg0 tLeafg1 w h0 h1)
theorem sTOk_ok_okS : SmOK Try.prog 38 sTOk := sTOk_ok Try.call38 (fun key tRoot tMidO tMidN tMidC tMidg0 tMidg1 tLeafO tLeafN tLeafC tLeafg0 tLeafg1 w h0 h1 => okS_any key tRoot tMidO tMidN tMidC tMidg0 tMidg1 tLeafO tLeafN tLeafC tLeafg0 tLeafg1 w h0 h1)
end Go.Proofs.Ytppeocfcdeiemaa

/-
  Stores drawn, by a cursor.
-/
import Derived.Test.YtppeocfcdeiemaaSxDrS1
import Derived.Test.YtppeocfcdeiemaaSxGoodS
import Derived.Test.YtppeocfcdeiemaaSx17
namespace Go.Proofs.Ytppeocfcdeiemaa
set_option linter.unusedVariables false
set_option linter.unusedSimpArgs false
open Go.RowKit
set_option maxRecDepth 100000
set_option maxHeartbeats 8000000

def lcH (cb : Nat) (co : Option Addr) (cn cc : Nat) (cu : Nat → Int) (b2 b3 : Nat) (key : Int) (ok : Bool) (i : SC) (g : Nat → Value) : List SV := [.a (.c (.ptr 0 cb 0)), .a (.c (.val (g 1))), .a (.c (.ptr 2 b2 0)), .a (.c (.ptr 7 b3 0)), .a (.c (.bool ok)), .a (.c i), .a (.c (.val (g 6))), .a (.c (.val (g 7))), .a (.c (.val (g 8))), .a (.c (.val (g 9))), .a (.c (.val (g 10))), .a (.c (.val (g 11))), .a (.c (.val (g 12))), .a (.c (.val (g 13))), .a (.c (.val (g 14))), .a (.c (.val (g 15))), .a (.c (.val (g 16))), .a (.c (.val (g 17))), .a (.c (.val (g 18))), .a (.c (.val (g 19))), .a (.c (.val (g 20))), .a (.c (.val (g 21))), .a (.c (.val (g 22))), .a (.c (.val (g 23))), .a (.c (.val (g 24))), .a (.c (.val (g 25))), .a (.c (.val (g 26))), .a (.c (.val (g 27)))]
def lcT (cb : Nat) (co : Option Addr) (cn cc : Nat) (cu : Nat → Int) (b2 b3 : Nat) (key : Int) (ok : Bool) (ci cz : Int) (s : SecX) (ro0 : Option Addr) (rc0 : Nat) (ro1 : Option Addr) (rc1 : Nat) (ro2 : Option Addr) (rc2 : Nat) (ro3 : Option Addr) (rc3 : Nat) : List Ch := [.cells cb 63 [.sl 1 co cn cc, .int ci, .int cz], .row ⟨false, co, 0, 1, cn, 0, [fun i => .u8 (cu i)]⟩, .cells b2 40 [.il 0, .il 0, .nil, .nil, .nil, .nil], .row ⟨true, ro0, 37, 2, 2, rc0, [fun i => .int (s.t.mc i), fun i => .int (s.t.mt i)]⟩, .row ⟨true, ro1, 37, 2, 8, rc1, [fun i => .int (s.t.lc i), fun i => .int (s.t.lt i)]⟩, .row ⟨true, ro2, 3, 1, 8, rc2, [fun i => .int (s.da i)]⟩, .row ⟨true, ro3, 3, 1, 8, rc3, [fun i => .int (s.ta i)]⟩, .cells b3 40 [.int key, .int s.t.root, .sl 3 ro0 2 rc0, .sl 4 ro1 8 rc1, .sl 5 ro2 8 rc2, .sl 6 ro3 8 rc3]]
def slc (cb : Nat) (co : Option Addr) (cn cc : Nat) (cu : Nat → Int) : LSm := fun ts ch kk => ∃ (b2 b3 : Nat) (key : Int) (ok : Bool) (ci cz : Int) (s : SecX) (ro0 : Option Addr) (rc0 : Nat) (ro1 : Option Addr) (rc1 : Nat) (ro2 : Option Addr) (rc2 : Nat) (ro3 : Option Addr) (rc3 : Nat), (ts.map SV.den = (lcH cb co cn cc cu b2 b3 key ok (.il 0) (fun d => (ts.getD d .undef).den)).map SV.den ∧ ch = lcT cb co cn cc cu b2 b3 key ok ci cz s ro0 rc0 ro1 rc1 ro2 rc2 ro3 rc3 ∧ pos0 ci ∧ GoodS key s ∧ s.t.root = 0) ∧
    ∀ (g : Nat → Value) (kx : Int) (ci cz : Int) (s : SecX) (ro0 : Option Addr) (rc0 : Nat) (ro1 : Option Addr) (rc1 : Nat) (ro2 : Option Addr) (rc2 : Nat) (ro3 : Option Addr) (rc3 : Nat), (pos0 ci ∧ GoodS key s ∧ leZ s.t.root 7) → kk (.exit 0) (lcH cb co cn cc cu b2 b3 key ok (.int kx) g) (lcT cb co cn cc cu b2 b3 key ok ci cz s ro0 rc0 ro1 rc1 ro2 rc2 ro3 rc3)
theorem lcB (cb : Nat) (co : Option Addr) (cn cc : Nat) (cu : Nat → Int) (b2 b3 : Nat) (key : Int) (ok : Bool) (ci cz : Int) (s : SecX) (ro0 : Option Addr) (rc0 : Nat) (ro1 : Option Addr) (rc1 : Nat) (ro2 : Option Addr) (rc2 : Nat) (ro3 : Option Addr) (rc3 : Nat) (j : Nat) (g : Nat → Value) (NX : List SV → List Ch → Prop) (kx : Exit → List SV → List Ch → Prop) : (exCode Try.prog {tb := [(28, sBelow), (57, sWordD), (22, sSWriteX)], D := fun _ => [0]} 400 (theLoop Try.f42 0) (lcH cb co cn cc cu b2 b3 key ok (.int (j : Int)) g) (lcT cb co cn cc cu b2 b3 key ok ci cz s ro0 rc0 ro1 rc1 ro2 rc2 ro3 rc3) (loopK NX kx)) = (
  (Exists (fun (u0 : (Nat →
  Int)) => (((cb = cb ∧
  (63 = 63 ∧
  (co = co ∧
  (cn = cn ∧
  [(fun (i1 : Nat) => (SC.u8 (cu i1)))] = [(fun (i2 : Nat) => (SC.u8 (u0 i2)))])))) ∧
  ((codeC cn u0) ∧
  ((pos0 ci) ∧
  (inR (7 : Int) (1 : Int) (4294967296 : Int))))) ∧
  (∀ z03 : Int,
  (∀ i14 : Int,
  (∀ z15 : Int,
  ((inR z03 (0 : Int) ((7 : Int) - (1 : Int))) →
  ((pos0 i14) →
   (((decide (((j : Nat) : Int) < z03)) = Bool.true →
    (b3 = b3 ∧
     (Exists (fun (u6 : (Nat →
     Int)) => (((cb = cb ∧
     (63 = 63 ∧
     (co = co ∧
     (cn = cn ∧
     [(fun (i7 : Nat) => (SC.u8 (cu i7)))] = [(fun (i8 : Nat) => (SC.u8 (u6 i8)))])))) ∧
     ((codeC cn u6) ∧
     ((pos0 i14) ∧
     (inR (8 : Int) (1 : Int) (4294967296 : Int))))) ∧
     (∀ z09 : Int,
     (∀ i110 : Int,
     (∀ z111 : Int,
     ((inR z09 (0 : Int) ((8 : Int) - (1 : Int))) →
     ((pos0 i110) →
      (True ∧
       (Exists (fun (u12 : (Nat →
       Int)) => (((cb = cb ∧
       (63 = 63 ∧
       (co = co ∧
       (cn = cn ∧
       [(fun (i13 : Nat) => (SC.u8 (cu i13)))] = [(fun (i14 : Nat) => (SC.u8 (u12 i14)))])))) ∧
       ((codeC cn u12) ∧
       (pos0 i110))) ∧
       (∀ z015 : Int,
       (∀ i116 : Int,
       (∀ z117 : Int,
       ((inR z015 (0 : Int) (4294967295 : Int)) →
       ((pos0 i116) →
        (True ∧
         (Exists (fun (s18 : SecX) => ((ro0 = ro0 ∧
         (2 = 2 ∧
         ([(fun (i19 : Nat) => (SC.int (((s).1).2 i19))), (fun (i20 : Nat) => (SC.int (((s).1).3 i20)))] = [(fun (i21 : Nat) => (SC.int (((s18).1).2 i21))), (fun (i22 : Nat) => (SC.int (((s18).1).3 i22)))] ∧
         (ro1 = ro1 ∧
         (8 = 8 ∧
         ([(fun (i23 : Nat) => (SC.int (((s).1).4 i23))), (fun (i24 : Nat) => (SC.int (((s).1).5 i24)))] = [(fun (i25 : Nat) => (SC.int (((s18).1).4 i25))), (fun (i26 : Nat) => (SC.int (((s18).1).5 i26)))] ∧
         (ro2 = ro2 ∧
         (8 = 8 ∧
         ([(fun (i27 : Nat) => (SC.int ((s).3 i27)))] = [(fun (i28 : Nat) => (SC.int ((s18).3 i28)))] ∧
         (ro3 = ro3 ∧
         (8 = 8 ∧
         ([(fun (i29 : Nat) => (SC.int ((s).4 i29)))] = [(fun (i30 : Nat) => (SC.int ((s18).4 i30)))] ∧
         (2 = 2 ∧
         (8 = 8 ∧
         (8 = 8 ∧
         (8 = 8 ∧
         (((s).1).1 = ((s18).1).1 ∧
         ((GoodS key s18) ∧
         ((leZ ((s18).1).1 (1000 : Int)) ∧
         ((inR z09 (0 : Int) (7 : Int)) ∧
         (inR z015 (0 : Int) (4294967295 : Int)))))))))))))))))))))) ∧
         (∀ s'31 : SecX,
         (∀ ro032 : (Option Addr),
         (∀ rc033 : Nat,
         (∀ ro134 : (Option Addr),
         (∀ rc135 : Nat,
         (∀ ro236 : (Option Addr),
         (∀ rc237 : Nat,
         (∀ ro338 : (Option Addr),
         (∀ rc339 : Nat,
         (((GoodS key s'31) ∧
         (WriteX s18 z09 z015 s'31)) →
         (True ∧
          (b3 = b3 ∧
          (True ∧
          ((rng (((j : Nat) : Int) + (1 : Int))) ∧
          (NX [(SV.a (SA.c (SC.ptr 0 cb 0))), (SV.a (SA.c (SC.val (g 1)))), (SV.a (SA.c (SC.ptr 2 b2 0))), (SV.a (SA.c (SC.ptr 7 b3 0))), (SV.a (SA.c (SC.bool ok))), (SV.a (SA.c (SC.int (((j : Nat) : Int) + (1 : Int))))), (SV.a (SA.c (SC.val (g 6)))), (SV.a (SA.c (SC.val (g 7)))), (SV.a (SA.c (SC.val (g 8)))), (SV.a (SA.c (SC.val (g 9)))), (SV.a (SA.c (SC.val (g 10)))), (SV.a (SA.c (SC.val (g 11)))), (SV.a (SA.c (SC.int ((j : Nat) : Int)))), (SV.a (SA.c (SC.ptr 0 cb 0))), (SV.a (SA.c (SC.int z03))), (SV.a (SA.c (SC.lit Bool.true))), (SV.a (SA.c (SC.int ((j : Nat) : Int)))), (SV.a (SA.c (SC.int (((j : Nat) : Int) + (1 : Int))))), (SV.tup [(SA.agg [(SC.int key), (SC.int ((s'31).1).1), (SC.sl 8 ro032 2 rc033), (SC.sl 9 ro134 8 rc135), (SC.sl 10 ro236 8 rc237), (SC.sl 11 ro338 8 rc339)]), (SA.c (SC.lit Bool.true))]), (SV.a (SA.agg [(SC.int key), (SC.int ((s).1).1), (SC.sl 3 ro0 2 rc0), (SC.sl 4 ro1 8 rc1), (SC.sl 5 ro2 8 rc2), (SC.sl 6 ro3 8 rc3)])), (SV.a (SA.c (SC.ptr 0 cb 0))), (SV.a (SA.c (SC.int z09))), (SV.a (SA.c (SC.ptr 0 cb 0))), (SV.a (SA.c (SC.int z015))), (SV.tup [(SA.agg [(SC.int key), (SC.int ((s'31).1).1), (SC.sl 8 ro032 2 rc033), (SC.sl 9 ro134 8 rc135), (SC.sl 10 ro236 8 rc237), (SC.sl 11 ro338 8 rc339)]), (SA.c (SC.lit Bool.true))]), (SV.a (SA.agg [(SC.int key), (SC.int ((s'31).1).1), (SC.sl 8 ro032 2 rc033), (SC.sl 9 ro134 8 rc135), (SC.sl 10 ro236 8 rc237), (SC.sl 11 ro338 8 rc339)])), (SV.a (SA.c (SC.lit Bool.true))), (SV.a (SA.c (SC.val (g 27))))] [(Ch.cells cb 63 [(SC.sl 1 co cn cc), (SC.int i116), (SC.int z117)]), (Ch.row (Row.mk Bool.false co 0 1 cn 0 [(fun (i40 : Nat) => (SC.u8 (cu i40)))])), (Ch.cells b2 40 [(SC.il (0 : Int)), (SC.il (0 : Int)), SC.nil, SC.nil, SC.nil, SC.nil]), (Ch.row (Row.mk Bool.true ro0 37 2 2 rc0 [(fun (i41 : Nat) => (SC.int (((s).1).2 i41))), (fun (i42 : Nat) => (SC.int (((s).1).3 i42)))])), (Ch.row (Row.mk Bool.true ro1 37 2 8 rc1 [(fun (i43 : Nat) => (SC.int (((s).1).4 i43))), (fun (i44 : Nat) => (SC.int (((s).1).5 i44)))])), (Ch.row (Row.mk Bool.true ro2 3 1 8 rc2 [(fun (i45 : Nat) => (SC.int ((s).3 i45)))])), (Ch.row (Row.mk Bool.true ro3 3 1 8 rc3 [(fun (i46 : Nat) => (SC.int ((s).4 i46)))])), (Ch.cells b3 40 [(SC.int key), (SC.int ((s'31).1).1), (SC.sl 8 ro032 2 rc033), (SC.sl 9 ro134 8 rc135), (SC.sl 10 ro236 8 rc237), (SC.sl 11 ro338 8 rc339)]), (Ch.row (Row.mk Bool.true ro032 37 2 2 rc033 [(fun (i47 : Nat) => (SC.int (((s'31).1).2 i47))), (fun (i48 : Nat) => (SC.int (((s'31).1).3 i48)))])), (Ch.row (Row.mk Bool.true ro134 37 2 8 rc135 [(fun (i49 : Nat) => (SC.int (((s'31).1).4 i49))), (fun (i50 : Nat) => (SC.int (((s'31).1).5 i50)))])), (Ch.row (Row.mk Bool.true ro236 3 1 8 rc237 [(fun (i51 : Nat) => (SC.int ((s'31).3 i51)))])), (Ch.row (Row.mk Bool.true ro338 3 1 8 rc339 [(fun (i52 : Nat) => (SC.int ((s'31).4 i52)))]))])))))))))))))))))))))))))))))))))))))) ∧
    ((decide (((j : Nat) : Int) < z03)) = Bool.false →
    (kx (Exit.exit 0) [(SV.a (SA.c (SC.ptr 0 cb 0))), (SV.a (SA.c (SC.val (g 1)))), (SV.a (SA.c (SC.ptr 2 b2 0))), (SV.a (SA.c (SC.ptr 7 b3 0))), (SV.a (SA.c (SC.bool ok))), (SV.a (SA.c (SC.int ((j : Nat) : Int)))), (SV.a (SA.c (SC.val (g 6)))), (SV.a (SA.c (SC.val (g 7)))), (SV.a (SA.c (SC.val (g 8)))), (SV.a (SA.c (SC.val (g 9)))), (SV.a (SA.c (SC.val (g 10)))), (SV.a (SA.c (SC.val (g 11)))), (SV.a (SA.c (SC.int ((j : Nat) : Int)))), (SV.a (SA.c (SC.ptr 0 cb 0))), (SV.a (SA.c (SC.int z03))), (SV.a (SA.c (SC.lit Bool.false))), (SV.a (SA.c (SC.val (g 16)))), (SV.a (SA.c (SC.val (g 17)))), (SV.a (SA.c (SC.val (g 18)))), (SV.a (SA.c (SC.val (g 19)))), (SV.a (SA.c (SC.val (g 20)))), (SV.a (SA.c (SC.val (g 21)))), (SV.a (SA.c (SC.val (g 22)))), (SV.a (SA.c (SC.val (g 23)))), (SV.a (SA.c (SC.val (g 24)))), (SV.a (SA.c (SC.val (g 25)))), (SV.a (SA.c (SC.val (g 26)))), (SV.a (SA.c (SC.val (g 27))))] [(Ch.cells cb 63 [(SC.sl 1 co cn cc), (SC.int i14), (SC.int z15)]), (Ch.row (Row.mk Bool.false co 0 1 cn 0 [(fun (i53 : Nat) => (SC.u8 (cu i53)))])), (Ch.cells b2 40 [(SC.il (0 : Int)), (SC.il (0 : Int)), SC.nil, SC.nil, SC.nil, SC.nil]), (Ch.row (Row.mk Bool.true ro0 37 2 2 rc0 [(fun (i54 : Nat) => (SC.int (((s).1).2 i54))), (fun (i55 : Nat) => (SC.int (((s).1).3 i55)))])), (Ch.row (Row.mk Bool.true ro1 37 2 8 rc1 [(fun (i56 : Nat) => (SC.int (((s).1).4 i56))), (fun (i57 : Nat) => (SC.int (((s).1).5 i57)))])), (Ch.row (Row.mk Bool.true ro2 3 1 8 rc2 [(fun (i58 : Nat) => (SC.int ((s).3 i58)))])), (Ch.row (Row.mk Bool.true ro3 3 1 8 rc3 [(fun (i59 : Nat) => (SC.int ((s).4 i59)))])), (Ch.cells b3 40 [(SC.int key), (SC.int ((s).1).1), (SC.sl 3 ro0 2 rc0), (SC.sl 4 ro1 8 rc1), (SC.sl 5 ro2 8 rc2), (SC.sl 6 ro3 8 rc3)])])))))))))))) := by kernel_rfl
theorem lcs_ok (cb : Nat) (co : Option Addr) (cn cc : Nat) (cu : Nat → Int) (hcode : codeC cn cu) (X : Cx) : LoopOK Try.prog X (theLoop Try.f42 0) (slc cb co cn cc cu) := by
  intro ts ch kk a w hS hT hd hs
  obtain ⟨b2, b3, key, ok, ci0, cz0, s, ro0, rc0, ro1, rc1, ro2, rc2, ro3, rc3, ⟨h1, rfl, hp0, hG, hr⟩, hk⟩ := hS
  refine loop_ok mixed (E := {tb := [(28, sBelow), (57, sWordD), (22, sSWriteX)], D := fun _ => [0]}) ⟨sBelow_ok, sWordD_ok, sSWriteX_S, trivial⟩ (loopsOK_nil _ _ _) 400 7 (fun j ts ch => ∃ g ci cz s ro0 rc0 ro1 rc1 ro2 rc2 ro3 rc3, (pos0 ci ∧ GoodS key s ∧ s.t.root = (j : Int)) ∧ ts = lcH cb co cn cc cu b2 b3 key ok (.int (j : Int)) g ∧ ch = lcT cb co cn cc cu b2 b3 key ok ci cz s ro0 rc0 ro1 rc1 ro2 rc2 ro3 rc3) ?_ ?_ hT hd hs
  · clear hG hr hp0
    rintro j _ _ ⟨g, ci, cz, s, ro0, rc0, ro1, rc1, ro2, rc2, ro3, rc3, ⟨hci, hG, hr⟩, rfl, rfl⟩ hj
    refine (@Eq.mpr _ _ (lcB cb co cn cc cu b2 b3 key ok ci cz s ro0 rc0 ro1 rc1 ro2 rc2 ro3 rc3 j g _ _) ?_)
    have hb : leZ s.t.root 1000 := by show _ ≤ _; omega
    have hb7 : leZ s.t.root 7 := by show _ ≤ _; omega
    repeat' (first
      | with_reducible exact rfl
      | exact True.intro
      | with_reducible assumption
      | (refine ⟨by omega, ?_⟩; show Next _ _ _ _; refine Next.mk (fun g => lcH cb co cn cc cu b2 b3 key ok (.int ((j + 1 : Nat) : Int)) g) _ ⟨_, _, _, _, _, _, _, _, _, _, _, _, ⟨by with_reducible assumption, hY, by rw [hBp.1.1]; omega⟩, rfl, rfl⟩ rfl fun w hw => (hw.sel [0, 1, 2, 8, 9, 10, 11, 7] (by simp)).recell 7 rfl [.int _, .int _, .sl 3 _ 2 _, .sl 4 _ 8 _, .sl 5 _ 8 _, .sl 6 _ 8 _] rfl)
      | (refine Next.mk (fun g => lcH cb co cn cc cu b2 b3 key ok (.int (j : Int)) g) _ (hk _ _ _ _ _ _ _ _ _ _ _ _ _ ⟨by with_reducible assumption, hG, hb7⟩) rfl fun w hw => hw)
      | refine And.intro ?_ ?_
      | apply Exists.intro
      | (intro (h : GoodS _ _ ∧ WriteX _ _ _ _); obtain ⟨hY, hBp⟩ := h)
      | (intro h; replace h := of_decide_eq_true h; first | (exfalso; omega) | skip)
      | (intro h; replace h := of_decide_eq_false h; first | (exfalso; omega) | skip)
      | intro _
      | omega
      | (simp; omega))
  · exact Next.mk (fun g => lcH cb co cn cc cu b2 b3 key ok (.int ((0 : Nat) : Int)) g) _ ⟨_, _, _, _, _, _, _, _, _, _, _, _, ⟨hp0, hG, hr⟩, rfl, rfl⟩ h1 fun w hw => hw
theorem sCaseSC_T (cb : Nat) (co : Option Addr) (cn cc : Nat) (ci cz : Int) (cu : Nat → Int) : (exFn Try.prog {tb := [(28, sBelow), (57, sWordD), (56, sSNewX)], L := [(3, slc cb co cn cc cu)], D := fun _ => [0]} 400 Try.f42 ([.a (.c (.ptr 0 cb 0))]) ([.cells cb 63 [.sl 1 co cn cc, .int ci, .int cz], .row ⟨false, co, 0, 1, cn, 0, [fun i => .u8 (cu i)]⟩]) (fun v ch => ∃ (key : Int) (s : SecX) (i1 z1 : Int) (ro0 : Option Addr) (rc0 : Nat) (ro1 : Option Addr) (rc1 : Nat) (ro2 : Option Addr) (rc2 : Nat) (ro3 : Option Addr) (rc3 : Nat), OutC v ch (.agg #[.int .i64 (key), .int .i64 (s.t.root), .slice ro0 (2) rc0, .slice ro1 (8) rc1, .slice ro2 (8) rc2, .slice ro3 (8) rc3]) (.cells cb 63 [.sl 1 co cn cc, .int i1, .int z1]) [.row ⟨true, ro0, 37, 2, 2, rc0, [fun i => .int (s.t.mc i), fun i => .int (s.t.mt i)]⟩, .row ⟨true, ro1, 37, 2, 8, rc1, [fun i => .int (s.t.lc i), fun i => .int (s.t.lt i)]⟩, .row ⟨true, ro2, 3, 1, 8, rc2, [fun i => .int (s.da i)]⟩, .row ⟨true, ro3, 3, 1, 8, rc3, [fun i => .int (s.ta i)]⟩] ∧ (GoodS key s ∧ leZ s.t.root 7) ∧ pos0 i1)) = (
  (∀ b0 : Nat,
  (Exists (fun (u1 : (Nat →
  Int)) => (((cb = cb ∧
  (63 = 63 ∧
  (co = co ∧
  (cn = cn ∧
  [(fun (i2 : Nat) => (SC.u8 (cu i2)))] = [(fun (i3 : Nat) => (SC.u8 (u1 i3)))])))) ∧
  ((codeC cn u1) ∧
  (pos0 ci))) ∧
  (∀ z04 : Int,
  (∀ i15 : Int,
  (∀ z16 : Int,
  ((inR z04 (0 : Int) (4294967295 : Int)) →
  ((pos0 i15) →
   ((isW z04) = Bool.true ∧
    (∀ s7 : SecX,
    (∀ ro08 : (Option Addr),
    (∀ rc09 : Nat,
    (∀ ro110 : (Option Addr),
    (∀ rc111 : Nat,
    (∀ ro212 : (Option Addr),
    (∀ rc213 : Nat,
    (∀ ro314 : (Option Addr),
    (∀ rc315 : Nat,
    (((GoodS z04 s7) ∧
    ((s7).1).1 = (0 : Int)) →
    (∀ b16 : Nat,
     (b16 = b16 ∧
     (Exists (fun (b217 : Nat) => (Exists (fun (b318 : Nat) => (Exists (fun (key19 : Int) => (Exists (fun (ok20 : Bool) => (Exists (fun (ci21 : Int) => (Exists (fun (cz22 : Int) => (Exists (fun (s23 : SecX) => (Exists (fun (ro024 : (Option Addr)) => (Exists (fun (rc025 : Nat) => (Exists (fun (ro126 : (Option Addr)) => (Exists (fun (rc127 : Nat) => (Exists (fun (ro228 : (Option Addr)) => (Exists (fun (rc229 : Nat) => (Exists (fun (ro330 : (Option Addr)) => (Exists (fun (rc331 : Nat) => (([(Value.pointer (Option.some (Addr.mk cb 0 Option.none))), (Value.tuple (List.toArray [])), (Value.pointer (Option.some (Addr.mk b0 0 Option.none))), (Value.pointer (Option.some (Addr.mk b16 0 Option.none))), (Value.bool Bool.true), (Value.int IntKind.i64 (0 : Int)), (Value.tuple (List.toArray [(Value.agg (List.toArray [(Value.int IntKind.i64 z04), (Value.int IntKind.i64 ((s7).1).1), (Value.slice ro08 2 rc09), (Value.slice ro110 8 rc111), (Value.slice ro212 8 rc213), (Value.slice ro314 8 rc315)])), (Value.bool Bool.true)])), (Value.pointer (Option.some (Addr.mk cb 0 Option.none))), (Value.int IntKind.i64 z04), (Value.tuple (List.toArray [(Value.agg (List.toArray [(Value.int IntKind.i64 z04), (Value.int IntKind.i64 ((s7).1).1), (Value.slice ro08 2 rc09), (Value.slice ro110 8 rc111), (Value.slice ro212 8 rc213), (Value.slice ro314 8 rc315)])), (Value.bool Bool.true)])), (Value.agg (List.toArray [(Value.int IntKind.i64 z04), (Value.int IntKind.i64 ((s7).1).1), (Value.slice ro08 2 rc09), (Value.slice ro110 8 rc111), (Value.slice ro212 8 rc213), (Value.slice ro314 8 rc315)])), (Value.bool Bool.true), (Value.tuple (List.toArray [])), (Value.tuple (List.toArray [])), (Value.tuple (List.toArray [])), (Value.tuple (List.toArray [])), (Value.tuple (List.toArray [])), (Value.tuple (List.toArray [])), (Value.tuple (List.toArray [])), (Value.tuple (List.toArray [])), (Value.tuple (List.toArray [])), (Value.tuple (List.toArray [])), (Value.tuple (List.toArray [])), (Value.tuple (List.toArray [])), (Value.tuple (List.toArray [])), (Value.tuple (List.toArray [])), (Value.tuple (List.toArray [])), (Value.tuple (List.toArray []))] = [(Value.pointer (Option.some (Addr.mk cb 0 Option.none))), (Value.tuple (List.toArray [])), (Value.pointer (Option.some (Addr.mk b217 0 Option.none))), (Value.pointer (Option.some (Addr.mk b318 0 Option.none))), (Value.bool ok20), (Value.int IntKind.i64 (0 : Int)), (Value.tuple (List.toArray [(Value.agg (List.toArray [(Value.int IntKind.i64 z04), (Value.int IntKind.i64 ((s7).1).1), (Value.slice ro08 2 rc09), (Value.slice ro110 8 rc111), (Value.slice ro212 8 rc213), (Value.slice ro314 8 rc315)])), (Value.bool Bool.true)])), (Value.pointer (Option.some (Addr.mk cb 0 Option.none))), (Value.int IntKind.i64 z04), (Value.tuple (List.toArray [(Value.agg (List.toArray [(Value.int IntKind.i64 z04), (Value.int IntKind.i64 ((s7).1).1), (Value.slice ro08 2 rc09), (Value.slice ro110 8 rc111), (Value.slice ro212 8 rc213), (Value.slice ro314 8 rc315)])), (Value.bool Bool.true)])), (Value.agg (List.toArray [(Value.int IntKind.i64 z04), (Value.int IntKind.i64 ((s7).1).1), (Value.slice ro08 2 rc09), (Value.slice ro110 8 rc111), (Value.slice ro212 8 rc213), (Value.slice ro314 8 rc315)])), (Value.bool Bool.true), (Value.tuple (List.toArray [])), (Value.tuple (List.toArray [])), (Value.tuple (List.toArray [])), (Value.tuple (List.toArray [])), (Value.tuple (List.toArray [])), (Value.tuple (List.toArray [])), (Value.tuple (List.toArray [])), (Value.tuple (List.toArray [])), (Value.tuple (List.toArray [])), (Value.tuple (List.toArray [])), (Value.tuple (List.toArray [])), (Value.tuple (List.toArray [])), (Value.tuple (List.toArray [])), (Value.tuple (List.toArray [])), (Value.tuple (List.toArray [])), (Value.tuple (List.toArray []))] ∧
     ([(Ch.cells cb 63 [(SC.sl 1 co cn cc), (SC.int i15), (SC.int z16)]), (Ch.row (Row.mk Bool.false co 0 1 cn 0 [(fun (i32 : Nat) => (SC.u8 (cu i32)))])), (Ch.cells b0 40 [(SC.il (0 : Int)), (SC.il (0 : Int)), SC.nil, SC.nil, SC.nil, SC.nil]), (Ch.row (Row.mk Bool.true ro08 37 2 2 rc09 [(fun (i33 : Nat) => (SC.int (((s7).1).2 i33))), (fun (i34 : Nat) => (SC.int (((s7).1).3 i34)))])), (Ch.row (Row.mk Bool.true ro110 37 2 8 rc111 [(fun (i35 : Nat) => (SC.int (((s7).1).4 i35))), (fun (i36 : Nat) => (SC.int (((s7).1).5 i36)))])), (Ch.row (Row.mk Bool.true ro212 3 1 8 rc213 [(fun (i37 : Nat) => (SC.int ((s7).3 i37)))])), (Ch.row (Row.mk Bool.true ro314 3 1 8 rc315 [(fun (i38 : Nat) => (SC.int ((s7).4 i38)))])), (Ch.cells b16 40 [(SC.int z04), (SC.int ((s7).1).1), (SC.sl 3 ro08 2 rc09), (SC.sl 4 ro110 8 rc111), (SC.sl 5 ro212 8 rc213), (SC.sl 6 ro314 8 rc315)])] = [(Ch.cells cb 63 [(SC.sl 1 co cn cc), (SC.int ci21), (SC.int cz22)]), (Ch.row (Row.mk Bool.false co 0 1 cn 0 [(fun (i39 : Nat) => (SC.u8 (cu i39)))])), (Ch.cells b217 40 [(SC.il (0 : Int)), (SC.il (0 : Int)), SC.nil, SC.nil, SC.nil, SC.nil]), (Ch.row (Row.mk Bool.true ro024 37 2 2 rc025 [(fun (i40 : Nat) => (SC.int (((s23).1).2 i40))), (fun (i41 : Nat) => (SC.int (((s23).1).3 i41)))])), (Ch.row (Row.mk Bool.true ro126 37 2 8 rc127 [(fun (i42 : Nat) => (SC.int (((s23).1).4 i42))), (fun (i43 : Nat) => (SC.int (((s23).1).5 i43)))])), (Ch.row (Row.mk Bool.true ro228 3 1 8 rc229 [(fun (i44 : Nat) => (SC.int ((s23).3 i44)))])), (Ch.row (Row.mk Bool.true ro330 3 1 8 rc331 [(fun (i45 : Nat) => (SC.int ((s23).4 i45)))])), (Ch.cells b318 40 [(SC.int key19), (SC.int ((s23).1).1), (SC.sl 3 ro024 2 rc025), (SC.sl 4 ro126 8 rc127), (SC.sl 5 ro228 8 rc229), (SC.sl 6 ro330 8 rc331)])] ∧
     ((pos0 ci21) ∧
     ((GoodS key19 s23) ∧
     ((s23).1).1 = (0 : Int))))) ∧
     (∀ g46 : (Nat →
     Value),
     (∀ kx47 : Int,
     (∀ ci48 : Int,
     (∀ cz49 : Int,
     (∀ s50 : SecX,
     (∀ ro051 : (Option Addr),
     (∀ rc052 : Nat,
     (∀ ro153 : (Option Addr),
     (∀ rc154 : Nat,
     (∀ ro255 : (Option Addr),
     (∀ rc256 : Nat,
     (∀ ro357 : (Option Addr),
     (∀ rc358 : Nat,
     (((pos0 ci48) ∧
     ((GoodS key19 s50) ∧
     (leZ ((s50).1).1 (7 : Int)))) →
     (b318 = b318 ∧
      (b217 = b217 ∧
      (b217 = b217 ∧
      (Exists (fun (key59 : Int) => (Exists (fun (s60 : SecX) => (Exists (fun (i161 : Int) => (Exists (fun (z162 : Int) => (Exists (fun (ro063 : (Option Addr)) => (Exists (fun (rc064 : Nat) => (Exists (fun (ro165 : (Option Addr)) => (Exists (fun (rc166 : Nat) => (Exists (fun (ro267 : (Option Addr)) => (Exists (fun (rc268 : Nat) => (Exists (fun (ro369 : (Option Addr)) => (Exists (fun (rc370 : Nat) => (((Value.agg (List.toArray [(Value.int IntKind.i64 key19), (Value.int IntKind.i64 ((s50).1).1), (Value.slice ro051 2 rc052), (Value.slice ro153 8 rc154), (Value.slice ro255 8 rc256), (Value.slice ro357 8 rc358)])) = (Value.agg (List.toArray [(Value.int IntKind.i64 key59), (Value.int IntKind.i64 ((s60).1).1), (Value.slice ro063 2 rc064), (Value.slice ro165 8 rc166), (Value.slice ro267 8 rc268), (Value.slice ro369 8 rc370)])) ∧
      ((cb = cb ∧
      (63 = 63 ∧
      [(Value.slice co cn cc), (Value.int IntKind.i64 ci48), (Value.int IntKind.i64 cz49)] = [(Value.slice co cn cc), (Value.int IntKind.i64 i161), (Value.int IntKind.i64 z162)])) ∧
      (((Bool.true = Bool.true ∧
      (ro051 = ro063 ∧
      (37 = 37 ∧
      (2 = 2 ∧
      (2 = 2 ∧
      (rc052 = rc064 ∧
      ((∀ i71 : Nat,
      (i71 < 2 →
      (Value.int IntKind.i64 (((s50).1).2 i71)) = (Value.int IntKind.i64 (((s60).1).2 i71)))) ∧
      ((∀ i72 : Nat,
      (i72 < 2 →
      (Value.int IntKind.i64 (((s50).1).3 i72)) = (Value.int IntKind.i64 (((s60).1).3 i72)))) ∧
      True)))))))) ∧
      ((Bool.true = Bool.true ∧
      (ro153 = ro165 ∧
      (37 = 37 ∧
      (2 = 2 ∧
      (8 = 8 ∧
      (rc154 = rc166 ∧
      ((∀ i73 : Nat,
      (i73 < 8 →
      (Value.int IntKind.i64 (((s50).1).4 i73)) = (Value.int IntKind.i64 (((s60).1).4 i73)))) ∧
      ((∀ i74 : Nat,
      (i74 < 8 →
      (Value.int IntKind.i64 (((s50).1).5 i74)) = (Value.int IntKind.i64 (((s60).1).5 i74)))) ∧
      True)))))))) ∧
      ((Bool.true = Bool.true ∧
      (ro255 = ro267 ∧
      (3 = 3 ∧
      (1 = 1 ∧
      (8 = 8 ∧
      (rc256 = rc268 ∧
      ((∀ i75 : Nat,
      (i75 < 8 →
      (Value.int IntKind.i64 ((s50).3 i75)) = (Value.int IntKind.i64 ((s60).3 i75)))) ∧
      True))))))) ∧
      ((Bool.true = Bool.true ∧
      (ro357 = ro369 ∧
      (3 = 3 ∧
      (1 = 1 ∧
      (8 = 8 ∧
      (rc358 = rc370 ∧
      ((∀ i76 : Nat,
      (i76 < 8 →
      (Value.int IntKind.i64 ((s50).4 i76)) = (Value.int IntKind.i64 ((s60).4 i76)))) ∧
      True))))))) ∧
      True)))) ∧
      Bool.true = Bool.true))) ∧
      (((GoodS key59 s60) ∧
      (leZ ((s60).1).1 (7 : Int))) ∧
      (pos0 i161)))))))))))))))))))))))))))))))))))))))))))))))))))))))))))))))))))))))))))))))))))))))))))))))))) := by kernel_rfl
theorem sCaseSC_any (cb : Nat) (co : Option Addr) (cn cc : Nat) (ci cz : Int) (cu : Nat → Int) (w : World) (hs : HS ⟨w, (Ch.cells cb 63 [.sl 1 co cn cc, .int ci, .int cz]).at⟩ [.cells cb 63 [.sl 1 co cn cc, .int ci, .int cz], .row ⟨false, co, 0, 1, cn, 0, [fun i => .u8 (cu i)]⟩] w) (hcode : codeC cn cu) (hci : pos0 ci) : Calls Try.prog 42 #[.pointer (some ⟨cb, 0, none⟩)] w fun e w' => ∃ (key : Int) (s : SecX) (i1 z1 : Int) (ro0 : Option Addr) (rc0 : Nat) (ro1 : Option Addr) (rc1 : Nat) (ro2 : Option Addr) (rc2 : Nat) (ro3 : Option Addr) (rc3 : Nat), ((GoodS key s ∧ leZ s.t.root 7) ∧ pos0 i1) ∧ e = .returned (.agg #[.int .i64 (key), .int .i64 (s.t.root), .slice ro0 (2) rc0, .slice ro1 (8) rc1, .slice ro2 (8) rc2, .slice ro3 (8) rc3]) ∧ HS ⟨w, (Ch.cells cb 63 [.sl 1 co cn cc, .int ci, .int cz]).at⟩ [.cells cb 63 [.sl 1 co cn cc, .int i1, .int z1], .row ⟨true, ro0, 37, 2, 2, rc0, [fun i => .int (s.t.mc i), fun i => .int (s.t.mt i)]⟩, .row ⟨true, ro1, 37, 2, 8, rc1, [fun i => .int (s.t.lc i), fun i => .int (s.t.lt i)]⟩, .row ⟨true, ro2, 3, 1, 8, rc2, [fun i => .int (s.da i)]⟩, .row ⟨true, ro3, 3, 1, 8, rc3, [fun i => .int (s.ta i)]⟩] w' := by
  refine fn_ok mixed (E := {tb := [(28, sBelow), (57, sWordD), (56, sSNewX)], L := [(3, slc cb co cn cc cu)], D := fun _ => [0]}) ⟨sBelow_ok, sWordD_ok, sSNewX_S, trivial⟩ Try.func42 (one_loop (by kernel_rfl) (by kernel_rfl) (lcs_ok cb co cn cc cu hcode _)) (@Eq.mpr _ _ (sCaseSC_T cb co cn cc ci cz cu) ?_) hs (fun v ch' w' ⟨key, s, i1, z1, ro0, rc0, ro1, rc1, ro2, rc2, ro3, rc3, hk, hf⟩ hs => ⟨key, s, i1, z1, ro0, rc0, ro1, rc1, ro2, rc2, ro3, rc3, hf, by rw [hk.1], hk.hs hs⟩)
  clear hs
  have hcn : cn ≤ 1048576 := hcode.1
  have hci0 : 0 ≤ ci := hci
  repeat' (first
    | with_reducible exact rfl
    | exact True.intro
    | with_reducible assumption
    | exact isW_small (by with_reducible assumption)
    | exact isW_small ⟨by with_reducible assumption, by with_reducible assumption⟩
    | refine And.intro ?_ ?_
    | apply Exists.intro
    | (intro i hi; with_reducible exact rfl)
    | (intro (h : _ ∧ _); obtain ⟨_, _⟩ := h)
    | intro _
    | omega)
def sCaseS : Sm := fun args ch k =>
  match args with
  | [.a (.c (.ptr id b off))] =>
    match off, ch[id]? with
    | 0, some (.cells b' t [.sl j ao n cap, ic, hc]) =>
      match ch[j]?, asI ic, asI hc with
      | some (.row r), some i, some z => ∃ u : Nat → Int, ((b = b' ∧ t = 63 ∧ ao = r.ao ∧ n = r.n ∧ r.fld = [fun i => .u8 (u i)]) ∧ codeC n u ∧ pos0 i) ∧ ∀ (key : Int), ∀ (s : SecX), ∀ (i1 z1 : Int), ∀ (ro0 : Option Addr) (rc0 : Nat), ∀ (ro1 : Option Addr) (rc1 : Nat), ∀ (ro2 : Option Addr) (rc2 : Nat), ∀ (ro3 : Option Addr) (rc3 : Nat), (GoodS key s ∧ leZ s.t.root 7) → pos0 i1 → k (.a (.agg [.int (key), .int (s.t.root), .sl (ch.length) ro0 (2) rc0, .sl (ch.length + 1) ro1 (8) rc1, .sl (ch.length + 2) ro2 (8) rc2, .sl (ch.length + 3) ro3 (8) rc3])) (ch.set id (.cells b 63 [.sl j ao n cap, .int i1, .int z1]) ++ [.row ⟨true, ro0, 37, 2, 2, rc0, [fun i => .int (s.t.mc i), fun i => .int (s.t.mt i)]⟩, .row ⟨true, ro1, 37, 2, 8, rc1, [fun i => .int (s.t.lc i), fun i => .int (s.t.lt i)]⟩, .row ⟨true, ro2, 3, 1, 8, rc2, [fun i => .int (s.da i)]⟩, .row ⟨true, ro3, 3, 1, 8, rc3, [fun i => .int (s.ta i)]⟩]) [id]
      | _, _, _ => False
    | _, _ => False
  | _ => False
theorem sCaseS_ok : SmOK Try.prog 42 sCaseS := by
  refine smTurnN Try.call42 fun args ch k w X h0 hs => ?_
  unfold sCaseS at h0
  split at h0
  · rename_i id b off
    split at h0
    · rename_i b' t j ao n cap ic hc hid
      split at h0
      · rename_i r i z hj hi hz
        obtain ⟨u, ⟨⟨rfl, rfl, hao, hn, hf⟩, hcode, hi0⟩, h0⟩ := h0
        refine ⟨id, _, hid, rfl, ?_⟩
        simp only [List.map_cons, List.map_nil, den_a, den_c, SA.den]
        exact Calls.mono (sCaseSC_any b ao n cap i z u  w (hs.cur' hid hj hi hz hao hn hf) hcode hi0) fun e w' ⟨key, s, i1, z1, ro0, rc0, ro1, rc1, ro2, rc2, ro3, rc3, ⟨hfa, hp⟩, he, hn'⟩ => ⟨.a (.agg [.int (key), .int (s.t.root), .sl (ch.length) ro0 (2) rc0, .sl (ch.length + 1) ro1 (8) rc1, .sl (ch.length + 2) ro2 (8) rc2, .sl (ch.length + 3) ro3 (8) rc3]), _, [.row ⟨true, ro0, 37, 2, 2, rc0, [fun i => .int (s.t.mc i), fun i => .int (s.t.mt i)]⟩, .row ⟨true, ro1, 37, 2, 8, rc1, [fun i => .int (s.t.lc i), fun i => .int (s.t.lt i)]⟩, .row ⟨true, ro2, 3, 1, 8, rc2, [fun i => .int (s.da i)]⟩, .row ⟨true, ro3, 3, 1, 8, rc3, [fun i => .int (s.ta i)]⟩], he, hn'.recur, at_cells, rfl, h0 key s i1 z1 ro0 rc0 ro1 rc1 ro2 rc2 ro3 rc3 hfa hp⟩
      · exact h0.elim
    · exact h0.elim
  · exact h0.elim
end Go.Proofs.Ytppeocfcdeiemaa

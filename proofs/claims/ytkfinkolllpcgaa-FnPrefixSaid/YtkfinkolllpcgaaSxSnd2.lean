/-
  Senders made.
-/
import Derived.Test.YtkfinkolllpcgaaSxSnd
namespace Go.Proofs.Ytkfinkolllpcgaa
set_option linter.unusedVariables false
set_option linter.unusedSimpArgs false
open Go.RowKit
set_option maxRecDepth 100000
set_option maxHeartbeats 8000000

abbrev len40 (n : Nat) : Prop := n ≤ 40
def sndOkB (n : Nat) (g0 g1 g2 g3 : Nat → Int) : Bool := decide (n ≤ 40) && allB n (frP g0 g1 g2 g3)
def sndN (n : Nat) (g0 g1 g2 g3 : Nat → Int) : Nat := if sndOkB n g0 g1 g2 g3 = true then n else 0
def ssndIL (lo : Option Addr) (n lc : Nat) (g0 g1 g2 g3 : Nat → Int) : LSm := fun ts ch kk => len40 n ∧ ∃ pb pc, ssndI lo n lc g0 g1 g2 g3 pb pc ts ch kk
theorem ssndIL_ok (lo : Option Addr) (n lc : Nat) (g0 g1 g2 g3 : Nat → Int) (X : Cx) : LoopOK Try.prog X (theLoop Try.f23 0) (ssndIL lo n lc g0 g1 g2 g3) := by
  rintro ts ch kk a w ⟨hn, pb, pc, hS⟩ hT hd hs
  exact sndI_ok lo n lc g0 g1 g2 g3 pb pc hn X ts ch kk a w hS hT hd hs
theorem senderNewI_T (lo : Option Addr) (n lc : Nat) (g0 g1 g2 g3 : Nat → Int) : (exFn Try.prog { tb := [(45, sFrame)], L := [(5, ssndIL lo n lc g0 g1 g2 g3)] } 400 Try.f23 ([.a (.c (.sl 0 lo n lc))]) ([.row ⟨false, lo, 0, 4, n, 0, [fun i => .int (g0 i), fun i => .int (g1 i), fun i => .int (g2 i), fun i => .int (g3 i)]⟩]) (fun v ch => ∃ (ro0 : Option Addr) (rc0 : Nat), OutR v ch (.tuple #[.agg #[.slice ro0 (sndN n g0 g1 g2 g3) rc0, .int .i64 0], .bool (sndOkB n g0 g1 g2 g3)]) [.row ⟨true, ro0, 3, 1, sndN n g0 g1 g2 g3, rc0, [fun i => .int (fr g0 g1 g2 g3 i)]⟩])) = (
  (∀ b0 : Nat,
  (((decide (((n : Nat) : Int) > (40 : Int))) = Bool.true →
  (b0 = b0 ∧
   (b0 = b0 ∧
   (Exists (fun (ro01 : (Option Addr)) => (Exists (fun (rc02 : Nat) => ((Value.tuple (List.toArray [(Value.agg (List.toArray [(Value.slice Option.none 0 0), (Value.int IntKind.i64 (0 : Int))])), (Value.bool Bool.false)])) = (Value.tuple (List.toArray [(Value.agg (List.toArray [(Value.slice ro01 (sndN n g0 g1 g2 g3) rc02), (Value.int IntKind.i64 (0 : Int))])), (Value.bool (sndOkB n g0 g1 g2 g3))])) ∧
   (((Bool.true = Bool.true ∧
   (Option.none = ro01 ∧
   (0 = (sndN n g0 g1 g2 g3) ∧
   (0 = rc02 ∧
   Bool.true = Bool.true)))) ∧
   True) ∧
   Bool.true = Bool.true))))))))) ∧
  ((decide (((n : Nat) : Int) > (40 : Int))) = Bool.false →
  (∀ b3 : Nat,
   (b3 = b3 ∧
   ((len40 n) ∧
   (Exists (fun (pb4 : Nat) => (Exists (fun (pc5 : Nat) => (([(Value.slice lo n lc), (Value.tuple (List.toArray [])), (Value.pointer (Option.some (Addr.mk b0 0 Option.none))), (Value.bool Bool.false), (Value.pointer (Option.some (Addr.mk b3 0 Option.none))), (Value.tuple (List.toArray [])), (Value.tuple (List.toArray [])), (Value.tuple (List.toArray [])), (Value.slice lo n lc), (Value.int IntKind.i64 ((n : Nat) : Int)), (Value.bool Bool.false), (Value.tuple (List.toArray [])), (Value.agg (List.toArray [(Value.slice Option.none 0 0), (Value.int IntKind.i64 (0 : Int))])), (Value.slice lo n lc), (Value.int IntKind.i64 ((n : Nat) : Int)), (Value.int IntKind.i64 (0 : Int)), (Value.tuple (List.toArray [])), (Value.tuple (List.toArray [])), (Value.tuple (List.toArray [])), (Value.tuple (List.toArray [])), (Value.tuple (List.toArray [])), (Value.tuple (List.toArray [])), (Value.tuple (List.toArray [])), (Value.tuple (List.toArray [])), (Value.tuple (List.toArray [])), (Value.tuple (List.toArray [])), (Value.tuple (List.toArray [])), (Value.tuple (List.toArray [])), (Value.tuple (List.toArray [])), (Value.tuple (List.toArray [])), (Value.tuple (List.toArray [])), (Value.tuple (List.toArray []))] = [(Value.slice lo n lc), (Value.tuple (List.toArray [])), (Value.pointer (Option.some (Addr.mk pb4 0 Option.none))), (Value.bool Bool.false), (Value.pointer (Option.some (Addr.mk pc5 0 Option.none))), (Value.tuple (List.toArray [])), (Value.tuple (List.toArray [])), (Value.tuple (List.toArray [])), (Value.slice lo n lc), (Value.int IntKind.i64 ((n : Nat) : Int)), (Value.bool Bool.false), (Value.tuple (List.toArray [])), (Value.agg (List.toArray [(Value.slice Option.none 0 0), (Value.int IntKind.i64 (0 : Int))])), (Value.slice lo n lc), (Value.int IntKind.i64 ((n : Nat) : Int)), (Value.int IntKind.i64 (0 : Int)), (Value.tuple (List.toArray [])), (Value.tuple (List.toArray [])), (Value.tuple (List.toArray [])), (Value.tuple (List.toArray [])), (Value.tuple (List.toArray [])), (Value.tuple (List.toArray [])), (Value.tuple (List.toArray [])), (Value.tuple (List.toArray [])), (Value.tuple (List.toArray [])), (Value.tuple (List.toArray [])), (Value.tuple (List.toArray [])), (Value.tuple (List.toArray [])), (Value.tuple (List.toArray [])), (Value.tuple (List.toArray [])), (Value.tuple (List.toArray [])), (Value.tuple (List.toArray []))] ∧
   [(Ch.row (Row.mk Bool.false lo 0 4 n 0 [(fun (i6 : Nat) => (SC.int (g0 i6))), (fun (i7 : Nat) => (SC.int (g1 i7))), (fun (i8 : Nat) => (SC.int (g2 i8))), (fun (i9 : Nat) => (SC.int (g3 i9)))])), (Ch.cells b0 26 [SC.nil, (SC.il (0 : Int))]), (Ch.cells b3 26 [SC.nil, (SC.il (0 : Int))])] = [(Ch.row (Row.mk Bool.false lo 0 4 n 0 [(fun (i10 : Nat) => (SC.int (g0 i10))), (fun (i11 : Nat) => (SC.int (g1 i11))), (fun (i12 : Nat) => (SC.int (g2 i12))), (fun (i13 : Nat) => (SC.int (g3 i13)))])), (Ch.cells pb4 26 [SC.nil, (SC.il (0 : Int))]), (Ch.cells pc5 26 [SC.nil, (SC.il (0 : Int))])]) ∧
   ((∀ g14 : (Nat →
   Value),
   (∀ ao15 : (Option Addr),
   (∀ cap16 : Nat,
   ((allB n (frP g0 g1 g2 g3)) = Bool.true →
   (pc5 = pc5 ∧
    (pb4 = pb4 ∧
    (pb4 = pb4 ∧
    (Exists (fun (ro017 : (Option Addr)) => (Exists (fun (rc018 : Nat) => ((Value.tuple (List.toArray [(Value.agg (List.toArray [(Value.slice ao15 n cap16), (Value.int IntKind.i64 (0 : Int))])), (Value.bool Bool.true)])) = (Value.tuple (List.toArray [(Value.agg (List.toArray [(Value.slice ro017 (sndN n g0 g1 g2 g3) rc018), (Value.int IntKind.i64 (0 : Int))])), (Value.bool (sndOkB n g0 g1 g2 g3))])) ∧
    (((Bool.true = Bool.true ∧
    (ao15 = ro017 ∧
    (3 = 3 ∧
    (1 = 1 ∧
    (n = (sndN n g0 g1 g2 g3) ∧
    (cap16 = rc018 ∧
    ((∀ i19 : Nat,
    (i19 < n →
    (Value.int IntKind.i64 (fr g0 g1 g2 g3 i19)) = (Value.int IntKind.i64 (fr g0 g1 g2 g3 i19)))) ∧
    True))))))) ∧
    True) ∧
    Bool.true = Bool.true))))))))))))) ∧
   (∀ g20 : (Nat →
   Value),
   (∀ ao21 : (Option Addr),
   (∀ j22 : Nat,
   (∀ cap23 : Nat,
   ((allB n (frP g0 g1 g2 g3)) = Bool.false →
   (pb4 = pb4 ∧
    (Exists (fun (ro024 : (Option Addr)) => (Exists (fun (rc025 : Nat) => ((Value.tuple (List.toArray [(Value.agg (List.toArray [(Value.slice Option.none 0 0), (Value.int IntKind.i64 (0 : Int))])), (Value.bool Bool.false)])) = (Value.tuple (List.toArray [(Value.agg (List.toArray [(Value.slice ro024 (sndN n g0 g1 g2 g3) rc025), (Value.int IntKind.i64 (0 : Int))])), (Value.bool (sndOkB n g0 g1 g2 g3))])) ∧
    (((Bool.true = Bool.true ∧
    (Option.none = ro024 ∧
    (0 = (sndN n g0 g1 g2 g3) ∧
    (0 = rc025 ∧
    Bool.true = Bool.true)))) ∧
    True) ∧
    Bool.true = Bool.true))))))))))))))))))))))))) := by kernel_rfl
theorem senderNewI_any (lo : Option Addr) (n lc : Nat) (g0 g1 g2 g3 : Nat → Int) (w : World) (hr : Row.sat w ⟨false, lo, 0, 4, n, 0, [fun i => .int (g0 i), fun i => .int (g1 i), fun i => .int (g2 i), fun i => .int (g3 i)]⟩) (hn : n ≤ 9223372036854775807) : Calls Try.prog 23 #[.slice lo n lc] w fun e w' => ∃ (ro0 : Option Addr) (rc0 : Nat), e = .returned (.tuple #[.agg #[.slice ro0 (sndN n g0 g1 g2 g3) rc0, .int .i64 0], .bool (sndOkB n g0 g1 g2 g3)]) ∧ HS ⟨w, fun _ => False⟩ [.row ⟨true, ro0, 3, 1, sndN n g0 g1 g2 g3, rc0, [fun i => .int (fr g0 g1 g2 g3 i)]⟩] w' := by
  refine fn_ok mixed (E := { tb := [(45, sFrame)], L := [(5, ssndIL lo n lc g0 g1 g2 g3)] }) ⟨sFrame_ok_frameI, trivial⟩ Try.func23 (one_loop (by kernel_rfl) (by kernel_rfl) (ssndIL_ok lo n lc g0 g1 g2 g3 _)) (@Eq.mpr _ _ (senderNewI_T lo n lc g0 g1 g2 g3) ?_) (HS.rows (fun _ => False) [⟨false, lo, 0, 4, n, 0, [fun i => .int (g0 i), fun i => .int (g1 i), fun i => .int (g2 i), fun i => .int (g3 i)]⟩] (by simpa using hr)) (fun v ch' w' ⟨ro, rc, hk⟩ hs => ⟨ro, rc, by rw [hk.1], hk.hs hs⟩)
  clear hr
  by_cases h40 : n ≤ 40
  · cases ha : allB n (frP g0 g1 g2 g3)
    · have hok : sndOkB n g0 g1 g2 g3 = false := by simp [sndOkB, ha]
      have h0 : sndN n g0 g1 g2 g3 = 0 := by simp [sndN, hok]
      rw [hok, h0]
      repeat' (first
        | with_reducible exact rfl
        | exact True.intro
        | with_reducible assumption
        | refine And.intro ?_ ?_
        | apply Exists.intro
        | (intro h; exfalso; simp [ha] at h; done)
        | (intro h; exfalso; simp [ha] at h; omega)
        | intro _
        | omega
        | (simp; omega))
      all_goals (first | (exfalso; simp_all; done) | (simp_all; done) | trace_state)
    · have hok : sndOkB n g0 g1 g2 g3 = true := by simp [sndOkB, ha, h40]
      have h0 : sndN n g0 g1 g2 g3 = n := by simp [sndN, hok]
      rw [hok, h0]
      repeat' (first
        | with_reducible exact rfl
        | exact True.intro
        | with_reducible assumption
        | refine And.intro ?_ ?_
        | apply Exists.intro
        | (intro h; exfalso; simp [ha] at h; done)
        | (intro h; exfalso; simp [ha] at h; omega)
        | intro _
        | omega
        | (simp; omega))
      all_goals (first | (exfalso; simp_all; done) | (simp_all; done) | trace_state)
  · have hok : sndOkB n g0 g1 g2 g3 = false := by simp [sndOkB, h40]
    have h0 : sndN n g0 g1 g2 g3 = 0 := by simp [sndN, hok]
    rw [hok, h0]
    repeat' (first
      | with_reducible exact rfl
      | exact True.intro
      | with_reducible assumption
      | refine And.intro ?_ ?_
      | apply Exists.intro
      | (intro h; exfalso; simp [h40] at h; done)
      | (intro h; exfalso; simp [h40] at h; omega)
      | intro _
      | omega
      | (simp; omega))
    all_goals (first | (exfalso; simp_all; omega) | (simp_all; done) | trace_state)
def ssndSL (lo : Option Addr) (n lc : Nat) (g0 g1 g2 g3 : Nat → Int) : LSm := fun ts ch kk => len40 n ∧ ∃ pb pc, ssndS lo n lc g0 g1 g2 g3 pb pc ts ch kk
theorem ssndSL_ok (lo : Option Addr) (n lc : Nat) (g0 g1 g2 g3 : Nat → Int) (X : Cx) : LoopOK Try.prog X (theLoop Try.f27 0) (ssndSL lo n lc g0 g1 g2 g3) := by
  rintro ts ch kk a w ⟨hn, pb, pc, hS⟩ hT hd hs
  exact sndS_ok lo n lc g0 g1 g2 g3 pb pc hn X ts ch kk a w hS hT hd hs
theorem senderNewS_T (lo : Option Addr) (n lc : Nat) (g0 g1 g2 g3 : Nat → Int) : (exFn Try.prog { tb := [(57, sFrame)], L := [(5, ssndSL lo n lc g0 g1 g2 g3)] } 400 Try.f27 ([.a (.c (.sl 0 lo n lc))]) ([.row ⟨false, lo, 0, 4, n, 0, [fun i => .int (g0 i), fun i => .int (g1 i), fun i => .int (g2 i), fun i => .int (g3 i)]⟩]) (fun v ch => ∃ (ro0 : Option Addr) (rc0 : Nat), OutR v ch (.tuple #[.agg #[.slice ro0 (sndN n g0 g1 g2 g3) rc0, .int .i64 0], .bool (sndOkB n g0 g1 g2 g3)]) [.row ⟨true, ro0, 3, 1, sndN n g0 g1 g2 g3, rc0, [fun i => .int (fr g0 g1 g2 g3 i)]⟩])) = (
  (∀ b0 : Nat,
  (∀ b1 : Nat,
  (b1 = b1 ∧
  (((decide (((n : Nat) : Int) > (40 : Int))) = Bool.true →
  (b1 = b1 ∧
   (b0 = b0 ∧
   (b0 = b0 ∧
   (Exists (fun (ro02 : (Option Addr)) => (Exists (fun (rc03 : Nat) => ((Value.tuple (List.toArray [(Value.agg (List.toArray [(Value.slice Option.none 0 0), (Value.int IntKind.i64 (0 : Int))])), (Value.bool Bool.false)])) = (Value.tuple (List.toArray [(Value.agg (List.toArray [(Value.slice ro02 (sndN n g0 g1 g2 g3) rc03), (Value.int IntKind.i64 (0 : Int))])), (Value.bool (sndOkB n g0 g1 g2 g3))])) ∧
   (((Bool.true = Bool.true ∧
   (Option.none = ro02 ∧
   (0 = (sndN n g0 g1 g2 g3) ∧
   (0 = rc03 ∧
   Bool.true = Bool.true)))) ∧
   True) ∧
   Bool.true = Bool.true)))))))))) ∧
  ((decide (((n : Nat) : Int) > (40 : Int))) = Bool.false →
  ((len40 n) ∧
   (Exists (fun (pb4 : Nat) => (Exists (fun (pc5 : Nat) => (([(Value.slice lo n lc), (Value.tuple (List.toArray [])), (Value.pointer (Option.some (Addr.mk b0 0 Option.none))), (Value.bool Bool.false), (Value.pointer (Option.some (Addr.mk b1 0 Option.none))), (Value.int IntKind.i64 (0 : Int)), (Value.tuple (List.toArray [])), (Value.agg (List.toArray [(Value.slice Option.none 0 0), (Value.int IntKind.i64 (0 : Int))])), (Value.slice lo n lc), (Value.int IntKind.i64 ((n : Nat) : Int)), (Value.bool Bool.false), (Value.tuple (List.toArray [])), (Value.tuple (List.toArray [])), (Value.tuple (List.toArray [])), (Value.tuple (List.toArray [])), (Value.tuple (List.toArray [])), (Value.tuple (List.toArray [])), (Value.tuple (List.toArray [])), (Value.tuple (List.toArray [])), (Value.tuple (List.toArray [])), (Value.tuple (List.toArray [])), (Value.tuple (List.toArray [])), (Value.tuple (List.toArray [])), (Value.tuple (List.toArray [])), (Value.tuple (List.toArray [])), (Value.tuple (List.toArray [])), (Value.tuple (List.toArray [])), (Value.tuple (List.toArray [])), (Value.tuple (List.toArray [])), (Value.tuple (List.toArray [])), (Value.tuple (List.toArray [])), (Value.tuple (List.toArray [])), (Value.tuple (List.toArray []))] = [(Value.slice lo n lc), (Value.tuple (List.toArray [])), (Value.pointer (Option.some (Addr.mk pb4 0 Option.none))), (Value.bool Bool.false), (Value.pointer (Option.some (Addr.mk pc5 0 Option.none))), (Value.int IntKind.i64 (0 : Int)), (Value.tuple (List.toArray [])), (Value.agg (List.toArray [(Value.slice Option.none 0 0), (Value.int IntKind.i64 (0 : Int))])), (Value.slice lo n lc), (Value.int IntKind.i64 ((n : Nat) : Int)), (Value.bool Bool.false), (Value.tuple (List.toArray [])), (Value.tuple (List.toArray [])), (Value.tuple (List.toArray [])), (Value.tuple (List.toArray [])), (Value.tuple (List.toArray [])), (Value.tuple (List.toArray [])), (Value.tuple (List.toArray [])), (Value.tuple (List.toArray [])), (Value.tuple (List.toArray [])), (Value.tuple (List.toArray [])), (Value.tuple (List.toArray [])), (Value.tuple (List.toArray [])), (Value.tuple (List.toArray [])), (Value.tuple (List.toArray [])), (Value.tuple (List.toArray [])), (Value.tuple (List.toArray [])), (Value.tuple (List.toArray [])), (Value.tuple (List.toArray [])), (Value.tuple (List.toArray [])), (Value.tuple (List.toArray [])), (Value.tuple (List.toArray [])), (Value.tuple (List.toArray []))] ∧
   [(Ch.row (Row.mk Bool.false lo 0 4 n 0 [(fun (i6 : Nat) => (SC.int (g0 i6))), (fun (i7 : Nat) => (SC.int (g1 i7))), (fun (i8 : Nat) => (SC.int (g2 i8))), (fun (i9 : Nat) => (SC.int (g3 i9)))])), (Ch.cells b0 26 [SC.nil, (SC.il (0 : Int))]), (Ch.cells b1 26 [SC.nil, (SC.il (0 : Int))])] = [(Ch.row (Row.mk Bool.false lo 0 4 n 0 [(fun (i10 : Nat) => (SC.int (g0 i10))), (fun (i11 : Nat) => (SC.int (g1 i11))), (fun (i12 : Nat) => (SC.int (g2 i12))), (fun (i13 : Nat) => (SC.int (g3 i13)))])), (Ch.cells pb4 26 [SC.nil, (SC.il (0 : Int))]), (Ch.cells pc5 26 [SC.nil, (SC.il (0 : Int))])]) ∧
   ((∀ g14 : (Nat →
   Value),
   (∀ ao15 : (Option Addr),
   (∀ cap16 : Nat,
   ((allB n (frP g0 g1 g2 g3)) = Bool.true →
   (pc5 = pc5 ∧
    (pb4 = pb4 ∧
    (pb4 = pb4 ∧
    (Exists (fun (ro017 : (Option Addr)) => (Exists (fun (rc018 : Nat) => ((Value.tuple (List.toArray [(Value.agg (List.toArray [(Value.slice ao15 n cap16), (Value.int IntKind.i64 (0 : Int))])), (Value.bool Bool.true)])) = (Value.tuple (List.toArray [(Value.agg (List.toArray [(Value.slice ro017 (sndN n g0 g1 g2 g3) rc018), (Value.int IntKind.i64 (0 : Int))])), (Value.bool (sndOkB n g0 g1 g2 g3))])) ∧
    (((Bool.true = Bool.true ∧
    (ao15 = ro017 ∧
    (3 = 3 ∧
    (1 = 1 ∧
    (n = (sndN n g0 g1 g2 g3) ∧
    (cap16 = rc018 ∧
    ((∀ i19 : Nat,
    (i19 < n →
    (Value.int IntKind.i64 (fr g0 g1 g2 g3 i19)) = (Value.int IntKind.i64 (fr g0 g1 g2 g3 i19)))) ∧
    True))))))) ∧
    True) ∧
    Bool.true = Bool.true))))))))))))) ∧
   (∀ g20 : (Nat →
   Value),
   (∀ ao21 : (Option Addr),
   (∀ j22 : Nat,
   (∀ cap23 : Nat,
   ((allB n (frP g0 g1 g2 g3)) = Bool.false →
   (pb4 = pb4 ∧
    (Exists (fun (ro024 : (Option Addr)) => (Exists (fun (rc025 : Nat) => ((Value.tuple (List.toArray [(Value.agg (List.toArray [(Value.slice Option.none 0 0), (Value.int IntKind.i64 (0 : Int))])), (Value.bool Bool.false)])) = (Value.tuple (List.toArray [(Value.agg (List.toArray [(Value.slice ro024 (sndN n g0 g1 g2 g3) rc025), (Value.int IntKind.i64 (0 : Int))])), (Value.bool (sndOkB n g0 g1 g2 g3))])) ∧
    (((Bool.true = Bool.true ∧
    (Option.none = ro024 ∧
    (0 = (sndN n g0 g1 g2 g3) ∧
    (0 = rc025 ∧
    Bool.true = Bool.true)))) ∧
    True) ∧
    Bool.true = Bool.true))))))))))))))))))))))))) := by kernel_rfl
theorem senderNewS_any (lo : Option Addr) (n lc : Nat) (g0 g1 g2 g3 : Nat → Int) (w : World) (hr : Row.sat w ⟨false, lo, 0, 4, n, 0, [fun i => .int (g0 i), fun i => .int (g1 i), fun i => .int (g2 i), fun i => .int (g3 i)]⟩) (hn : n ≤ 9223372036854775807) : Calls Try.prog 27 #[.slice lo n lc] w fun e w' => ∃ (ro0 : Option Addr) (rc0 : Nat), e = .returned (.tuple #[.agg #[.slice ro0 (sndN n g0 g1 g2 g3) rc0, .int .i64 0], .bool (sndOkB n g0 g1 g2 g3)]) ∧ HS ⟨w, fun _ => False⟩ [.row ⟨true, ro0, 3, 1, sndN n g0 g1 g2 g3, rc0, [fun i => .int (fr g0 g1 g2 g3 i)]⟩] w' := by
  refine fn_ok mixed (E := { tb := [(57, sFrame)], L := [(5, ssndSL lo n lc g0 g1 g2 g3)] }) ⟨sFrame_ok_frameS, trivial⟩ Try.func27 (one_loop (by kernel_rfl) (by kernel_rfl) (ssndSL_ok lo n lc g0 g1 g2 g3 _)) (@Eq.mpr _ _ (senderNewS_T lo n lc g0 g1 g2 g3) ?_) (HS.rows (fun _ => False) [⟨false, lo, 0, 4, n, 0, [fun i => .int (g0 i), fun i => .int (g1 i), fun i => .int (g2 i), fun i => .int (g3 i)]⟩] (by simpa using hr)) (fun v ch' w' ⟨ro, rc, hk⟩ hs => ⟨ro, rc, by rw [hk.1], hk.hs hs⟩)
  clear hr
  by_cases h40 : n ≤ 40
  · cases ha : allB n (frP g0 g1 g2 g3)
    · have hok : sndOkB n g0 g1 g2 g3 = false := by simp [sndOkB, ha]
      have h0 : sndN n g0 g1 g2 g3 = 0 := by simp [sndN, hok]
      rw [hok, h0]
      repeat' (first
        | with_reducible exact rfl
        | exact True.intro
        | with_reducible assumption
        | refine And.intro ?_ ?_
        | apply Exists.intro
        | (intro h; exfalso; simp [ha] at h; done)
        | (intro h; exfalso; simp [ha] at h; omega)
        | intro _
        | omega
        | (simp; omega))
      all_goals (first | (exfalso; simp_all; done) | (simp_all; done) | trace_state)
    · have hok : sndOkB n g0 g1 g2 g3 = true := by simp [sndOkB, ha, h40]
      have h0 : sndN n g0 g1 g2 g3 = n := by simp [sndN, hok]
      rw [hok, h0]
      repeat' (first
        | with_reducible exact rfl
        | exact True.intro
        | with_reducible assumption
        | refine And.intro ?_ ?_
        | apply Exists.intro
        | (intro h; exfalso; simp [ha] at h; done)
        | (intro h; exfalso; simp [ha] at h; omega)
        | intro _
        | omega
        | (simp; omega))
      all_goals (first | (exfalso; simp_all; done) | (simp_all; done) | trace_state)
  · have hok : sndOkB n g0 g1 g2 g3 = false := by simp [sndOkB, h40]
    have h0 : sndN n g0 g1 g2 g3 = 0 := by simp [sndN, hok]
    rw [hok, h0]
    repeat' (first
      | with_reducible exact rfl
      | exact True.intro
      | with_reducible assumption
      | refine And.intro ?_ ?_
      | apply Exists.intro
      | (intro h; exfalso; simp [h40] at h; done)
      | (intro h; exfalso; simp [h40] at h; omega)
      | intro _
      | omega
      | (simp; omega))
    all_goals (first | (exfalso; simp_all; omega) | (simp_all; done) | trace_state)
end Go.Proofs.Ytkfinkolllpcgaa

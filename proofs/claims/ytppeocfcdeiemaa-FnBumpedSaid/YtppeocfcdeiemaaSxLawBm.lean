/-
  FnBumped.
-/
import Derived.Test.YtppeocfcdeiemaaSxBmp
import Derived.Test.YtppeocfcdeiemaaSxCode
namespace Go.Proofs.Ytppeocfcdeiemaa
set_option linter.unusedVariables false
set_option linter.unusedSimpArgs false
open Go.RowKit
set_option maxRecDepth 100000
set_option maxHeartbeats 8000000

def sBig : Sm := inlM Try.prog {tb := []} 300 Try.f9
theorem sBig_ok : SmOK Try.prog 9 sBig := inlM_ok mixed (E := {tb := []}) trivial Try.func9 Try.call9 (fun _ _ _ => loopsOK_nil _ _ _)
theorem law_FnBumped_T (co : Option Addr) (cn cc : Nat) (cu : Nat → Int) : (exFn Try.prog {tb := [(9, sBig), (10, sPlaces), (11, sTNewX)], L := [(6, sbo co cn cc cu)]} 400 Try.f3 ([.a (.c (.sl 0 co cn cc))]) ([.row ⟨false, co, 0, 1, cn, 0, [fun i => .u8 (cu i)]⟩]) (fun v _ => v.den = .bool true)) = (
  (((decide (((cn : Nat) : Int) > (1048576 : Int))) = Bool.true →
  (Value.bool Bool.true) = (Value.bool Bool.true)) ∧
  ((decide (((cn : Nat) : Int) > (1048576 : Int))) = Bool.false →
  (Exists (fun (u0 : (Nat →
   Int)) => (((co = co ∧
   (cn = cn ∧
   [(fun (i1 : Nat) => (SC.u8 (cu i1)))] = [(fun (i2 : Nat) => (SC.u8 (u0 i2)))])) ∧
   (codeC cn u0)) ∧
   (∀ p3 : (Nat →
   Int),
   (∀ ro04 : (Option Addr),
   (∀ rc05 : Nat,
   ((plC p3) →
   (ro04 = ro04 ∧
    (12 = 12 ∧
    ((0 ≤ (0 : Int) ∧ (0 : Int) < ((12 : Nat) : Int)) ∧
    (ro04 = ro04 ∧
    (0 < 12 ∧
    ((isW (p3 0)) = Bool.true ∧
    (∀ x6 : TrX,
    (∀ ro07 : (Option Addr),
    (∀ rc08 : Nat,
    (∀ ro19 : (Option Addr),
    (∀ rc110 : Nat,
    (((GoodX (p3 0) x6) ∧
    (x6).1 = (0 : Int)) →
    (∀ b11 : Nat,
     (b11 = b11 ∧
     (Exists (fun (po12 : (Option Addr)) => (Exists (fun (pc13 : Nat) => (Exists (fun (p14 : (Nat →
     Int)) => (Exists (fun (b415 : Nat) => (Exists (fun (ok16 : Bool) => (Exists (fun (x17 : TrX) => (Exists (fun (mo18 : (Option Addr)) => (Exists (fun (lo19 : (Option Addr)) => (Exists (fun (mc20 : Nat) => (Exists (fun (lc21 : Nat) => (([(Value.slice co cn cc), (Value.tuple (List.toArray [])), (Value.bool Bool.false), (Value.slice ro04 12 rc05), (Value.pointer (Option.some (Addr.mk b11 0 Option.none))), (Value.bool Bool.true), (Value.int IntKind.i64 (0 : Int)), (Value.tuple (List.toArray [])), (Value.tuple (List.toArray [])), (Value.tuple (List.toArray [])), (Value.tuple (List.toArray [])), (Value.tuple (List.toArray [])), (Value.tuple (List.toArray [])), (Value.tuple (List.toArray [])), (Value.tuple (List.toArray [])), (Value.slice co cn cc), (Value.bool Bool.false), (Value.slice co cn cc), (Value.slice ro04 12 rc05), (Value.tuple (List.toArray [(Value.agg (List.toArray [(Value.int IntKind.i64 (x6).1), (Value.slice ro07 2 rc08), (Value.slice ro19 8 rc110)])), (Value.bool Bool.true)])), (Value.slice ro04 12 rc05), (rptrV ro04 1 0 0), (Value.int IntKind.i64 (p3 0)), (Value.tuple (List.toArray [(Value.agg (List.toArray [(Value.int IntKind.i64 (x6).1), (Value.slice ro07 2 rc08), (Value.slice ro19 8 rc110)])), (Value.bool Bool.true)])), (Value.agg (List.toArray [(Value.int IntKind.i64 (x6).1), (Value.slice ro07 2 rc08), (Value.slice ro19 8 rc110)])), (Value.bool Bool.true), (Value.tuple (List.toArray [])), (Value.tuple (List.toArray [])), (Value.tuple (List.toArray [])), (Value.tuple (List.toArray [])), (Value.tuple (List.toArray [])), (Value.tuple (List.toArray [])), (Value.tuple (List.toArray [])), (Value.tuple (List.toArray [])), (Value.tuple (List.toArray [])), (Value.tuple (List.toArray [])), (Value.tuple (List.toArray [])), (Value.tuple (List.toArray [])), (Value.tuple (List.toArray [])), (Value.tuple (List.toArray [])), (Value.tuple (List.toArray [])), (Value.tuple (List.toArray [])), (Value.tuple (List.toArray [])), (Value.tuple (List.toArray [])), (Value.tuple (List.toArray [])), (Value.tuple (List.toArray [])), (Value.tuple (List.toArray [])), (Value.tuple (List.toArray [])), (Value.tuple (List.toArray [])), (Value.tuple (List.toArray [])), (Value.tuple (List.toArray [])), (Value.tuple (List.toArray [])), (Value.tuple (List.toArray [])), (Value.tuple (List.toArray [])), (Value.tuple (List.toArray [])), (Value.tuple (List.toArray [])), (Value.tuple (List.toArray [])), (Value.tuple (List.toArray [])), (Value.tuple (List.toArray [])), (Value.tuple (List.toArray [])), (Value.tuple (List.toArray [])), (Value.tuple (List.toArray [])), (Value.tuple (List.toArray [])), (Value.tuple (List.toArray [])), (Value.tuple (List.toArray [])), (Value.tuple (List.toArray [])), (Value.tuple (List.toArray [])), (Value.tuple (List.toArray [])), (Value.tuple (List.toArray [])), (Value.tuple (List.toArray [])), (Value.tuple (List.toArray [])), (Value.tuple (List.toArray [])), (Value.tuple (List.toArray [])), (Value.tuple (List.toArray [])), (Value.tuple (List.toArray [])), (Value.tuple (List.toArray [])), (Value.tuple (List.toArray [])), (Value.tuple (List.toArray [])), (Value.tuple (List.toArray [])), (Value.tuple (List.toArray [])), (Value.tuple (List.toArray [])), (Value.tuple (List.toArray [])), (Value.tuple (List.toArray [])), (Value.tuple (List.toArray [])), (Value.tuple (List.toArray [])), (Value.tuple (List.toArray [])), (Value.tuple (List.toArray [])), (Value.tuple (List.toArray [])), (Value.tuple (List.toArray [])), (Value.tuple (List.toArray [])), (Value.tuple (List.toArray [])), (Value.tuple (List.toArray [])), (Value.tuple (List.toArray [])), (Value.tuple (List.toArray [])), (Value.tuple (List.toArray [])), (Value.tuple (List.toArray [])), (Value.tuple (List.toArray [])), (Value.tuple (List.toArray [])), (Value.tuple (List.toArray [])), (Value.tuple (List.toArray [])), (Value.tuple (List.toArray [])), (Value.tuple (List.toArray [])), (Value.tuple (List.toArray [])), (Value.tuple (List.toArray [])), (Value.tuple (List.toArray [])), (Value.tuple (List.toArray [])), (Value.tuple (List.toArray [])), (Value.tuple (List.toArray [])), (Value.tuple (List.toArray [])), (Value.tuple (List.toArray [])), (Value.tuple (List.toArray [])), (Value.tuple (List.toArray [])), (Value.tuple (List.toArray [])), (Value.tuple (List.toArray []))] = [(Value.slice co cn cc), (Value.tuple (List.toArray [])), (Value.bool Bool.false), (Value.slice po12 12 pc13), (Value.pointer (Option.some (Addr.mk b415 0 Option.none))), (Value.bool ok16), (Value.int IntKind.i64 (0 : Int)), (Value.tuple (List.toArray [])), (Value.tuple (List.toArray [])), (Value.tuple (List.toArray [])), (Value.tuple (List.toArray [])), (Value.tuple (List.toArray [])), (Value.tuple (List.toArray [])), (Value.tuple (List.toArray [])), (Value.tuple (List.toArray [])), (Value.slice co cn cc), (Value.bool Bool.false), (Value.slice co cn cc), (Value.slice ro04 12 rc05), (Value.tuple (List.toArray [(Value.agg (List.toArray [(Value.int IntKind.i64 (x6).1), (Value.slice ro07 2 rc08), (Value.slice ro19 8 rc110)])), (Value.bool Bool.true)])), (Value.slice ro04 12 rc05), (rptrV ro04 1 0 0), (Value.int IntKind.i64 (p3 0)), (Value.tuple (List.toArray [(Value.agg (List.toArray [(Value.int IntKind.i64 (x6).1), (Value.slice ro07 2 rc08), (Value.slice ro19 8 rc110)])), (Value.bool Bool.true)])), (Value.agg (List.toArray [(Value.int IntKind.i64 (x6).1), (Value.slice ro07 2 rc08), (Value.slice ro19 8 rc110)])), (Value.bool Bool.true), (Value.tuple (List.toArray [])), (Value.tuple (List.toArray [])), (Value.tuple (List.toArray [])), (Value.tuple (List.toArray [])), (Value.tuple (List.toArray [])), (Value.tuple (List.toArray [])), (Value.tuple (List.toArray [])), (Value.tuple (List.toArray [])), (Value.tuple (List.toArray [])), (Value.tuple (List.toArray [])), (Value.tuple (List.toArray [])), (Value.tuple (List.toArray [])), (Value.tuple (List.toArray [])), (Value.tuple (List.toArray [])), (Value.tuple (List.toArray [])), (Value.tuple (List.toArray [])), (Value.tuple (List.toArray [])), (Value.tuple (List.toArray [])), (Value.tuple (List.toArray [])), (Value.tuple (List.toArray [])), (Value.tuple (List.toArray [])), (Value.tuple (List.toArray [])), (Value.tuple (List.toArray [])), (Value.tuple (List.toArray [])), (Value.tuple (List.toArray [])), (Value.tuple (List.toArray [])), (Value.tuple (List.toArray [])), (Value.tuple (List.toArray [])), (Value.tuple (List.toArray [])), (Value.tuple (List.toArray [])), (Value.tuple (List.toArray [])), (Value.tuple (List.toArray [])), (Value.tuple (List.toArray [])), (Value.tuple (List.toArray [])), (Value.tuple (List.toArray [])), (Value.tuple (List.toArray [])), (Value.tuple (List.toArray [])), (Value.tuple (List.toArray [])), (Value.tuple (List.toArray [])), (Value.tuple (List.toArray [])), (Value.tuple (List.toArray [])), (Value.tuple (List.toArray [])), (Value.tuple (List.toArray [])), (Value.tuple (List.toArray [])), (Value.tuple (List.toArray [])), (Value.tuple (List.toArray [])), (Value.tuple (List.toArray [])), (Value.tuple (List.toArray [])), (Value.tuple (List.toArray [])), (Value.tuple (List.toArray [])), (Value.tuple (List.toArray [])), (Value.tuple (List.toArray [])), (Value.tuple (List.toArray [])), (Value.tuple (List.toArray [])), (Value.tuple (List.toArray [])), (Value.tuple (List.toArray [])), (Value.tuple (List.toArray [])), (Value.tuple (List.toArray [])), (Value.tuple (List.toArray [])), (Value.tuple (List.toArray [])), (Value.tuple (List.toArray [])), (Value.tuple (List.toArray [])), (Value.tuple (List.toArray [])), (Value.tuple (List.toArray [])), (Value.tuple (List.toArray [])), (Value.tuple (List.toArray [])), (Value.tuple (List.toArray [])), (Value.tuple (List.toArray [])), (Value.tuple (List.toArray [])), (Value.tuple (List.toArray [])), (Value.tuple (List.toArray [])), (Value.tuple (List.toArray [])), (Value.tuple (List.toArray [])), (Value.tuple (List.toArray [])), (Value.tuple (List.toArray [])), (Value.tuple (List.toArray [])), (Value.tuple (List.toArray [])), (Value.tuple (List.toArray [])), (Value.tuple (List.toArray [])), (Value.tuple (List.toArray [])), (Value.tuple (List.toArray [])), (Value.tuple (List.toArray [])), (Value.tuple (List.toArray [])), (Value.tuple (List.toArray [])), (Value.tuple (List.toArray [])), (Value.tuple (List.toArray [])), (Value.tuple (List.toArray [])), (Value.tuple (List.toArray []))] ∧
     ([(Ch.row (Row.mk Bool.false co 0 1 cn 0 [(fun (i22 : Nat) => (SC.u8 (cu i22)))])), (Ch.row (Row.mk Bool.true ro04 3 1 12 rc05 [(fun (i23 : Nat) => (SC.int (p3 i23)))])), (Ch.row (Row.mk Bool.true ro07 37 2 2 rc08 [(fun (i24 : Nat) => (SC.int ((x6).2 i24))), (fun (i25 : Nat) => (SC.int ((x6).3 i25)))])), (Ch.row (Row.mk Bool.true ro19 37 2 8 rc110 [(fun (i26 : Nat) => (SC.int ((x6).4 i26))), (fun (i27 : Nat) => (SC.int ((x6).5 i27)))])), (Ch.cells b11 28 [(SC.int (x6).1), (SC.sl 2 ro07 2 rc08), (SC.sl 3 ro19 8 rc110)])] = [(Ch.row (Row.mk Bool.false co 0 1 cn 0 [(fun (i28 : Nat) => (SC.u8 (cu i28)))])), (Ch.row (Row.mk Bool.true po12 3 1 12 pc13 [(fun (i29 : Nat) => (SC.int (p14 i29)))])), (Ch.row (Row.mk Bool.true mo18 37 2 2 mc20 [(fun (i30 : Nat) => (SC.int ((x17).2 i30))), (fun (i31 : Nat) => (SC.int ((x17).3 i31)))])), (Ch.row (Row.mk Bool.true lo19 37 2 8 lc21 [(fun (i32 : Nat) => (SC.int ((x17).4 i32))), (fun (i33 : Nat) => (SC.int ((x17).5 i33)))])), (Ch.cells b415 28 [(SC.int (x17).1), (SC.sl 2 mo18 2 mc20), (SC.sl 3 lo19 8 lc21)])] ∧
     ((GoodX (p14 0) x17) ∧
     ((x17).1 = (0 : Int) ∧
     (plC p14))))) ∧
     (∀ g34 : (Nat →
     Value),
     (∀ kx35 : Int,
     (∀ x36 : TrX,
     (∀ mo37 : (Option Addr),
     (∀ lo38 : (Option Addr),
     (∀ mc39 : Nat,
     (∀ lc40 : Nat,
     (Value.bool ok16) = (Value.bool Bool.true))))))))))))))))))))))))))))))))))))))))))))))))))))) := by kernel_rfl
theorem law_FnBumped_any (co : Option Addr) (cn cc : Nat) (cu : Nat → Int) (W : World) (hr : Row.sat W ⟨false, co, 0, 1, cn, 0, [fun i => .u8 (cu i)]⟩) (hu : ∀ i, 0 ≤ cu i ∧ cu i ≤ 255) : Calls Try.prog 3 #[.slice co cn cc] W fun e W' => e = .returned (.bool true) ∧ Below W.heap.size W W' := by
  refine fn_ok mixed (E := {tb := [(9, sBig), (10, sPlaces), (11, sTNewX)], L := [(6, sbo co cn cc cu)]}) ⟨sBig_ok, sPlaces_ok, sTNewX_I, trivial⟩ Try.func3 (first_loop (rest := [13]) (by kernel_rfl) (by simp) (bo_ok co cn cc cu _)) (@Eq.mpr _ _ (law_FnBumped_T co cn cc cu) ?_) (HS.rows (fun _ => False) [⟨false, co, 0, 1, cn, 0, [fun i => .u8 (cu i)]⟩] (by simpa using hr)) (fun v ch' w' hk hs => ⟨by rw [hk], hs.below⟩)
  clear hr
  by_cases hle : cn ≤ 1048576
  · have hcode : codeC cn cu := ⟨hle, hu⟩
    refine ⟨fun h => by exfalso; replace h := of_decide_eq_true h; omega, fun h => ?_⟩
    clear h
    refine ⟨cu, ⟨⟨rfl, rfl, rfl⟩, hcode⟩, ?_⟩
    intro p ro rc hp
    have hw : isW (p 0) = true := btw_yes (by have h1 := hp 0; have e : isub 10000 1 = 9999 := rfl; have h2 := h1.1; have h3 := h1.2; omega)
    repeat' (first
      | with_reducible exact rfl
      | exact True.intro
      | with_reducible assumption
      | refine And.intro ?_ ?_
      | apply Exists.intro
      | (intro (h : _ ∧ _); obtain ⟨_, _⟩ := h)
      | intro _
      | omega)
    all_goals trace_state
  · refine ⟨fun _ => rfl, fun h => ?_⟩
    replace h := of_decide_eq_false h
    exfalso
    omega
theorem walk_FnBumped (ao : Option Addr) (len cap : Nat) (w : World) (h : Has w (.slice .u8) [.slice ao len cap]) : Calls Try.prog 3 #[.slice ao len cap] w fun e w' => e = .returned (.bool true) ∧ Below w.heap.size w w' := by
  obtain ⟨u, hu, hr⟩ := row_u8_of_has h
  exact law_FnBumped_any ao len cap u w hr hu
end Go.Proofs.Ytppeocfcdeiemaa

/-
  Shares checked.
-/
import Derived.Test.YtlkklplnomecgaaSxShare
namespace Go.Proofs.Ytlkklplnomecgaa
set_option linter.unusedVariables false
set_option linter.unusedSimpArgs false
open Go.RowKit
set_option maxRecDepth 100000
set_option maxHeartbeats 8000000

def shB (n : Nat) (g0 g1 : Nat → Int) : Bool := allB n (fun j => btw (g0 j) 1 9 && btw (g1 j) 0 (g0 j)) && btw (n : Int) 1 4
theorem shOkI_T (ao : Option Addr) (n c : Nat) (g0 g1 : Nat → Int) : (exFn Try.prog {tb := [(60, sBtw)], L := [(2, sshOkI ao n c g0 g1)]} 400 Try.f98 ([.a (.c (.sl 0 ao n c))]) ([.row ⟨false, ao, 0, 2, n, 0, [fun i => .int (g0 i), fun i => .int (g1 i)]⟩]) (fun v _ => v.den = .bool (shB n g0 g1))) = (
  (([(Value.slice ao n c), (Value.tuple (List.toArray [])), (Value.bool Bool.false), (Value.tuple (List.toArray [])), (Value.tuple (List.toArray [])), (Value.slice ao n c), (Value.int IntKind.i64 ((n : Nat) : Int)), (Value.int IntKind.i64 (0 : Int)), (Value.tuple (List.toArray [])), (Value.tuple (List.toArray [])), (Value.tuple (List.toArray [])), (Value.tuple (List.toArray [])), (Value.tuple (List.toArray [])), (Value.tuple (List.toArray [])), (Value.tuple (List.toArray [])), (Value.tuple (List.toArray [])), (Value.tuple (List.toArray [])), (Value.tuple (List.toArray [])), (Value.tuple (List.toArray [])), (Value.tuple (List.toArray [])), (Value.tuple (List.toArray [])), (Value.tuple (List.toArray [])), (Value.tuple (List.toArray [])), (Value.tuple (List.toArray [])), (Value.tuple (List.toArray [])), (Value.tuple (List.toArray [])), (Value.tuple (List.toArray []))] = [(Value.slice ao n c), (Value.tuple (List.toArray [])), (Value.bool Bool.false), (Value.tuple (List.toArray [])), (Value.tuple (List.toArray [])), (Value.slice ao n c), (Value.int IntKind.i64 ((n : Nat) : Int)), (Value.int IntKind.i64 (0 : Int)), (Value.tuple (List.toArray [])), (Value.tuple (List.toArray [])), (Value.tuple (List.toArray [])), (Value.tuple (List.toArray [])), (Value.tuple (List.toArray [])), (Value.tuple (List.toArray [])), (Value.tuple (List.toArray [])), (Value.tuple (List.toArray [])), (Value.tuple (List.toArray [])), (Value.tuple (List.toArray [])), (Value.tuple (List.toArray [])), (Value.tuple (List.toArray [])), (Value.tuple (List.toArray [])), (Value.tuple (List.toArray [])), (Value.tuple (List.toArray [])), (Value.tuple (List.toArray [])), (Value.tuple (List.toArray [])), (Value.tuple (List.toArray [])), (Value.tuple (List.toArray []))] ∧
  [(Ch.row (Row.mk Bool.false ao 0 2 n 0 [(fun (i0 : Nat) => (SC.int (g0 i0))), (fun (i1 : Nat) => (SC.int (g1 i1)))]))] = [(Ch.row (Row.mk Bool.false ao 0 2 n 0 [(fun (i2 : Nat) => (SC.int (g0 i2))), (fun (i3 : Nat) => (SC.int (g1 i3)))]))]) ∧
  ((∀ g4 : (Nat →
  Value),
  ((allB n (shOkIP ao n c g0 g1)) = Bool.true →
  (Value.bool (btw ((n : Nat) : Int) (1 : Int) (4 : Int))) = (Value.bool (shB n g0 g1)))) ∧
  (∀ g5 : (Nat →
  Value),
  ((allB n (shOkIP ao n c g0 g1)) = Bool.false →
  (Value.bool Bool.false) = (Value.bool (shB n g0 g1))))))) := by kernel_rfl
theorem shOkI_any (ao : Option Addr) (n c : Nat) (g0 g1 : Nat → Int) (w : World) (hn : n ≤ 9223372036854775807) (h : Row.sat w ⟨false, ao, 0, 2, n, 0, [fun i => .int (g0 i), fun i => .int (g1 i)]⟩) : Calls Try.prog 98 #[.slice ao n c] w fun e w' => e = .returned (.bool (shB n g0 g1)) ∧ Below w.heap.size w w' := by
  refine fn_ok mixed (E := { tb := [(60, sBtw)], L := [(2, sshOkI ao n c g0 g1)] }) ⟨sBtwI_ok, trivial⟩ Try.func98 (one_loop (by kernel_rfl) (by kernel_rfl) (shOkI_ok ao n c g0 g1 hn _)) ((shOkI_T ao n c g0 g1).mpr ?_) (HS.rows (fun _ => False) [⟨false, ao, 0, 2, n, 0, [fun i => .int (g0 i), fun i => .int (g1 i)]⟩] (by simpa using h)) (fun v ch' w' hv hs => ⟨by rw [hv], hs.below⟩)
  refine ⟨⟨rfl, rfl⟩, ?_, ?_⟩
  · intro g hg
    repeat' (first | exact rfl | refine And.intro ?_ ?_)
    have : allB n (fun j => btw (g0 j) 1 9 && btw (g1 j) 0 (g0 j)) = true := hg
    simp [shB, this]
  · intro g hg
    repeat' (first | exact rfl | refine And.intro ?_ ?_)
    have : allB n (fun j => btw (g0 j) 1 9 && btw (g1 j) 0 (g0 j)) = false := hg
    simp [shB, this]
theorem shOkS_T (ao : Option Addr) (n c : Nat) (g0 g1 : Nat → Int) : (exFn Try.prog {tb := [(59, sBtw)], L := [(2, sshOkS ao n c g0 g1)]} 400 Try.f97 ([.a (.c (.sl 0 ao n c))]) ([.row ⟨false, ao, 0, 2, n, 0, [fun i => .int (g0 i), fun i => .int (g1 i)]⟩]) (fun v _ => v.den = .bool (shB n g0 g1))) = (
  (([(Value.slice ao n c), (Value.tuple (List.toArray [])), (Value.bool Bool.false), (Value.int IntKind.i64 (0 : Int)), (Value.tuple (List.toArray [])), (Value.tuple (List.toArray [])), (Value.tuple (List.toArray [])), (Value.tuple (List.toArray [])), (Value.tuple (List.toArray [])), (Value.tuple (List.toArray [])), (Value.tuple (List.toArray [])), (Value.tuple (List.toArray [])), (Value.tuple (List.toArray [])), (Value.tuple (List.toArray [])), (Value.tuple (List.toArray [])), (Value.tuple (List.toArray [])), (Value.tuple (List.toArray [])), (Value.tuple (List.toArray [])), (Value.tuple (List.toArray [])), (Value.tuple (List.toArray [])), (Value.tuple (List.toArray [])), (Value.tuple (List.toArray [])), (Value.tuple (List.toArray [])), (Value.tuple (List.toArray [])), (Value.tuple (List.toArray [])), (Value.tuple (List.toArray [])), (Value.tuple (List.toArray [])), (Value.tuple (List.toArray [])), (Value.tuple (List.toArray [])), (Value.tuple (List.toArray [])), (Value.tuple (List.toArray [])), (Value.tuple (List.toArray [])), (Value.tuple (List.toArray [])), (Value.tuple (List.toArray []))] = [(Value.slice ao n c), (Value.tuple (List.toArray [])), (Value.bool Bool.false), (Value.int IntKind.i64 (0 : Int)), (Value.tuple (List.toArray [])), (Value.tuple (List.toArray [])), (Value.tuple (List.toArray [])), (Value.tuple (List.toArray [])), (Value.tuple (List.toArray [])), (Value.tuple (List.toArray [])), (Value.tuple (List.toArray [])), (Value.tuple (List.toArray [])), (Value.tuple (List.toArray [])), (Value.tuple (List.toArray [])), (Value.tuple (List.toArray [])), (Value.tuple (List.toArray [])), (Value.tuple (List.toArray [])), (Value.tuple (List.toArray [])), (Value.tuple (List.toArray [])), (Value.tuple (List.toArray [])), (Value.tuple (List.toArray [])), (Value.tuple (List.toArray [])), (Value.tuple (List.toArray [])), (Value.tuple (List.toArray [])), (Value.tuple (List.toArray [])), (Value.tuple (List.toArray [])), (Value.tuple (List.toArray [])), (Value.tuple (List.toArray [])), (Value.tuple (List.toArray [])), (Value.tuple (List.toArray [])), (Value.tuple (List.toArray [])), (Value.tuple (List.toArray [])), (Value.tuple (List.toArray [])), (Value.tuple (List.toArray []))] ∧
  [(Ch.row (Row.mk Bool.false ao 0 2 n 0 [(fun (i0 : Nat) => (SC.int (g0 i0))), (fun (i1 : Nat) => (SC.int (g1 i1)))]))] = [(Ch.row (Row.mk Bool.false ao 0 2 n 0 [(fun (i2 : Nat) => (SC.int (g0 i2))), (fun (i3 : Nat) => (SC.int (g1 i3)))]))]) ∧
  ((∀ g4 : (Nat →
  Value),
  ((allB n (shOkSP ao n c g0 g1)) = Bool.true →
  (Value.bool (btw ((n : Nat) : Int) (1 : Int) (4 : Int))) = (Value.bool (shB n g0 g1)))) ∧
  (∀ g5 : (Nat →
  Value),
  ((allB n (shOkSP ao n c g0 g1)) = Bool.false →
  (Value.bool Bool.false) = (Value.bool (shB n g0 g1))))))) := by kernel_rfl
theorem shOkS_any (ao : Option Addr) (n c : Nat) (g0 g1 : Nat → Int) (w : World) (hn : n ≤ 9223372036854775807) (h : Row.sat w ⟨false, ao, 0, 2, n, 0, [fun i => .int (g0 i), fun i => .int (g1 i)]⟩) : Calls Try.prog 97 #[.slice ao n c] w fun e w' => e = .returned (.bool (shB n g0 g1)) ∧ Below w.heap.size w w' := by
  refine fn_ok mixed (E := { tb := [(59, sBtw)], L := [(2, sshOkS ao n c g0 g1)] }) ⟨sBtwS_ok, trivial⟩ Try.func97 (one_loop (by kernel_rfl) (by kernel_rfl) (shOkS_ok ao n c g0 g1 hn _)) ((shOkS_T ao n c g0 g1).mpr ?_) (HS.rows (fun _ => False) [⟨false, ao, 0, 2, n, 0, [fun i => .int (g0 i), fun i => .int (g1 i)]⟩] (by simpa using h)) (fun v ch' w' hv hs => ⟨by rw [hv], hs.below⟩)
  refine ⟨⟨rfl, rfl⟩, ?_, ?_⟩
  · intro g hg
    repeat' (first | exact rfl | refine And.intro ?_ ?_)
    have : allB n (fun j => btw (g0 j) 1 9 && btw (g1 j) 0 (g0 j)) = true := hg
    simp [shB, this]
  · intro g hg
    repeat' (first | exact rfl | refine And.intro ?_ ?_)
    have : allB n (fun j => btw (g0 j) 1 9 && btw (g1 j) 0 (g0 j)) = false := hg
    simp [shB, this]
def sShOk : Sm := fun args ch k =>
  match args with
  | [.a (.c x)] => rd2 ch x fun n g0 g1 => lenC n ∧ k (.a (.c (.bool (shB n g0 g1)))) ch []
  | _ => False
theorem sShOk_I : SmOK Try.prog 98 sShOk := by
  refine smB Try.call98 fun args ch k w X h0 hs => ?_
  unfold sShOk at h0
  split at h0
  · obtain ⟨ao, n, c, g0, g1, em, hr, hn, h0⟩ := rd2_ok h0 hs
    refine ⟨_, h0, ?_⟩
    simp only [List.map_cons, List.map_nil, den_a, den_c, em]
    exact shOkI_any ao n c g0 g1 w hn hr
  · exact h0.elim
theorem sShOk_S : SmOK Try.prog 97 sShOk := by
  refine smB Try.call97 fun args ch k w X h0 hs => ?_
  unfold sShOk at h0
  split at h0
  · obtain ⟨ao, n, c, g0, g1, em, hr, hn, h0⟩ := rd2_ok h0 hs
    refine ⟨_, h0, ?_⟩
    simp only [List.map_cons, List.map_nil, den_a, den_c, em]
    exact shOkS_any ao n c g0 g1 w hn hr
  · exact h0.elim
end Go.Proofs.Ytlkklplnomecgaa

/-
  No cell of these rows narrows 'for every input' (looked for: loops, veiled, ifaces, maps, wideKeys, modest, calm, conditions, laid).
  DERIVED. THE GIVEN ROWS OF THIS SEAT. 7 by the template 'for every input the law returns true; each argument reads behind the call as it read before'; 0 by the template 'total and deterministic' (their statements: YtddeinpnadfgmaaTotals.lean).
  GIVEN WITH THE SEED: the statements are not yours to turn. If you find one false, say at which input.
  Laid BY PROGRAM, IN A SANDBOX (cutbox-rows.mjs): the forced cells as the released guide's own fill.sh prints them over the translation d4efce4aefd4b67c… (all of the seat's roots in one cut). By AI agents, Wed Nov 11 2026. No macro, syntax, notation, axiom, sorry.
-/
import Derived.Test.YtddeinpnadfgmaaChecked
import GoSem.Claim
import GoSem.ClaimJoined
import GoSem.ClaimMapViews
import Derived.JoinedTies
import Derived.KernelRfl
namespace Go.Proofs.Ytddeinpnadfgmaa
/- THE CELL 'sum', in the pinned program and in every row, IS THE sha256 OF THE DUMP (.gsa) THAT YtddeinpnadfgmaaProg.lean LOADS. Nothing in Lean hashes anything: it is a label: what it is worth is what the hold of that sum in a sandbox is worth. -/
noncomputable def Try.pinned : Pinned := { name := "ytddeinpnadfgmaa", sum := "d4efce4aefd4b67ca2f25e0ad8fc6e35b79dcc8afbadcb3d0bd5cb79cfc88053", checked := Try.checked }
namespace Rows
def none {H : Type} : Left H := { results := [], args := [] }

/-- 'laws.FnExactMoveStep': WHATEVER THE INPUT: true; the input reads as it did. -/
def fnExactMoveStepSpec : ChangeSpec := { name := "fnExactMoveStep", fn := fun _ => fun
  | [d1, d2, d3] => { results := [.lit (.bool true)], args := [d1, d2, d3] }
  | _ => none }
def fnExactMoveStepRow : OpenClaim := { program := "ytddeinpnadfgmaa", sum := "d4efce4aefd4b67ca2f25e0ad8fc6e35b79dcc8afbadcb3d0bd5cb79cfc88053", func := "loop.example/g00977/laws.FnExactMoveStep", spec := "fnExactMoveStep", apart := false }
def FnExactMoveStepSaid : Prop := fnExactMoveStepRow.holds Try.pinned (OpenSpec.ofChange fnExactMoveStepSpec)

/-- ITS FALSE NEIGHBOUR: 'it returns false'. Refute it at one input. -/
def fnExactMoveStepWrong : ChangeSpec := { name := "fnExactMoveStep", fn := fun _ => fun
  | [d1, d2, d3] => { results := [.lit (.bool false)], args := [d1, d2, d3] }
  | _ => none }
def FnExactMoveStepWrongFalsely : Prop := fnExactMoveStepRow.holds Try.pinned (OpenSpec.ofChange fnExactMoveStepWrong)

/-- 'laws.FnExactScrubCommit': WHATEVER THE INPUT: true; the input reads as it did. -/
def fnExactScrubCommitSpec : ChangeSpec := { name := "fnExactScrubCommit", fn := fun _ => fun
  | [d1, d2, d3] => { results := [.lit (.bool true)], args := [d1, d2, d3] }
  | _ => none }
def fnExactScrubCommitRow : OpenClaim := { program := "ytddeinpnadfgmaa", sum := "d4efce4aefd4b67ca2f25e0ad8fc6e35b79dcc8afbadcb3d0bd5cb79cfc88053", func := "loop.example/g00977/laws.FnExactScrubCommit", spec := "fnExactScrubCommit", apart := false }
def FnExactScrubCommitSaid : Prop := fnExactScrubCommitRow.holds Try.pinned (OpenSpec.ofChange fnExactScrubCommitSpec)

/-- ITS FALSE NEIGHBOUR: 'it returns false'. Refute it at one input. -/
def fnExactScrubCommitWrong : ChangeSpec := { name := "fnExactScrubCommit", fn := fun _ => fun
  | [d1, d2, d3] => { results := [.lit (.bool false)], args := [d1, d2, d3] }
  | _ => none }
def FnExactScrubCommitWrongFalsely : Prop := fnExactScrubCommitRow.holds Try.pinned (OpenSpec.ofChange fnExactScrubCommitWrong)

/-- 'laws.FnExactMovePut': WHATEVER THE INPUT: true; the input reads as it did. -/
def fnExactMovePutSpec : ChangeSpec := { name := "fnExactMovePut", fn := fun _ => fun
  | [d1, d2, d3, d4, d5] => { results := [.lit (.bool true)], args := [d1, d2, d3, d4, d5] }
  | _ => none }
def fnExactMovePutRow : OpenClaim := { program := "ytddeinpnadfgmaa", sum := "d4efce4aefd4b67ca2f25e0ad8fc6e35b79dcc8afbadcb3d0bd5cb79cfc88053", func := "loop.example/g00977/laws.FnExactMovePut", spec := "fnExactMovePut", apart := false }
def FnExactMovePutSaid : Prop := fnExactMovePutRow.holds Try.pinned (OpenSpec.ofChange fnExactMovePutSpec)

/-- ITS FALSE NEIGHBOUR: 'it returns false'. Refute it at one input. -/
def fnExactMovePutWrong : ChangeSpec := { name := "fnExactMovePut", fn := fun _ => fun
  | [d1, d2, d3, d4, d5] => { results := [.lit (.bool false)], args := [d1, d2, d3, d4, d5] }
  | _ => none }
def FnExactMovePutWrongFalsely : Prop := fnExactMovePutRow.holds Try.pinned (OpenSpec.ofChange fnExactMovePutWrong)

/-- 'laws.FnScrubRace': WHATEVER THE INPUT: true; the input reads as it did. -/
def fnScrubRaceSpec : ChangeSpec := { name := "fnScrubRace", fn := fun _ => fun
  | [d] => { results := [.lit (.bool true)], args := [d] }
  | _ => none }
def fnScrubRaceRow : OpenClaim := { program := "ytddeinpnadfgmaa", sum := "d4efce4aefd4b67ca2f25e0ad8fc6e35b79dcc8afbadcb3d0bd5cb79cfc88053", func := "loop.example/g00977/laws.FnScrubRace", spec := "fnScrubRace", apart := false }
def FnScrubRaceSaid : Prop := fnScrubRaceRow.holds Try.pinned (OpenSpec.ofChange fnScrubRaceSpec)

/-- ITS FALSE NEIGHBOUR: 'it returns false'. Refute it at one input. -/
def fnScrubRaceWrong : ChangeSpec := { name := "fnScrubRace", fn := fun _ => fun
  | [d] => { results := [.lit (.bool false)], args := [d] }
  | _ => none }
def FnScrubRaceWrongFalsely : Prop := fnScrubRaceRow.holds Try.pinned (OpenSpec.ofChange fnScrubRaceWrong)

/-- 'laws.FnExactScrubBegin': WHATEVER THE INPUT: true; the input reads as it did. -/
def fnExactScrubBeginSpec : ChangeSpec := { name := "fnExactScrubBegin", fn := fun _ => fun
  | [d1, d2, d3] => { results := [.lit (.bool true)], args := [d1, d2, d3] }
  | _ => none }
def fnExactScrubBeginRow : OpenClaim := { program := "ytddeinpnadfgmaa", sum := "d4efce4aefd4b67ca2f25e0ad8fc6e35b79dcc8afbadcb3d0bd5cb79cfc88053", func := "loop.example/g00977/laws.FnExactScrubBegin", spec := "fnExactScrubBegin", apart := false }
def FnExactScrubBeginSaid : Prop := fnExactScrubBeginRow.holds Try.pinned (OpenSpec.ofChange fnExactScrubBeginSpec)

/-- ITS FALSE NEIGHBOUR: 'it returns false'. Refute it at one input. -/
def fnExactScrubBeginWrong : ChangeSpec := { name := "fnExactScrubBegin", fn := fun _ => fun
  | [d1, d2, d3] => { results := [.lit (.bool false)], args := [d1, d2, d3] }
  | _ => none }
def FnExactScrubBeginWrongFalsely : Prop := fnExactScrubBeginRow.holds Try.pinned (OpenSpec.ofChange fnExactScrubBeginWrong)

/-- 'laws.FnMoved': WHATEVER THE INPUT: true; the input reads as it did. -/
def fnMovedSpec : ChangeSpec := { name := "fnMoved", fn := fun _ => fun
  | [d] => { results := [.lit (.bool true)], args := [d] }
  | _ => none }
def fnMovedRow : OpenClaim := { program := "ytddeinpnadfgmaa", sum := "d4efce4aefd4b67ca2f25e0ad8fc6e35b79dcc8afbadcb3d0bd5cb79cfc88053", func := "loop.example/g00977/laws.FnMoved", spec := "fnMoved", apart := false }
def FnMovedSaid : Prop := fnMovedRow.holds Try.pinned (OpenSpec.ofChange fnMovedSpec)

/-- ITS FALSE NEIGHBOUR: 'it returns false'. Refute it at one input. -/
def fnMovedWrong : ChangeSpec := { name := "fnMoved", fn := fun _ => fun
  | [d] => { results := [.lit (.bool false)], args := [d] }
  | _ => none }
def FnMovedWrongFalsely : Prop := fnMovedRow.holds Try.pinned (OpenSpec.ofChange fnMovedWrong)

/-- 'laws.FnExactMoveGet': WHATEVER THE INPUT: true; the input reads as it did. -/
def fnExactMoveGetSpec : ChangeSpec := { name := "fnExactMoveGet", fn := fun _ => fun
  | [d1, d2, d3, d4] => { results := [.lit (.bool true)], args := [d1, d2, d3, d4] }
  | _ => none }
def fnExactMoveGetRow : OpenClaim := { program := "ytddeinpnadfgmaa", sum := "d4efce4aefd4b67ca2f25e0ad8fc6e35b79dcc8afbadcb3d0bd5cb79cfc88053", func := "loop.example/g00977/laws.FnExactMoveGet", spec := "fnExactMoveGet", apart := false }
def FnExactMoveGetSaid : Prop := fnExactMoveGetRow.holds Try.pinned (OpenSpec.ofChange fnExactMoveGetSpec)

/-- ITS FALSE NEIGHBOUR: 'it returns false'. Refute it at one input. -/
def fnExactMoveGetWrong : ChangeSpec := { name := "fnExactMoveGet", fn := fun _ => fun
  | [d1, d2, d3, d4] => { results := [.lit (.bool false)], args := [d1, d2, d3, d4] }
  | _ => none }
def FnExactMoveGetWrongFalsely : Prop := fnExactMoveGetRow.holds Try.pinned (OpenSpec.ofChange fnExactMoveGetWrong)

/- THE SECOND FORM. 'bulk': how many values and letters a reading holds, each counted each time it is reached (what is shared counts as often as it is met; a slice's spare places count too). A statement '..UptoSaid' is the law's where the arguments, and the package variables that the reading takes, are together of bulk at most 1048576: NARROWER than '..Said'. Prove '..Said' where nothing that the law and all that it calls make is longer than what came in: it says more and counts as full. Else prove '..UptoSaid'. A law counts once. -/
mutual
def uptoBulk {H : Type} : DataW H → Nat
  | .lit (.string bytes) => bytes.length + 1
  | .lit _ => 1
  | .nil => 1
  | .ptr d => uptoBulk d + 1
  | .slice elems spare => uptoBulkAll elems + uptoBulkAll spare + 1
  | .agg parts => uptoBulkAll parts + 1
  | .iface _ d => uptoBulk d + 1
  | .map entries => uptoBulkEntries entries + 1
  | .held _ => 1
def uptoBulkAll {H : Type} : List (DataW H) → Nat
  | [] => 0
  | d :: r => uptoBulk d + uptoBulkAll r
def uptoBulkEntries {H : Type} : List (Lit × DataW H) → Nat
  | [] => 0
  | x :: r => uptoBulkEntry x + uptoBulkEntries r
def uptoBulkEntry {H : Type} : Lit × DataW H → Nat
  | (.string bytes, d) => bytes.length + uptoBulk d + 1
  | (_, d) => uptoBulk d + 1
 end
def uptoSmall : (H : Type) → List (DataW H) → Bool := fun _ ds => decide (uptoBulkAll ds ≤ 1048576)
def OpenSpec.upto (s : _root_.Go.ChangeSpec) : _root_.Go.OpenSpec := { _root_.Go.OpenSpec.ofChange s with cond := some uptoSmall }

/-- 'laws.FnExactMoveStep', WHERE WHAT IT READS IS OF BULK AT MOST 1048576: true; the input reads as it did. -/
def fnExactMoveStepUptoRow : OpenClaim := { program := "ytddeinpnadfgmaa", sum := "d4efce4aefd4b67ca2f25e0ad8fc6e35b79dcc8afbadcb3d0bd5cb79cfc88053", func := "loop.example/g00977/laws.FnExactMoveStep", spec := "fnExactMoveStep", apart := false, narrowed := true }
def FnExactMoveStepUptoSaid : Prop := fnExactMoveStepUptoRow.holds Try.pinned (OpenSpec.upto fnExactMoveStepSpec)

/-- 'laws.FnExactScrubCommit', WHERE WHAT IT READS IS OF BULK AT MOST 1048576: true; the input reads as it did. -/
def fnExactScrubCommitUptoRow : OpenClaim := { program := "ytddeinpnadfgmaa", sum := "d4efce4aefd4b67ca2f25e0ad8fc6e35b79dcc8afbadcb3d0bd5cb79cfc88053", func := "loop.example/g00977/laws.FnExactScrubCommit", spec := "fnExactScrubCommit", apart := false, narrowed := true }
def FnExactScrubCommitUptoSaid : Prop := fnExactScrubCommitUptoRow.holds Try.pinned (OpenSpec.upto fnExactScrubCommitSpec)

/-- 'laws.FnExactMovePut', WHERE WHAT IT READS IS OF BULK AT MOST 1048576: true; the input reads as it did. -/
def fnExactMovePutUptoRow : OpenClaim := { program := "ytddeinpnadfgmaa", sum := "d4efce4aefd4b67ca2f25e0ad8fc6e35b79dcc8afbadcb3d0bd5cb79cfc88053", func := "loop.example/g00977/laws.FnExactMovePut", spec := "fnExactMovePut", apart := false, narrowed := true }
def FnExactMovePutUptoSaid : Prop := fnExactMovePutUptoRow.holds Try.pinned (OpenSpec.upto fnExactMovePutSpec)

/-- 'laws.FnScrubRace', WHERE WHAT IT READS IS OF BULK AT MOST 1048576: true; the input reads as it did. -/
def fnScrubRaceUptoRow : OpenClaim := { program := "ytddeinpnadfgmaa", sum := "d4efce4aefd4b67ca2f25e0ad8fc6e35b79dcc8afbadcb3d0bd5cb79cfc88053", func := "loop.example/g00977/laws.FnScrubRace", spec := "fnScrubRace", apart := false, narrowed := true }
def FnScrubRaceUptoSaid : Prop := fnScrubRaceUptoRow.holds Try.pinned (OpenSpec.upto fnScrubRaceSpec)

/-- 'laws.FnExactScrubBegin', WHERE WHAT IT READS IS OF BULK AT MOST 1048576: true; the input reads as it did. -/
def fnExactScrubBeginUptoRow : OpenClaim := { program := "ytddeinpnadfgmaa", sum := "d4efce4aefd4b67ca2f25e0ad8fc6e35b79dcc8afbadcb3d0bd5cb79cfc88053", func := "loop.example/g00977/laws.FnExactScrubBegin", spec := "fnExactScrubBegin", apart := false, narrowed := true }
def FnExactScrubBeginUptoSaid : Prop := fnExactScrubBeginUptoRow.holds Try.pinned (OpenSpec.upto fnExactScrubBeginSpec)

/-- 'laws.FnMoved', WHERE WHAT IT READS IS OF BULK AT MOST 1048576: true; the input reads as it did. -/
def fnMovedUptoRow : OpenClaim := { program := "ytddeinpnadfgmaa", sum := "d4efce4aefd4b67ca2f25e0ad8fc6e35b79dcc8afbadcb3d0bd5cb79cfc88053", func := "loop.example/g00977/laws.FnMoved", spec := "fnMoved", apart := false, narrowed := true }
def FnMovedUptoSaid : Prop := fnMovedUptoRow.holds Try.pinned (OpenSpec.upto fnMovedSpec)

/-- 'laws.FnExactMoveGet', WHERE WHAT IT READS IS OF BULK AT MOST 1048576: true; the input reads as it did. -/
def fnExactMoveGetUptoRow : OpenClaim := { program := "ytddeinpnadfgmaa", sum := "d4efce4aefd4b67ca2f25e0ad8fc6e35b79dcc8afbadcb3d0bd5cb79cfc88053", func := "loop.example/g00977/laws.FnExactMoveGet", spec := "fnExactMoveGet", apart := false, narrowed := true }
def FnExactMoveGetUptoSaid : Prop := fnExactMoveGetUptoRow.holds Try.pinned (OpenSpec.upto fnExactMoveGetSpec)

end Rows
end Go.Proofs.Ytddeinpnadfgmaa

/-
  No cell of these rows narrows 'for every input' (looked for: loops, veiled, ifaces, maps, wideKeys, modest, calm, conditions, laid).
  DERIVED. THE GIVEN ROWS OF THIS SEAT. 6 by the template 'for every input the law returns true; each argument reads behind the call as it read before'; 0 by the template 'total and deterministic' (their statements: YtppeocfcdeiemaaTotals.lean).
  GIVEN WITH THE SEED: the statements are not yours to turn. If you find one false, say at which input.
  Laid BY PROGRAM, IN A SANDBOX (cutbox-rows.mjs): the forced cells as the released guide's own fill.sh prints them over the translation 314f4127e6ffb04c… (all of the seat's roots in one cut). By AI agents, Wed Nov 11 2026. No macro, syntax, notation, axiom, sorry.
-/
import Derived.Test.YtppeocfcdeiemaaChecked
import GoSem.Claim
import GoSem.ClaimJoined
import GoSem.ClaimMapViews
import Derived.JoinedTies
import Derived.KernelRfl
namespace Go.Proofs.Ytppeocfcdeiemaa
/- THE CELL 'sum', in the pinned program and in every row, IS THE sha256 OF THE DUMP (.gsa) THAT YtppeocfcdeiemaaProg.lean LOADS. Nothing in Lean hashes anything: it is a label: what it is worth is what the hold of that sum in a sandbox is worth. -/
noncomputable def Try.pinned : Pinned := { name := "ytppeocfcdeiemaa", sum := "314f4127e6ffb04c5a71a61ab89bf1956aecb804a85179c369cce2726d65db3b", checked := Try.checked }
namespace Rows
def none {H : Type} : Left H := { results := [], args := [] }

/-- 'laws.FnBumped': WHATEVER THE INPUT: true; the input reads as it did. -/
def fnBumpedSpec : ChangeSpec := { name := "fnBumped", fn := fun _ => fun
  | [d] => { results := [.lit (.bool true)], args := [d] }
  | _ => none }
def fnBumpedRow : OpenClaim := { program := "ytppeocfcdeiemaa", sum := "314f4127e6ffb04c5a71a61ab89bf1956aecb804a85179c369cce2726d65db3b", func := "loop.example/g00977/laws.FnBumped", spec := "fnBumped", apart := false }
def FnBumpedSaid : Prop := fnBumpedRow.holds Try.pinned (OpenSpec.ofChange fnBumpedSpec)

/-- ITS FALSE NEIGHBOUR: 'it returns false'. Refute it at one input. -/
def fnBumpedWrong : ChangeSpec := { name := "fnBumped", fn := fun _ => fun
  | [d] => { results := [.lit (.bool false)], args := [d] }
  | _ => none }
def FnBumpedWrongFalsely : Prop := fnBumpedRow.holds Try.pinned (OpenSpec.ofChange fnBumpedWrong)

/-- 'laws.FnOldNodes': WHATEVER THE INPUT: true; the input reads as it did. -/
def fnOldNodesSpec : ChangeSpec := { name := "fnOldNodes", fn := fun _ => fun
  | [d] => { results := [.lit (.bool true)], args := [d] }
  | _ => none }
def fnOldNodesRow : OpenClaim := { program := "ytppeocfcdeiemaa", sum := "314f4127e6ffb04c5a71a61ab89bf1956aecb804a85179c369cce2726d65db3b", func := "loop.example/g00977/laws.FnOldNodes", spec := "fnOldNodes", apart := false }
def FnOldNodesSaid : Prop := fnOldNodesRow.holds Try.pinned (OpenSpec.ofChange fnOldNodesSpec)

/-- ITS FALSE NEIGHBOUR: 'it returns false'. Refute it at one input. -/
def fnOldNodesWrong : ChangeSpec := { name := "fnOldNodes", fn := fun _ => fun
  | [d] => { results := [.lit (.bool false)], args := [d] }
  | _ => none }
def FnOldNodesWrongFalsely : Prop := fnOldNodesRow.holds Try.pinned (OpenSpec.ofChange fnOldNodesWrong)

/-- 'laws.FnForged': WHATEVER THE INPUT: true; the input reads as it did. -/
def fnForgedSpec : ChangeSpec := { name := "fnForged", fn := fun _ => fun
  | [d] => { results := [.lit (.bool true)], args := [d] }
  | _ => none }
def fnForgedRow : OpenClaim := { program := "ytppeocfcdeiemaa", sum := "314f4127e6ffb04c5a71a61ab89bf1956aecb804a85179c369cce2726d65db3b", func := "loop.example/g00977/laws.FnForged", spec := "fnForged", apart := false }
def FnForgedSaid : Prop := fnForgedRow.holds Try.pinned (OpenSpec.ofChange fnForgedSpec)

/-- ITS FALSE NEIGHBOUR: 'it returns false'. Refute it at one input. -/
def fnForgedWrong : ChangeSpec := { name := "fnForged", fn := fun _ => fun
  | [d] => { results := [.lit (.bool false)], args := [d] }
  | _ => none }
def FnForgedWrongFalsely : Prop := fnForgedRow.holds Try.pinned (OpenSpec.ofChange fnForgedWrong)

/-- 'laws.FnTampered': WHATEVER THE INPUT: true; the input reads as it did. -/
def fnTamperedSpec : ChangeSpec := { name := "fnTampered", fn := fun _ => fun
  | [d] => { results := [.lit (.bool true)], args := [d] }
  | _ => none }
def fnTamperedRow : OpenClaim := { program := "ytppeocfcdeiemaa", sum := "314f4127e6ffb04c5a71a61ab89bf1956aecb804a85179c369cce2726d65db3b", func := "loop.example/g00977/laws.FnTampered", spec := "fnTampered", apart := false }
def FnTamperedSaid : Prop := fnTamperedRow.holds Try.pinned (OpenSpec.ofChange fnTamperedSpec)

/-- ITS FALSE NEIGHBOUR: 'it returns false'. Refute it at one input. -/
def fnTamperedWrong : ChangeSpec := { name := "fnTampered", fn := fun _ => fun
  | [d] => { results := [.lit (.bool false)], args := [d] }
  | _ => none }
def FnTamperedWrongFalsely : Prop := fnTamperedRow.holds Try.pinned (OpenSpec.ofChange fnTamperedWrong)

/-- 'laws.FnReplayed': WHATEVER THE INPUT: true; the input reads as it did. -/
def fnReplayedSpec : ChangeSpec := { name := "fnReplayed", fn := fun _ => fun
  | [d] => { results := [.lit (.bool true)], args := [d] }
  | _ => none }
def fnReplayedRow : OpenClaim := { program := "ytppeocfcdeiemaa", sum := "314f4127e6ffb04c5a71a61ab89bf1956aecb804a85179c369cce2726d65db3b", func := "loop.example/g00977/laws.FnReplayed", spec := "fnReplayed", apart := false }
def FnReplayedSaid : Prop := fnReplayedRow.holds Try.pinned (OpenSpec.ofChange fnReplayedSpec)

/-- ITS FALSE NEIGHBOUR: 'it returns false'. Refute it at one input. -/
def fnReplayedWrong : ChangeSpec := { name := "fnReplayed", fn := fun _ => fun
  | [d] => { results := [.lit (.bool false)], args := [d] }
  | _ => none }
def FnReplayedWrongFalsely : Prop := fnReplayedRow.holds Try.pinned (OpenSpec.ofChange fnReplayedWrong)

/-- 'laws.FnSecured': WHATEVER THE INPUT: true; the input reads as it did. -/
def fnSecuredSpec : ChangeSpec := { name := "fnSecured", fn := fun _ => fun
  | [d] => { results := [.lit (.bool true)], args := [d] }
  | _ => none }
def fnSecuredRow : OpenClaim := { program := "ytppeocfcdeiemaa", sum := "314f4127e6ffb04c5a71a61ab89bf1956aecb804a85179c369cce2726d65db3b", func := "loop.example/g00977/laws.FnSecured", spec := "fnSecured", apart := false }
def FnSecuredSaid : Prop := fnSecuredRow.holds Try.pinned (OpenSpec.ofChange fnSecuredSpec)

/-- ITS FALSE NEIGHBOUR: 'it returns false'. Refute it at one input. -/
def fnSecuredWrong : ChangeSpec := { name := "fnSecured", fn := fun _ => fun
  | [d] => { results := [.lit (.bool false)], args := [d] }
  | _ => none }
def FnSecuredWrongFalsely : Prop := fnSecuredRow.holds Try.pinned (OpenSpec.ofChange fnSecuredWrong)

/- THE SECOND FORM. 'bulk': how many values and letters a reading holds, each counted each time it is reached (what is shared counts as often as it is met; a slice's spare places count too). A statement '..UptoSaid' is the law's where the arguments, and the package variables that the reading takes, are together of bulk at most 1048576: NARROWER than '..Said'. Prove '..Said' where nothing that the law and all that it calls make is longer than what came in: it says more and counts as full. Else prove '..UptoSaid'. A law counts once. -/
mutual
def uptoBulk {H : Type} : DataW H → Nat
  | .lit (.string bytes) => bytes.length + 1
  | .lit _ => 1
  | .nil => 1
  | .ptr d => uptoBulk d + 1
  | .slice elems spare => uptoBulkAll elems + uptoBulkAll spare + 1
  | .agg parts => uptoBulkAll parts + 1
  | .iface _ d => uptoBulk d + 1
  | .map entries => uptoBulkEntries entries + 1
  | .held _ => 1
def uptoBulkAll {H : Type} : List (DataW H) → Nat
  | [] => 0
  | d :: r => uptoBulk d + uptoBulkAll r
def uptoBulkEntries {H : Type} : List (Lit × DataW H) → Nat
  | [] => 0
  | x :: r => uptoBulkEntry x + uptoBulkEntries r
def uptoBulkEntry {H : Type} : Lit × DataW H → Nat
  | (.string bytes, d) => bytes.length + uptoBulk d + 1
  | (_, d) => uptoBulk d + 1
 end
def uptoSmall : (H : Type) → List (DataW H) → Bool := fun _ ds => decide (uptoBulkAll ds ≤ 1048576)
def OpenSpec.upto (s : _root_.Go.ChangeSpec) : _root_.Go.OpenSpec := { _root_.Go.OpenSpec.ofChange s with cond := some uptoSmall }

/-- 'laws.FnBumped', WHERE WHAT IT READS IS OF BULK AT MOST 1048576: true; the input reads as it did. -/
def fnBumpedUptoRow : OpenClaim := { program := "ytppeocfcdeiemaa", sum := "314f4127e6ffb04c5a71a61ab89bf1956aecb804a85179c369cce2726d65db3b", func := "loop.example/g00977/laws.FnBumped", spec := "fnBumped", apart := false, narrowed := true }
def FnBumpedUptoSaid : Prop := fnBumpedUptoRow.holds Try.pinned (OpenSpec.upto fnBumpedSpec)

/-- 'laws.FnOldNodes', WHERE WHAT IT READS IS OF BULK AT MOST 1048576: true; the input reads as it did. -/
def fnOldNodesUptoRow : OpenClaim := { program := "ytppeocfcdeiemaa", sum := "314f4127e6ffb04c5a71a61ab89bf1956aecb804a85179c369cce2726d65db3b", func := "loop.example/g00977/laws.FnOldNodes", spec := "fnOldNodes", apart := false, narrowed := true }
def FnOldNodesUptoSaid : Prop := fnOldNodesUptoRow.holds Try.pinned (OpenSpec.upto fnOldNodesSpec)

/-- 'laws.FnForged', WHERE WHAT IT READS IS OF BULK AT MOST 1048576: true; the input reads as it did. -/
def fnForgedUptoRow : OpenClaim := { program := "ytppeocfcdeiemaa", sum := "314f4127e6ffb04c5a71a61ab89bf1956aecb804a85179c369cce2726d65db3b", func := "loop.example/g00977/laws.FnForged", spec := "fnForged", apart := false, narrowed := true }
def FnForgedUptoSaid : Prop := fnForgedUptoRow.holds Try.pinned (OpenSpec.upto fnForgedSpec)

/-- 'laws.FnTampered', WHERE WHAT IT READS IS OF BULK AT MOST 1048576: true; the input reads as it did. -/
def fnTamperedUptoRow : OpenClaim := { program := "ytppeocfcdeiemaa", sum := "314f4127e6ffb04c5a71a61ab89bf1956aecb804a85179c369cce2726d65db3b", func := "loop.example/g00977/laws.FnTampered", spec := "fnTampered", apart := false, narrowed := true }
def FnTamperedUptoSaid : Prop := fnTamperedUptoRow.holds Try.pinned (OpenSpec.upto fnTamperedSpec)

/-- 'laws.FnReplayed', WHERE WHAT IT READS IS OF BULK AT MOST 1048576: true; the input reads as it did. -/
def fnReplayedUptoRow : OpenClaim := { program := "ytppeocfcdeiemaa", sum := "314f4127e6ffb04c5a71a61ab89bf1956aecb804a85179c369cce2726d65db3b", func := "loop.example/g00977/laws.FnReplayed", spec := "fnReplayed", apart := false, narrowed := true }
def FnReplayedUptoSaid : Prop := fnReplayedUptoRow.holds Try.pinned (OpenSpec.upto fnReplayedSpec)

/-- 'laws.FnSecured', WHERE WHAT IT READS IS OF BULK AT MOST 1048576: true; the input reads as it did. -/
def fnSecuredUptoRow : OpenClaim := { program := "ytppeocfcdeiemaa", sum := "314f4127e6ffb04c5a71a61ab89bf1956aecb804a85179c369cce2726d65db3b", func := "loop.example/g00977/laws.FnSecured", spec := "fnSecured", apart := false, narrowed := true }
def FnSecuredUptoSaid : Prop := fnSecuredUptoRow.holds Try.pinned (OpenSpec.upto fnSecuredSpec)

end Rows
end Go.Proofs.Ytppeocfcdeiemaa

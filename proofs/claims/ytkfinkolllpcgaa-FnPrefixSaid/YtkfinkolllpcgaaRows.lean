/-
  No cell of these rows narrows 'for every input' (looked for: loops, veiled, ifaces, maps, wideKeys, modest, calm, conditions, laid).
  DERIVED. THE GIVEN ROWS OF THIS SEAT. 8 by the template 'for every input the law returns true; each argument reads behind the call as it read before'; 0 by the template 'total and deterministic' (their statements: YtkfinkolllpcgaaTotals.lean).
  GIVEN WITH THE SEED: the statements are not yours to turn. If you find one false, say at which input.
  Laid BY PROGRAM, IN A SANDBOX (cutbox-rows.mjs): the forced cells as the released guide's own fill.sh prints them over the translation 21e726a2684db8c1… (all of the seat's roots in one cut). By AI agents, Wed Nov 11 2026. No macro, syntax, notation, axiom, sorry.
-/
import Derived.Test.YtkfinkolllpcgaaChecked
import GoSem.Claim
import GoSem.ClaimJoined
import GoSem.ClaimMapViews
import Derived.JoinedTies
import Derived.KernelRfl
namespace Go.Proofs.Ytkfinkolllpcgaa
/- THE CELL 'sum', in the pinned program and in every row, IS THE sha256 OF THE DUMP (.gsa) THAT YtkfinkolllpcgaaProg.lean LOADS. Nothing in Lean hashes anything: it is a label: what it is worth is what the hold of that sum in a sandbox is worth. -/
noncomputable def Try.pinned : Pinned := { name := "ytkfinkolllpcgaa", sum := "21e726a2684db8c1211a16d79773ed721266a6dc1f1a7507e899549766a48a96", checked := Try.checked }
namespace Rows
def none {H : Type} : Left H := { results := [], args := [] }

/-- 'laws.FnExactRewind': WHATEVER THE INPUT: true; the input reads as it did. -/
def fnExactRewindSpec : ChangeSpec := { name := "fnExactRewind", fn := fun _ => fun
  | [d1, d2] => { results := [.lit (.bool true)], args := [d1, d2] }
  | _ => none }
def fnExactRewindRow : OpenClaim := { program := "ytkfinkolllpcgaa", sum := "21e726a2684db8c1211a16d79773ed721266a6dc1f1a7507e899549766a48a96", func := "loop.example/g00977/laws.FnExactRewind", spec := "fnExactRewind", apart := false }
def FnExactRewindSaid : Prop := fnExactRewindRow.holds Try.pinned (OpenSpec.ofChange fnExactRewindSpec)

/-- ITS FALSE NEIGHBOUR: 'it returns false'. Refute it at one input. -/
def fnExactRewindWrong : ChangeSpec := { name := "fnExactRewind", fn := fun _ => fun
  | [d1, d2] => { results := [.lit (.bool false)], args := [d1, d2] }
  | _ => none }
def FnExactRewindWrongFalsely : Prop := fnExactRewindRow.holds Try.pinned (OpenSpec.ofChange fnExactRewindWrong)

/-- 'laws.FnExactSendNext': WHATEVER THE INPUT: true; the input reads as it did. -/
def fnExactSendNextSpec : ChangeSpec := { name := "fnExactSendNext", fn := fun _ => fun
  | [d] => { results := [.lit (.bool true)], args := [d] }
  | _ => none }
def fnExactSendNextRow : OpenClaim := { program := "ytkfinkolllpcgaa", sum := "21e726a2684db8c1211a16d79773ed721266a6dc1f1a7507e899549766a48a96", func := "loop.example/g00977/laws.FnExactSendNext", spec := "fnExactSendNext", apart := false }
def FnExactSendNextSaid : Prop := fnExactSendNextRow.holds Try.pinned (OpenSpec.ofChange fnExactSendNextSpec)

/-- ITS FALSE NEIGHBOUR: 'it returns false'. Refute it at one input. -/
def fnExactSendNextWrong : ChangeSpec := { name := "fnExactSendNext", fn := fun _ => fun
  | [d] => { results := [.lit (.bool false)], args := [d] }
  | _ => none }
def FnExactSendNextWrongFalsely : Prop := fnExactSendNextRow.holds Try.pinned (OpenSpec.ofChange fnExactSendNextWrong)

/-- 'laws.FnResend': WHATEVER THE INPUT: true; the input reads as it did. -/
def fnResendSpec : ChangeSpec := { name := "fnResend", fn := fun _ => fun
  | [d] => { results := [.lit (.bool true)], args := [d] }
  | _ => none }
def fnResendRow : OpenClaim := { program := "ytkfinkolllpcgaa", sum := "21e726a2684db8c1211a16d79773ed721266a6dc1f1a7507e899549766a48a96", func := "loop.example/g00977/laws.FnResend", spec := "fnResend", apart := false }
def FnResendSaid : Prop := fnResendRow.holds Try.pinned (OpenSpec.ofChange fnResendSpec)

/-- ITS FALSE NEIGHBOUR: 'it returns false'. Refute it at one input. -/
def fnResendWrong : ChangeSpec := { name := "fnResend", fn := fun _ => fun
  | [d] => { results := [.lit (.bool false)], args := [d] }
  | _ => none }
def FnResendWrongFalsely : Prop := fnResendRow.holds Try.pinned (OpenSpec.ofChange fnResendWrong)

/-- 'laws.FnExactSenderNew': WHATEVER THE INPUT: true; the input reads as it did. -/
def fnExactSenderNewSpec : ChangeSpec := { name := "fnExactSenderNew", fn := fun _ => fun
  | [d] => { results := [.lit (.bool true)], args := [d] }
  | _ => none }
def fnExactSenderNewRow : OpenClaim := { program := "ytkfinkolllpcgaa", sum := "21e726a2684db8c1211a16d79773ed721266a6dc1f1a7507e899549766a48a96", func := "loop.example/g00977/laws.FnExactSenderNew", spec := "fnExactSenderNew", apart := false }
def FnExactSenderNewSaid : Prop := fnExactSenderNewRow.holds Try.pinned (OpenSpec.ofChange fnExactSenderNewSpec)

/-- ITS FALSE NEIGHBOUR: 'it returns false'. Refute it at one input. -/
def fnExactSenderNewWrong : ChangeSpec := { name := "fnExactSenderNew", fn := fun _ => fun
  | [d] => { results := [.lit (.bool false)], args := [d] }
  | _ => none }
def FnExactSenderNewWrongFalsely : Prop := fnExactSenderNewRow.holds Try.pinned (OpenSpec.ofChange fnExactSenderNewWrong)

/-- 'laws.FnLink': WHATEVER THE INPUT: true; the input reads as it did. -/
def fnLinkSpec : ChangeSpec := { name := "fnLink", fn := fun _ => fun
  | [d] => { results := [.lit (.bool true)], args := [d] }
  | _ => none }
def fnLinkRow : OpenClaim := { program := "ytkfinkolllpcgaa", sum := "21e726a2684db8c1211a16d79773ed721266a6dc1f1a7507e899549766a48a96", func := "loop.example/g00977/laws.FnLink", spec := "fnLink", apart := false }
def FnLinkSaid : Prop := fnLinkRow.holds Try.pinned (OpenSpec.ofChange fnLinkSpec)

/-- ITS FALSE NEIGHBOUR: 'it returns false'. Refute it at one input. -/
def fnLinkWrong : ChangeSpec := { name := "fnLink", fn := fun _ => fun
  | [d] => { results := [.lit (.bool false)], args := [d] }
  | _ => none }
def FnLinkWrongFalsely : Prop := fnLinkRow.holds Try.pinned (OpenSpec.ofChange fnLinkWrong)

/-- 'laws.FnExactReceive': WHATEVER THE INPUT: true; the input reads as it did. -/
def fnExactReceiveSpec : ChangeSpec := { name := "fnExactReceive", fn := fun _ => fun
  | [d1, d2] => { results := [.lit (.bool true)], args := [d1, d2] }
  | _ => none }
def fnExactReceiveRow : OpenClaim := { program := "ytkfinkolllpcgaa", sum := "21e726a2684db8c1211a16d79773ed721266a6dc1f1a7507e899549766a48a96", func := "loop.example/g00977/laws.FnExactReceive", spec := "fnExactReceive", apart := false }
def FnExactReceiveSaid : Prop := fnExactReceiveRow.holds Try.pinned (OpenSpec.ofChange fnExactReceiveSpec)

/-- ITS FALSE NEIGHBOUR: 'it returns false'. Refute it at one input. -/
def fnExactReceiveWrong : ChangeSpec := { name := "fnExactReceive", fn := fun _ => fun
  | [d1, d2] => { results := [.lit (.bool false)], args := [d1, d2] }
  | _ => none }
def FnExactReceiveWrongFalsely : Prop := fnExactReceiveRow.holds Try.pinned (OpenSpec.ofChange fnExactReceiveWrong)

/-- 'laws.FnExactLinkRun': WHATEVER THE INPUT: true; the input reads as it did. -/
def fnExactLinkRunSpec : ChangeSpec := { name := "fnExactLinkRun", fn := fun _ => fun
  | [d1, d2] => { results := [.lit (.bool true)], args := [d1, d2] }
  | _ => none }
def fnExactLinkRunRow : OpenClaim := { program := "ytkfinkolllpcgaa", sum := "21e726a2684db8c1211a16d79773ed721266a6dc1f1a7507e899549766a48a96", func := "loop.example/g00977/laws.FnExactLinkRun", spec := "fnExactLinkRun", apart := false }
def FnExactLinkRunSaid : Prop := fnExactLinkRunRow.holds Try.pinned (OpenSpec.ofChange fnExactLinkRunSpec)

/-- ITS FALSE NEIGHBOUR: 'it returns false'. Refute it at one input. -/
def fnExactLinkRunWrong : ChangeSpec := { name := "fnExactLinkRun", fn := fun _ => fun
  | [d1, d2] => { results := [.lit (.bool false)], args := [d1, d2] }
  | _ => none }
def FnExactLinkRunWrongFalsely : Prop := fnExactLinkRunRow.holds Try.pinned (OpenSpec.ofChange fnExactLinkRunWrong)

/-- 'laws.FnPrefix': WHATEVER THE INPUT: true; the input reads as it did. -/
def fnPrefixSpec : ChangeSpec := { name := "fnPrefix", fn := fun _ => fun
  | [d] => { results := [.lit (.bool true)], args := [d] }
  | _ => none }
def fnPrefixRow : OpenClaim := { program := "ytkfinkolllpcgaa", sum := "21e726a2684db8c1211a16d79773ed721266a6dc1f1a7507e899549766a48a96", func := "loop.example/g00977/laws.FnPrefix", spec := "fnPrefix", apart := false }
def FnPrefixSaid : Prop := fnPrefixRow.holds Try.pinned (OpenSpec.ofChange fnPrefixSpec)

/-- ITS FALSE NEIGHBOUR: 'it returns false'. Refute it at one input. -/
def fnPrefixWrong : ChangeSpec := { name := "fnPrefix", fn := fun _ => fun
  | [d] => { results := [.lit (.bool false)], args := [d] }
  | _ => none }
def FnPrefixWrongFalsely : Prop := fnPrefixRow.holds Try.pinned (OpenSpec.ofChange fnPrefixWrong)

/- THE SECOND FORM. 'bulk': how many values and letters a reading holds, each counted each time it is reached (what is shared counts as often as it is met; a slice's spare places count too). A statement '..UptoSaid' is the law's where the arguments, and the package variables that the reading takes, are together of bulk at most 1048576: NARROWER than '..Said'. Prove '..Said' where nothing that the law and all that it calls make is longer than what came in: it says more and counts as full. Else prove '..UptoSaid'. A law counts once. -/
mutual
def uptoBulk {H : Type} : DataW H → Nat
  | .lit (.string bytes) => bytes.length + 1
  | .lit _ => 1
  | .nil => 1
  | .ptr d => uptoBulk d + 1
  | .slice elems spare => uptoBulkAll elems + uptoBulkAll spare + 1
  | .agg parts => uptoBulkAll parts + 1
  | .iface _ d => uptoBulk d + 1
  | .map entries => uptoBulkEntries entries + 1
  | .held _ => 1
def uptoBulkAll {H : Type} : List (DataW H) → Nat
  | [] => 0
  | d :: r => uptoBulk d + uptoBulkAll r
def uptoBulkEntries {H : Type} : List (Lit × DataW H) → Nat
  | [] => 0
  | x :: r => uptoBulkEntry x + uptoBulkEntries r
def uptoBulkEntry {H : Type} : Lit × DataW H → Nat
  | (.string bytes, d) => bytes.length + uptoBulk d + 1
  | (_, d) => uptoBulk d + 1
 end
def uptoSmall : (H : Type) → List (DataW H) → Bool := fun _ ds => decide (uptoBulkAll ds ≤ 1048576)
def OpenSpec.upto (s : _root_.Go.ChangeSpec) : _root_.Go.OpenSpec := { _root_.Go.OpenSpec.ofChange s with cond := some uptoSmall }

/-- 'laws.FnExactRewind', WHERE WHAT IT READS IS OF BULK AT MOST 1048576: true; the input reads as it did. -/
def fnExactRewindUptoRow : OpenClaim := { program := "ytkfinkolllpcgaa", sum := "21e726a2684db8c1211a16d79773ed721266a6dc1f1a7507e899549766a48a96", func := "loop.example/g00977/laws.FnExactRewind", spec := "fnExactRewind", apart := false, narrowed := true }
def FnExactRewindUptoSaid : Prop := fnExactRewindUptoRow.holds Try.pinned (OpenSpec.upto fnExactRewindSpec)

/-- 'laws.FnExactSendNext', WHERE WHAT IT READS IS OF BULK AT MOST 1048576: true; the input reads as it did. -/
def fnExactSendNextUptoRow : OpenClaim := { program := "ytkfinkolllpcgaa", sum := "21e726a2684db8c1211a16d79773ed721266a6dc1f1a7507e899549766a48a96", func := "loop.example/g00977/laws.FnExactSendNext", spec := "fnExactSendNext", apart := false, narrowed := true }
def FnExactSendNextUptoSaid : Prop := fnExactSendNextUptoRow.holds Try.pinned (OpenSpec.upto fnExactSendNextSpec)

/-- 'laws.FnResend', WHERE WHAT IT READS IS OF BULK AT MOST 1048576: true; the input reads as it did. -/
def fnResendUptoRow : OpenClaim := { program := "ytkfinkolllpcgaa", sum := "21e726a2684db8c1211a16d79773ed721266a6dc1f1a7507e899549766a48a96", func := "loop.example/g00977/laws.FnResend", spec := "fnResend", apart := false, narrowed := true }
def FnResendUptoSaid : Prop := fnResendUptoRow.holds Try.pinned (OpenSpec.upto fnResendSpec)

/-- 'laws.FnExactSenderNew', WHERE WHAT IT READS IS OF BULK AT MOST 1048576: true; the input reads as it did. -/
def fnExactSenderNewUptoRow : OpenClaim := { program := "ytkfinkolllpcgaa", sum := "21e726a2684db8c1211a16d79773ed721266a6dc1f1a7507e899549766a48a96", func := "loop.example/g00977/laws.FnExactSenderNew", spec := "fnExactSenderNew", apart := false, narrowed := true }
def FnExactSenderNewUptoSaid : Prop := fnExactSenderNewUptoRow.holds Try.pinned (OpenSpec.upto fnExactSenderNewSpec)

/-- 'laws.FnLink', WHERE WHAT IT READS IS OF BULK AT MOST 1048576: true; the input reads as it did. -/
def fnLinkUptoRow : OpenClaim := { program := "ytkfinkolllpcgaa", sum := "21e726a2684db8c1211a16d79773ed721266a6dc1f1a7507e899549766a48a96", func := "loop.example/g00977/laws.FnLink", spec := "fnLink", apart := false, narrowed := true }
def FnLinkUptoSaid : Prop := fnLinkUptoRow.holds Try.pinned (OpenSpec.upto fnLinkSpec)

/-- 'laws.FnExactReceive', WHERE WHAT IT READS IS OF BULK AT MOST 1048576: true; the input reads as it did. -/
def fnExactReceiveUptoRow : OpenClaim := { program := "ytkfinkolllpcgaa", sum := "21e726a2684db8c1211a16d79773ed721266a6dc1f1a7507e899549766a48a96", func := "loop.example/g00977/laws.FnExactReceive", spec := "fnExactReceive", apart := false, narrowed := true }
def FnExactReceiveUptoSaid : Prop := fnExactReceiveUptoRow.holds Try.pinned (OpenSpec.upto fnExactReceiveSpec)

/-- 'laws.FnExactLinkRun', WHERE WHAT IT READS IS OF BULK AT MOST 1048576: true; the input reads as it did. -/
def fnExactLinkRunUptoRow : OpenClaim := { program := "ytkfinkolllpcgaa", sum := "21e726a2684db8c1211a16d79773ed721266a6dc1f1a7507e899549766a48a96", func := "loop.example/g00977/laws.FnExactLinkRun", spec := "fnExactLinkRun", apart := false, narrowed := true }
def FnExactLinkRunUptoSaid : Prop := fnExactLinkRunUptoRow.holds Try.pinned (OpenSpec.upto fnExactLinkRunSpec)

/-- 'laws.FnPrefix', WHERE WHAT IT READS IS OF BULK AT MOST 1048576: true; the input reads as it did. -/
def fnPrefixUptoRow : OpenClaim := { program := "ytkfinkolllpcgaa", sum := "21e726a2684db8c1211a16d79773ed721266a6dc1f1a7507e899549766a48a96", func := "loop.example/g00977/laws.FnPrefix", spec := "fnPrefix", apart := false, narrowed := true }
def FnPrefixUptoSaid : Prop := fnPrefixUptoRow.holds Try.pinned (OpenSpec.upto fnPrefixSpec)

end Rows
end Go.Proofs.Ytkfinkolllpcgaa

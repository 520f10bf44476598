/-
  No cell of these rows narrows 'for every input' (looked for: loops, veiled, ifaces, maps, wideKeys, modest, calm, conditions, laid).
  DERIVED. THE GIVEN ROWS OF THIS SEAT. 23 by the template 'for every input the law returns true; each argument reads behind the call as it read before'; 0 by the template 'total and deterministic' (their statements: YtdaeikjpnejmdaaTotals.lean).
  GIVEN WITH THE SEED: the statements are not yours to turn. If you find one false, say at which input.
  Laid BY PROGRAM, IN A SANDBOX (cutbox-rows.mjs): the forced cells as the released guide's own fill.sh prints them over the translation f015e7adc36f92e8… (all of the seat's roots in one cut). By AI agents, Wed Nov 11 2026. No macro, syntax, notation, axiom, sorry.
-/
import Derived.Test.YtdaeikjpnejmdaaChecked
import GoSem.Claim
import GoSem.ClaimJoined
import GoSem.ClaimMapViews
import Derived.JoinedTies
import Derived.KernelRfl
namespace Go.Proofs.Ytdaeikjpnejmdaa
/- THE CELL 'sum', in the pinned program and in every row, IS THE sha256 OF THE DUMP (.gsa) THAT YtdaeikjpnejmdaaProg.lean LOADS. Nothing in Lean hashes anything: it is a label: what it is worth is what the hold of that sum in a sandbox is worth. -/
noncomputable def Try.pinned : Pinned := { name := "ytdaeikjpnejmdaa", sum := "f015e7adc36f92e881a0c20935a6b96b7c9b556f291b46d9a3b8aaa6eb0f930c", checked := Try.checked }
namespace Rows
def none {H : Type} : Left H := { results := [], args := [] }

/-- 'laws.FnExactKeyed': WHATEVER THE INPUT: true; the input reads as it did. -/
def fnExactKeyedSpec : ChangeSpec := { name := "fnExactKeyed", fn := fun _ => fun
  | [d1, d2, d3] => { results := [.lit (.bool true)], args := [d1, d2, d3] }
  | _ => none }
def fnExactKeyedRow : OpenClaim := { program := "ytdaeikjpnejmdaa", sum := "f015e7adc36f92e881a0c20935a6b96b7c9b556f291b46d9a3b8aaa6eb0f930c", func := "loop.example/g00977/laws.FnExactKeyed", spec := "fnExactKeyed", apart := false }
def FnExactKeyedSaid : Prop := fnExactKeyedRow.holds Try.pinned (OpenSpec.ofChange fnExactKeyedSpec)

/-- ITS FALSE NEIGHBOUR: 'it returns false'. Refute it at one input. -/
def fnExactKeyedWrong : ChangeSpec := { name := "fnExactKeyed", fn := fun _ => fun
  | [d1, d2, d3] => { results := [.lit (.bool false)], args := [d1, d2, d3] }
  | _ => none }
def FnExactKeyedWrongFalsely : Prop := fnExactKeyedRow.holds Try.pinned (OpenSpec.ofChange fnExactKeyedWrong)

/-- 'laws.FnExactSealWord': WHATEVER THE INPUT: true; the input reads as it did. -/
def fnExactSealWordSpec : ChangeSpec := { name := "fnExactSealWord", fn := fun _ => fun
  | [d1, d2, d3, d4] => { results := [.lit (.bool true)], args := [d1, d2, d3, d4] }
  | _ => none }
def fnExactSealWordRow : OpenClaim := { program := "ytdaeikjpnejmdaa", sum := "f015e7adc36f92e881a0c20935a6b96b7c9b556f291b46d9a3b8aaa6eb0f930c", func := "loop.example/g00977/laws.FnExactSealWord", spec := "fnExactSealWord", apart := false }
def FnExactSealWordSaid : Prop := fnExactSealWordRow.holds Try.pinned (OpenSpec.ofChange fnExactSealWordSpec)

/-- ITS FALSE NEIGHBOUR: 'it returns false'. Refute it at one input. -/
def fnExactSealWordWrong : ChangeSpec := { name := "fnExactSealWord", fn := fun _ => fun
  | [d1, d2, d3, d4] => { results := [.lit (.bool false)], args := [d1, d2, d3, d4] }
  | _ => none }
def FnExactSealWordWrongFalsely : Prop := fnExactSealWordRow.holds Try.pinned (OpenSpec.ofChange fnExactSealWordWrong)

/-- 'laws.FnExactTagOf': WHATEVER THE INPUT: true; the input reads as it did. -/
def fnExactTagOfSpec : ChangeSpec := { name := "fnExactTagOf", fn := fun _ => fun
  | [d1, d2, d3, d4] => { results := [.lit (.bool true)], args := [d1, d2, d3, d4] }
  | _ => none }
def fnExactTagOfRow : OpenClaim := { program := "ytdaeikjpnejmdaa", sum := "f015e7adc36f92e881a0c20935a6b96b7c9b556f291b46d9a3b8aaa6eb0f930c", func := "loop.example/g00977/laws.FnExactTagOf", spec := "fnExactTagOf", apart := false }
def FnExactTagOfSaid : Prop := fnExactTagOfRow.holds Try.pinned (OpenSpec.ofChange fnExactTagOfSpec)

/-- ITS FALSE NEIGHBOUR: 'it returns false'. Refute it at one input. -/
def fnExactTagOfWrong : ChangeSpec := { name := "fnExactTagOf", fn := fun _ => fun
  | [d1, d2, d3, d4] => { results := [.lit (.bool false)], args := [d1, d2, d3, d4] }
  | _ => none }
def FnExactTagOfWrongFalsely : Prop := fnExactTagOfRow.holds Try.pinned (OpenSpec.ofChange fnExactTagOfWrong)

/-- 'laws.FnExactOpenWord': WHATEVER THE INPUT: true; the input reads as it did. -/
def fnExactOpenWordSpec : ChangeSpec := { name := "fnExactOpenWord", fn := fun _ => fun
  | [d1, d2, d3, d4] => { results := [.lit (.bool true)], args := [d1, d2, d3, d4] }
  | _ => none }
def fnExactOpenWordRow : OpenClaim := { program := "ytdaeikjpnejmdaa", sum := "f015e7adc36f92e881a0c20935a6b96b7c9b556f291b46d9a3b8aaa6eb0f930c", func := "loop.example/g00977/laws.FnExactOpenWord", spec := "fnExactOpenWord", apart := false }
def FnExactOpenWordSaid : Prop := fnExactOpenWordRow.holds Try.pinned (OpenSpec.ofChange fnExactOpenWordSpec)

/-- ITS FALSE NEIGHBOUR: 'it returns false'. Refute it at one input. -/
def fnExactOpenWordWrong : ChangeSpec := { name := "fnExactOpenWord", fn := fun _ => fun
  | [d1, d2, d3, d4] => { results := [.lit (.bool false)], args := [d1, d2, d3, d4] }
  | _ => none }
def FnExactOpenWordWrongFalsely : Prop := fnExactOpenWordRow.holds Try.pinned (OpenSpec.ofChange fnExactOpenWordWrong)

/-- 'laws.FnSealed': WHATEVER THE INPUT: true; the input reads as it did. -/
def fnSealedSpec : ChangeSpec := { name := "fnSealed", fn := fun _ => fun
  | [d] => { results := [.lit (.bool true)], args := [d] }
  | _ => none }
def fnSealedRow : OpenClaim := { program := "ytdaeikjpnejmdaa", sum := "f015e7adc36f92e881a0c20935a6b96b7c9b556f291b46d9a3b8aaa6eb0f930c", func := "loop.example/g00977/laws.FnSealed", spec := "fnSealed", apart := false }
def FnSealedSaid : Prop := fnSealedRow.holds Try.pinned (OpenSpec.ofChange fnSealedSpec)

/-- ITS FALSE NEIGHBOUR: 'it returns false'. Refute it at one input. -/
def fnSealedWrong : ChangeSpec := { name := "fnSealed", fn := fun _ => fun
  | [d] => { results := [.lit (.bool false)], args := [d] }
  | _ => none }
def FnSealedWrongFalsely : Prop := fnSealedRow.holds Try.pinned (OpenSpec.ofChange fnSealedWrong)

/-- 'laws.FnTags': WHATEVER THE INPUT: true; the input reads as it did. -/
def fnTagsSpec : ChangeSpec := { name := "fnTags", fn := fun _ => fun
  | [d] => { results := [.lit (.bool true)], args := [d] }
  | _ => none }
def fnTagsRow : OpenClaim := { program := "ytdaeikjpnejmdaa", sum := "f015e7adc36f92e881a0c20935a6b96b7c9b556f291b46d9a3b8aaa6eb0f930c", func := "loop.example/g00977/laws.FnTags", spec := "fnTags", apart := false }
def FnTagsSaid : Prop := fnTagsRow.holds Try.pinned (OpenSpec.ofChange fnTagsSpec)

/-- ITS FALSE NEIGHBOUR: 'it returns false'. Refute it at one input. -/
def fnTagsWrong : ChangeSpec := { name := "fnTags", fn := fun _ => fun
  | [d] => { results := [.lit (.bool false)], args := [d] }
  | _ => none }
def FnTagsWrongFalsely : Prop := fnTagsRow.holds Try.pinned (OpenSpec.ofChange fnTagsWrong)

/-- 'laws.FnExactWithNodes': WHATEVER THE INPUT: true; the input reads as it did. -/
def fnExactWithNodesSpec : ChangeSpec := { name := "fnExactWithNodes", fn := fun _ => fun
  | [d1, d2] => { results := [.lit (.bool true)], args := [d1, d2] }
  | _ => none }
def fnExactWithNodesRow : OpenClaim := { program := "ytdaeikjpnejmdaa", sum := "f015e7adc36f92e881a0c20935a6b96b7c9b556f291b46d9a3b8aaa6eb0f930c", func := "loop.example/g00977/laws.FnExactWithNodes", spec := "fnExactWithNodes", apart := false }
def FnExactWithNodesSaid : Prop := fnExactWithNodesRow.holds Try.pinned (OpenSpec.ofChange fnExactWithNodesSpec)

/-- ITS FALSE NEIGHBOUR: 'it returns false'. Refute it at one input. -/
def fnExactWithNodesWrong : ChangeSpec := { name := "fnExactWithNodes", fn := fun _ => fun
  | [d1, d2] => { results := [.lit (.bool false)], args := [d1, d2] }
  | _ => none }
def FnExactWithNodesWrongFalsely : Prop := fnExactWithNodesRow.holds Try.pinned (OpenSpec.ofChange fnExactWithNodesWrong)

/-- 'laws.FnBumped': WHATEVER THE INPUT: true; the input reads as it did. -/
def fnBumpedSpec : ChangeSpec := { name := "fnBumped", fn := fun _ => fun
  | [d] => { results := [.lit (.bool true)], args := [d] }
  | _ => none }
def fnBumpedRow : OpenClaim := { program := "ytdaeikjpnejmdaa", sum := "f015e7adc36f92e881a0c20935a6b96b7c9b556f291b46d9a3b8aaa6eb0f930c", func := "loop.example/g00977/laws.FnBumped", spec := "fnBumped", apart := false }
def FnBumpedSaid : Prop := fnBumpedRow.holds Try.pinned (OpenSpec.ofChange fnBumpedSpec)

/-- ITS FALSE NEIGHBOUR: 'it returns false'. Refute it at one input. -/
def fnBumpedWrong : ChangeSpec := { name := "fnBumped", fn := fun _ => fun
  | [d] => { results := [.lit (.bool false)], args := [d] }
  | _ => none }
def FnBumpedWrongFalsely : Prop := fnBumpedRow.holds Try.pinned (OpenSpec.ofChange fnBumpedWrong)

/-- 'laws.FnExactLeafCount': WHATEVER THE INPUT: true; the input reads as it did. -/
def fnExactLeafCountSpec : ChangeSpec := { name := "fnExactLeafCount", fn := fun _ => fun
  | [d1, d2, d3] => { results := [.lit (.bool true)], args := [d1, d2, d3] }
  | _ => none }
def fnExactLeafCountRow : OpenClaim := { program := "ytdaeikjpnejmdaa", sum := "f015e7adc36f92e881a0c20935a6b96b7c9b556f291b46d9a3b8aaa6eb0f930c", func := "loop.example/g00977/laws.FnExactLeafCount", spec := "fnExactLeafCount", apart := false }
def FnExactLeafCountSaid : Prop := fnExactLeafCountRow.holds Try.pinned (OpenSpec.ofChange fnExactLeafCountSpec)

/-- ITS FALSE NEIGHBOUR: 'it returns false'. Refute it at one input. -/
def fnExactLeafCountWrong : ChangeSpec := { name := "fnExactLeafCount", fn := fun _ => fun
  | [d1, d2, d3] => { results := [.lit (.bool false)], args := [d1, d2, d3] }
  | _ => none }
def FnExactLeafCountWrongFalsely : Prop := fnExactLeafCountRow.holds Try.pinned (OpenSpec.ofChange fnExactLeafCountWrong)

/-- 'laws.FnExactTreeNew': WHATEVER THE INPUT: true; the input reads as it did. -/
def fnExactTreeNewSpec : ChangeSpec := { name := "fnExactTreeNew", fn := fun _ => fun
  | [d] => { results := [.lit (.bool true)], args := [d] }
  | _ => none }
def fnExactTreeNewRow : OpenClaim := { program := "ytdaeikjpnejmdaa", sum := "f015e7adc36f92e881a0c20935a6b96b7c9b556f291b46d9a3b8aaa6eb0f930c", func := "loop.example/g00977/laws.FnExactTreeNew", spec := "fnExactTreeNew", apart := false }
def FnExactTreeNewSaid : Prop := fnExactTreeNewRow.holds Try.pinned (OpenSpec.ofChange fnExactTreeNewSpec)

/-- ITS FALSE NEIGHBOUR: 'it returns false'. Refute it at one input. -/
def fnExactTreeNewWrong : ChangeSpec := { name := "fnExactTreeNew", fn := fun _ => fun
  | [d] => { results := [.lit (.bool false)], args := [d] }
  | _ => none }
def FnExactTreeNewWrongFalsely : Prop := fnExactTreeNewRow.holds Try.pinned (OpenSpec.ofChange fnExactTreeNewWrong)

/-- 'laws.FnExactTreeOk': WHATEVER THE INPUT: true; the input reads as it did. -/
def fnExactTreeOkSpec : ChangeSpec := { name := "fnExactTreeOk", fn := fun _ => fun
  | [d1, d2] => { results := [.lit (.bool true)], args := [d1, d2] }
  | _ => none }
def fnExactTreeOkRow : OpenClaim := { program := "ytdaeikjpnejmdaa", sum := "f015e7adc36f92e881a0c20935a6b96b7c9b556f291b46d9a3b8aaa6eb0f930c", func := "loop.example/g00977/laws.FnExactTreeOk", spec := "fnExactTreeOk", apart := false }
def FnExactTreeOkSaid : Prop := fnExactTreeOkRow.holds Try.pinned (OpenSpec.ofChange fnExactTreeOkSpec)

/-- ITS FALSE NEIGHBOUR: 'it returns false'. Refute it at one input. -/
def fnExactTreeOkWrong : ChangeSpec := { name := "fnExactTreeOk", fn := fun _ => fun
  | [d1, d2] => { results := [.lit (.bool false)], args := [d1, d2] }
  | _ => none }
def FnExactTreeOkWrongFalsely : Prop := fnExactTreeOkRow.holds Try.pinned (OpenSpec.ofChange fnExactTreeOkWrong)

/-- 'laws.FnOldNodes': WHATEVER THE INPUT: true; the input reads as it did. -/
def fnOldNodesSpec : ChangeSpec := { name := "fnOldNodes", fn := fun _ => fun
  | [d] => { results := [.lit (.bool true)], args := [d] }
  | _ => none }
def fnOldNodesRow : OpenClaim := { program := "ytdaeikjpnejmdaa", sum := "f015e7adc36f92e881a0c20935a6b96b7c9b556f291b46d9a3b8aaa6eb0f930c", func := "loop.example/g00977/laws.FnOldNodes", spec := "fnOldNodes", apart := false }
def FnOldNodesSaid : Prop := fnOldNodesRow.holds Try.pinned (OpenSpec.ofChange fnOldNodesSpec)

/-- ITS FALSE NEIGHBOUR: 'it returns false'. Refute it at one input. -/
def fnOldNodesWrong : ChangeSpec := { name := "fnOldNodes", fn := fun _ => fun
  | [d] => { results := [.lit (.bool false)], args := [d] }
  | _ => none }
def FnOldNodesWrongFalsely : Prop := fnOldNodesRow.holds Try.pinned (OpenSpec.ofChange fnOldNodesWrong)

/-- 'laws.FnForged': WHATEVER THE INPUT: true; the input reads as it did. -/
def fnForgedSpec : ChangeSpec := { name := "fnForged", fn := fun _ => fun
  | [d] => { results := [.lit (.bool true)], args := [d] }
  | _ => none }
def fnForgedRow : OpenClaim := { program := "ytdaeikjpnejmdaa", sum := "f015e7adc36f92e881a0c20935a6b96b7c9b556f291b46d9a3b8aaa6eb0f930c", func := "loop.example/g00977/laws.FnForged", spec := "fnForged", apart := false }
def FnForgedSaid : Prop := fnForgedRow.holds Try.pinned (OpenSpec.ofChange fnForgedSpec)

/-- ITS FALSE NEIGHBOUR: 'it returns false'. Refute it at one input. -/
def fnForgedWrong : ChangeSpec := { name := "fnForged", fn := fun _ => fun
  | [d] => { results := [.lit (.bool false)], args := [d] }
  | _ => none }
def FnForgedWrongFalsely : Prop := fnForgedRow.holds Try.pinned (OpenSpec.ofChange fnForgedWrong)

/-- 'laws.FnExactSecureTamper': WHATEVER THE INPUT: true; the input reads as it did. -/
def fnExactSecureTamperSpec : ChangeSpec := { name := "fnExactSecureTamper", fn := fun _ => fun
  | [d1, d2, d3] => { results := [.lit (.bool true)], args := [d1, d2, d3] }
  | _ => none }
def fnExactSecureTamperRow : OpenClaim := { program := "ytdaeikjpnejmdaa", sum := "f015e7adc36f92e881a0c20935a6b96b7c9b556f291b46d9a3b8aaa6eb0f930c", func := "loop.example/g00977/laws.FnExactSecureTamper", spec := "fnExactSecureTamper", apart := false }
def FnExactSecureTamperSaid : Prop := fnExactSecureTamperRow.holds Try.pinned (OpenSpec.ofChange fnExactSecureTamperSpec)

/-- ITS FALSE NEIGHBOUR: 'it returns false'. Refute it at one input. -/
def fnExactSecureTamperWrong : ChangeSpec := { name := "fnExactSecureTamper", fn := fun _ => fun
  | [d1, d2, d3] => { results := [.lit (.bool false)], args := [d1, d2, d3] }
  | _ => none }
def FnExactSecureTamperWrongFalsely : Prop := fnExactSecureTamperRow.holds Try.pinned (OpenSpec.ofChange fnExactSecureTamperWrong)

/-- 'laws.FnExactSecureReplay': WHATEVER THE INPUT: true; the input reads as it did. -/
def fnExactSecureReplaySpec : ChangeSpec := { name := "fnExactSecureReplay", fn := fun _ => fun
  | [d1, d2, d3] => { results := [.lit (.bool true)], args := [d1, d2, d3] }
  | _ => none }
def fnExactSecureReplayRow : OpenClaim := { program := "ytdaeikjpnejmdaa", sum := "f015e7adc36f92e881a0c20935a6b96b7c9b556f291b46d9a3b8aaa6eb0f930c", func := "loop.example/g00977/laws.FnExactSecureReplay", spec := "fnExactSecureReplay", apart := false }
def FnExactSecureReplaySaid : Prop := fnExactSecureReplayRow.holds Try.pinned (OpenSpec.ofChange fnExactSecureReplaySpec)

/-- ITS FALSE NEIGHBOUR: 'it returns false'. Refute it at one input. -/
def fnExactSecureReplayWrong : ChangeSpec := { name := "fnExactSecureReplay", fn := fun _ => fun
  | [d1, d2, d3] => { results := [.lit (.bool false)], args := [d1, d2, d3] }
  | _ => none }
def FnExactSecureReplayWrongFalsely : Prop := fnExactSecureReplayRow.holds Try.pinned (OpenSpec.ofChange fnExactSecureReplayWrong)

/-- 'laws.FnExactSecureRead': WHATEVER THE INPUT: true; the input reads as it did. -/
def fnExactSecureReadSpec : ChangeSpec := { name := "fnExactSecureRead", fn := fun _ => fun
  | [d1, d2] => { results := [.lit (.bool true)], args := [d1, d2] }
  | _ => none }
def fnExactSecureReadRow : OpenClaim := { program := "ytdaeikjpnejmdaa", sum := "f015e7adc36f92e881a0c20935a6b96b7c9b556f291b46d9a3b8aaa6eb0f930c", func := "loop.example/g00977/laws.FnExactSecureRead", spec := "fnExactSecureRead", apart := false }
def FnExactSecureReadSaid : Prop := fnExactSecureReadRow.holds Try.pinned (OpenSpec.ofChange fnExactSecureReadSpec)

/-- ITS FALSE NEIGHBOUR: 'it returns false'. Refute it at one input. -/
def fnExactSecureReadWrong : ChangeSpec := { name := "fnExactSecureRead", fn := fun _ => fun
  | [d1, d2] => { results := [.lit (.bool false)], args := [d1, d2] }
  | _ => none }
def FnExactSecureReadWrongFalsely : Prop := fnExactSecureReadRow.holds Try.pinned (OpenSpec.ofChange fnExactSecureReadWrong)

/-- 'laws.FnTampered': WHATEVER THE INPUT: true; the input reads as it did. -/
def fnTamperedSpec : ChangeSpec := { name := "fnTampered", fn := fun _ => fun
  | [d] => { results := [.lit (.bool true)], args := [d] }
  | _ => none }
def fnTamperedRow : OpenClaim := { program := "ytdaeikjpnejmdaa", sum := "f015e7adc36f92e881a0c20935a6b96b7c9b556f291b46d9a3b8aaa6eb0f930c", func := "loop.example/g00977/laws.FnTampered", spec := "fnTampered", apart := false }
def FnTamperedSaid : Prop := fnTamperedRow.holds Try.pinned (OpenSpec.ofChange fnTamperedSpec)

/-- ITS FALSE NEIGHBOUR: 'it returns false'. Refute it at one input. -/
def fnTamperedWrong : ChangeSpec := { name := "fnTampered", fn := fun _ => fun
  | [d] => { results := [.lit (.bool false)], args := [d] }
  | _ => none }
def FnTamperedWrongFalsely : Prop := fnTamperedRow.holds Try.pinned (OpenSpec.ofChange fnTamperedWrong)

/-- 'laws.FnExactBump': WHATEVER THE INPUT: true; the input reads as it did. -/
def fnExactBumpSpec : ChangeSpec := { name := "fnExactBump", fn := fun _ => fun
  | [d1, d2, d3] => { results := [.lit (.bool true)], args := [d1, d2, d3] }
  | _ => none }
def fnExactBumpRow : OpenClaim := { program := "ytdaeikjpnejmdaa", sum := "f015e7adc36f92e881a0c20935a6b96b7c9b556f291b46d9a3b8aaa6eb0f930c", func := "loop.example/g00977/laws.FnExactBump", spec := "fnExactBump", apart := false }
def FnExactBumpSaid : Prop := fnExactBumpRow.holds Try.pinned (OpenSpec.ofChange fnExactBumpSpec)

/-- ITS FALSE NEIGHBOUR: 'it returns false'. Refute it at one input. -/
def fnExactBumpWrong : ChangeSpec := { name := "fnExactBump", fn := fun _ => fun
  | [d1, d2, d3] => { results := [.lit (.bool false)], args := [d1, d2, d3] }
  | _ => none }
def FnExactBumpWrongFalsely : Prop := fnExactBumpRow.holds Try.pinned (OpenSpec.ofChange fnExactBumpWrong)

/-- 'laws.FnExactSecureNew': WHATEVER THE INPUT: true; the input reads as it did. -/
def fnExactSecureNewSpec : ChangeSpec := { name := "fnExactSecureNew", fn := fun _ => fun
  | [d] => { results := [.lit (.bool true)], args := [d] }
  | _ => none }
def fnExactSecureNewRow : OpenClaim := { program := "ytdaeikjpnejmdaa", sum := "f015e7adc36f92e881a0c20935a6b96b7c9b556f291b46d9a3b8aaa6eb0f930c", func := "loop.example/g00977/laws.FnExactSecureNew", spec := "fnExactSecureNew", apart := false }
def FnExactSecureNewSaid : Prop := fnExactSecureNewRow.holds Try.pinned (OpenSpec.ofChange fnExactSecureNewSpec)

/-- ITS FALSE NEIGHBOUR: 'it returns false'. Refute it at one input. -/
def fnExactSecureNewWrong : ChangeSpec := { name := "fnExactSecureNew", fn := fun _ => fun
  | [d] => { results := [.lit (.bool false)], args := [d] }
  | _ => none }
def FnExactSecureNewWrongFalsely : Prop := fnExactSecureNewRow.holds Try.pinned (OpenSpec.ofChange fnExactSecureNewWrong)

/-- 'laws.FnReplayed': WHATEVER THE INPUT: true; the input reads as it did. -/
def fnReplayedSpec : ChangeSpec := { name := "fnReplayed", fn := fun _ => fun
  | [d] => { results := [.lit (.bool true)], args := [d] }
  | _ => none }
def fnReplayedRow : OpenClaim := { program := "ytdaeikjpnejmdaa", sum := "f015e7adc36f92e881a0c20935a6b96b7c9b556f291b46d9a3b8aaa6eb0f930c", func := "loop.example/g00977/laws.FnReplayed", spec := "fnReplayed", apart := false }
def FnReplayedSaid : Prop := fnReplayedRow.holds Try.pinned (OpenSpec.ofChange fnReplayedSpec)

/-- ITS FALSE NEIGHBOUR: 'it returns false'. Refute it at one input. -/
def fnReplayedWrong : ChangeSpec := { name := "fnReplayed", fn := fun _ => fun
  | [d] => { results := [.lit (.bool false)], args := [d] }
  | _ => none }
def FnReplayedWrongFalsely : Prop := fnReplayedRow.holds Try.pinned (OpenSpec.ofChange fnReplayedWrong)

/-- 'laws.FnExactSecureOk': WHATEVER THE INPUT: true; the input reads as it did. -/
def fnExactSecureOkSpec : ChangeSpec := { name := "fnExactSecureOk", fn := fun _ => fun
  | [d] => { results := [.lit (.bool true)], args := [d] }
  | _ => none }
def fnExactSecureOkRow : OpenClaim := { program := "ytdaeikjpnejmdaa", sum := "f015e7adc36f92e881a0c20935a6b96b7c9b556f291b46d9a3b8aaa6eb0f930c", func := "loop.example/g00977/laws.FnExactSecureOk", spec := "fnExactSecureOk", apart := false }
def FnExactSecureOkSaid : Prop := fnExactSecureOkRow.holds Try.pinned (OpenSpec.ofChange fnExactSecureOkSpec)

/-- ITS FALSE NEIGHBOUR: 'it returns false'. Refute it at one input. -/
def fnExactSecureOkWrong : ChangeSpec := { name := "fnExactSecureOk", fn := fun _ => fun
  | [d] => { results := [.lit (.bool false)], args := [d] }
  | _ => none }
def FnExactSecureOkWrongFalsely : Prop := fnExactSecureOkRow.holds Try.pinned (OpenSpec.ofChange fnExactSecureOkWrong)

/-- 'laws.FnSecured': WHATEVER THE INPUT: true; the input reads as it did. -/
def fnSecuredSpec : ChangeSpec := { name := "fnSecured", fn := fun _ => fun
  | [d] => { results := [.lit (.bool true)], args := [d] }
  | _ => none }
def fnSecuredRow : OpenClaim := { program := "ytdaeikjpnejmdaa", sum := "f015e7adc36f92e881a0c20935a6b96b7c9b556f291b46d9a3b8aaa6eb0f930c", func := "loop.example/g00977/laws.FnSecured", spec := "fnSecured", apart := false }
def FnSecuredSaid : Prop := fnSecuredRow.holds Try.pinned (OpenSpec.ofChange fnSecuredSpec)

/-- ITS FALSE NEIGHBOUR: 'it returns false'. Refute it at one input. -/
def fnSecuredWrong : ChangeSpec := { name := "fnSecured", fn := fun _ => fun
  | [d] => { results := [.lit (.bool false)], args := [d] }
  | _ => none }
def FnSecuredWrongFalsely : Prop := fnSecuredRow.holds Try.pinned (OpenSpec.ofChange fnSecuredWrong)

/-- 'laws.FnExactSecureWrite': WHATEVER THE INPUT: true; the input reads as it did. -/
def fnExactSecureWriteSpec : ChangeSpec := { name := "fnExactSecureWrite", fn := fun _ => fun
  | [d1, d2, d3] => { results := [.lit (.bool true)], args := [d1, d2, d3] }
  | _ => none }
def fnExactSecureWriteRow : OpenClaim := { program := "ytdaeikjpnejmdaa", sum := "f015e7adc36f92e881a0c20935a6b96b7c9b556f291b46d9a3b8aaa6eb0f930c", func := "loop.example/g00977/laws.FnExactSecureWrite", spec := "fnExactSecureWrite", apart := false }
def FnExactSecureWriteSaid : Prop := fnExactSecureWriteRow.holds Try.pinned (OpenSpec.ofChange fnExactSecureWriteSpec)

/-- ITS FALSE NEIGHBOUR: 'it returns false'. Refute it at one input. -/
def fnExactSecureWriteWrong : ChangeSpec := { name := "fnExactSecureWrite", fn := fun _ => fun
  | [d1, d2, d3] => { results := [.lit (.bool false)], args := [d1, d2, d3] }
  | _ => none }
def FnExactSecureWriteWrongFalsely : Prop := fnExactSecureWriteRow.holds Try.pinned (OpenSpec.ofChange fnExactSecureWriteWrong)

/- THE SECOND FORM. 'bulk': how many values and letters a reading holds, each counted each time it is reached (what is shared counts as often as it is met; a slice's spare places count too). A statement '..UptoSaid' is the law's where the arguments, and the package variables that the reading takes, are together of bulk at most 1048576: NARROWER than '..Said'. Prove '..Said' where nothing that the law and all that it calls make is longer than what came in: it says more and counts as full. Else prove '..UptoSaid'. A law counts once. -/
mutual
def uptoBulk {H : Type} : DataW H → Nat
  | .lit (.string bytes) => bytes.length + 1
  | .lit _ => 1
  | .nil => 1
  | .ptr d => uptoBulk d + 1
  | .slice elems spare => uptoBulkAll elems + uptoBulkAll spare + 1
  | .agg parts => uptoBulkAll parts + 1
  | .iface _ d => uptoBulk d + 1
  | .map entries => uptoBulkEntries entries + 1
  | .held _ => 1
def uptoBulkAll {H : Type} : List (DataW H) → Nat
  | [] => 0
  | d :: r => uptoBulk d + uptoBulkAll r
def uptoBulkEntries {H : Type} : List (Lit × DataW H) → Nat
  | [] => 0
  | x :: r => uptoBulkEntry x + uptoBulkEntries r
def uptoBulkEntry {H : Type} : Lit × DataW H → Nat
  | (.string bytes, d) => bytes.length + uptoBulk d + 1
  | (_, d) => uptoBulk d + 1
 end
def uptoSmall : (H : Type) → List (DataW H) → Bool := fun _ ds => decide (uptoBulkAll ds ≤ 1048576)
def OpenSpec.upto (s : _root_.Go.ChangeSpec) : _root_.Go.OpenSpec := { _root_.Go.OpenSpec.ofChange s with cond := some uptoSmall }

/-- 'laws.FnExactKeyed', WHERE WHAT IT READS IS OF BULK AT MOST 1048576: true; the input reads as it did. -/
def fnExactKeyedUptoRow : OpenClaim := { program := "ytdaeikjpnejmdaa", sum := "f015e7adc36f92e881a0c20935a6b96b7c9b556f291b46d9a3b8aaa6eb0f930c", func := "loop.example/g00977/laws.FnExactKeyed", spec := "fnExactKeyed", apart := false, narrowed := true }
def FnExactKeyedUptoSaid : Prop := fnExactKeyedUptoRow.holds Try.pinned (OpenSpec.upto fnExactKeyedSpec)

/-- 'laws.FnExactSealWord', WHERE WHAT IT READS IS OF BULK AT MOST 1048576: true; the input reads as it did. -/
def fnExactSealWordUptoRow : OpenClaim := { program := "ytdaeikjpnejmdaa", sum := "f015e7adc36f92e881a0c20935a6b96b7c9b556f291b46d9a3b8aaa6eb0f930c", func := "loop.example/g00977/laws.FnExactSealWord", spec := "fnExactSealWord", apart := false, narrowed := true }
def FnExactSealWordUptoSaid : Prop := fnExactSealWordUptoRow.holds Try.pinned (OpenSpec.upto fnExactSealWordSpec)

/-- 'laws.FnExactTagOf', WHERE WHAT IT READS IS OF BULK AT MOST 1048576: true; the input reads as it did. -/
def fnExactTagOfUptoRow : OpenClaim := { program := "ytdaeikjpnejmdaa", sum := "f015e7adc36f92e881a0c20935a6b96b7c9b556f291b46d9a3b8aaa6eb0f930c", func := "loop.example/g00977/laws.FnExactTagOf", spec := "fnExactTagOf", apart := false, narrowed := true }
def FnExactTagOfUptoSaid : Prop := fnExactTagOfUptoRow.holds Try.pinned (OpenSpec.upto fnExactTagOfSpec)

/-- 'laws.FnExactOpenWord', WHERE WHAT IT READS IS OF BULK AT MOST 1048576: true; the input reads as it did. -/
def fnExactOpenWordUptoRow : OpenClaim := { program := "ytdaeikjpnejmdaa", sum := "f015e7adc36f92e881a0c20935a6b96b7c9b556f291b46d9a3b8aaa6eb0f930c", func := "loop.example/g00977/laws.FnExactOpenWord", spec := "fnExactOpenWord", apart := false, narrowed := true }
def FnExactOpenWordUptoSaid : Prop := fnExactOpenWordUptoRow.holds Try.pinned (OpenSpec.upto fnExactOpenWordSpec)

/-- 'laws.FnSealed', WHERE WHAT IT READS IS OF BULK AT MOST 1048576: true; the input reads as it did. -/
def fnSealedUptoRow : OpenClaim := { program := "ytdaeikjpnejmdaa", sum := "f015e7adc36f92e881a0c20935a6b96b7c9b556f291b46d9a3b8aaa6eb0f930c", func := "loop.example/g00977/laws.FnSealed", spec := "fnSealed", apart := false, narrowed := true }
def FnSealedUptoSaid : Prop := fnSealedUptoRow.holds Try.pinned (OpenSpec.upto fnSealedSpec)

/-- 'laws.FnTags', WHERE WHAT IT READS IS OF BULK AT MOST 1048576: true; the input reads as it did. -/
def fnTagsUptoRow : OpenClaim := { program := "ytdaeikjpnejmdaa", sum := "f015e7adc36f92e881a0c20935a6b96b7c9b556f291b46d9a3b8aaa6eb0f930c", func := "loop.example/g00977/laws.FnTags", spec := "fnTags", apart := false, narrowed := true }
def FnTagsUptoSaid : Prop := fnTagsUptoRow.holds Try.pinned (OpenSpec.upto fnTagsSpec)

/-- 'laws.FnExactWithNodes', WHERE WHAT IT READS IS OF BULK AT MOST 1048576: true; the input reads as it did. -/
def fnExactWithNodesUptoRow : OpenClaim := { program := "ytdaeikjpnejmdaa", sum := "f015e7adc36f92e881a0c20935a6b96b7c9b556f291b46d9a3b8aaa6eb0f930c", func := "loop.example/g00977/laws.FnExactWithNodes", spec := "fnExactWithNodes", apart := false, narrowed := true }
def FnExactWithNodesUptoSaid : Prop := fnExactWithNodesUptoRow.holds Try.pinned (OpenSpec.upto fnExactWithNodesSpec)

/-- 'laws.FnBumped', WHERE WHAT IT READS IS OF BULK AT MOST 1048576: true; the input reads as it did. -/
def fnBumpedUptoRow : OpenClaim := { program := "ytdaeikjpnejmdaa", sum := "f015e7adc36f92e881a0c20935a6b96b7c9b556f291b46d9a3b8aaa6eb0f930c", func := "loop.example/g00977/laws.FnBumped", spec := "fnBumped", apart := false, narrowed := true }
def FnBumpedUptoSaid : Prop := fnBumpedUptoRow.holds Try.pinned (OpenSpec.upto fnBumpedSpec)

/-- 'laws.FnExactLeafCount', WHERE WHAT IT READS IS OF BULK AT MOST 1048576: true; the input reads as it did. -/
def fnExactLeafCountUptoRow : OpenClaim := { program := "ytdaeikjpnejmdaa", sum := "f015e7adc36f92e881a0c20935a6b96b7c9b556f291b46d9a3b8aaa6eb0f930c", func := "loop.example/g00977/laws.FnExactLeafCount", spec := "fnExactLeafCount", apart := false, narrowed := true }
def FnExactLeafCountUptoSaid : Prop := fnExactLeafCountUptoRow.holds Try.pinned (OpenSpec.upto fnExactLeafCountSpec)

/-- 'laws.FnExactTreeNew', WHERE WHAT IT READS IS OF BULK AT MOST 1048576: true; the input reads as it did. -/
def fnExactTreeNewUptoRow : OpenClaim := { program := "ytdaeikjpnejmdaa", sum := "f015e7adc36f92e881a0c20935a6b96b7c9b556f291b46d9a3b8aaa6eb0f930c", func := "loop.example/g00977/laws.FnExactTreeNew", spec := "fnExactTreeNew", apart := false, narrowed := true }
def FnExactTreeNewUptoSaid : Prop := fnExactTreeNewUptoRow.holds Try.pinned (OpenSpec.upto fnExactTreeNewSpec)

/-- 'laws.FnExactTreeOk', WHERE WHAT IT READS IS OF BULK AT MOST 1048576: true; the input reads as it did. -/
def fnExactTreeOkUptoRow : OpenClaim := { program := "ytdaeikjpnejmdaa", sum := "f015e7adc36f92e881a0c20935a6b96b7c9b556f291b46d9a3b8aaa6eb0f930c", func := "loop.example/g00977/laws.FnExactTreeOk", spec := "fnExactTreeOk", apart := false, narrowed := true }
def FnExactTreeOkUptoSaid : Prop := fnExactTreeOkUptoRow.holds Try.pinned (OpenSpec.upto fnExactTreeOkSpec)

/-- 'laws.FnOldNodes', WHERE WHAT IT READS IS OF BULK AT MOST 1048576: true; the input reads as it did. -/
def fnOldNodesUptoRow : OpenClaim := { program := "ytdaeikjpnejmdaa", sum := "f015e7adc36f92e881a0c20935a6b96b7c9b556f291b46d9a3b8aaa6eb0f930c", func := "loop.example/g00977/laws.FnOldNodes", spec := "fnOldNodes", apart := false, narrowed := true }
def FnOldNodesUptoSaid : Prop := fnOldNodesUptoRow.holds Try.pinned (OpenSpec.upto fnOldNodesSpec)

/-- 'laws.FnForged', WHERE WHAT IT READS IS OF BULK AT MOST 1048576: true; the input reads as it did. -/
def fnForgedUptoRow : OpenClaim := { program := "ytdaeikjpnejmdaa", sum := "f015e7adc36f92e881a0c20935a6b96b7c9b556f291b46d9a3b8aaa6eb0f930c", func := "loop.example/g00977/laws.FnForged", spec := "fnForged", apart := false, narrowed := true }
def FnForgedUptoSaid : Prop := fnForgedUptoRow.holds Try.pinned (OpenSpec.upto fnForgedSpec)

/-- 'laws.FnExactSecureTamper', WHERE WHAT IT READS IS OF BULK AT MOST 1048576: true; the input reads as it did. -/
def fnExactSecureTamperUptoRow : OpenClaim := { program := "ytdaeikjpnejmdaa", sum := "f015e7adc36f92e881a0c20935a6b96b7c9b556f291b46d9a3b8aaa6eb0f930c", func := "loop.example/g00977/laws.FnExactSecureTamper", spec := "fnExactSecureTamper", apart := false, narrowed := true }
def FnExactSecureTamperUptoSaid : Prop := fnExactSecureTamperUptoRow.holds Try.pinned (OpenSpec.upto fnExactSecureTamperSpec)

/-- 'laws.FnExactSecureReplay', WHERE WHAT IT READS IS OF BULK AT MOST 1048576: true; the input reads as it did. -/
def fnExactSecureReplayUptoRow : OpenClaim := { program := "ytdaeikjpnejmdaa", sum := "f015e7adc36f92e881a0c20935a6b96b7c9b556f291b46d9a3b8aaa6eb0f930c", func := "loop.example/g00977/laws.FnExactSecureReplay", spec := "fnExactSecureReplay", apart := false, narrowed := true }
def FnExactSecureReplayUptoSaid : Prop := fnExactSecureReplayUptoRow.holds Try.pinned (OpenSpec.upto fnExactSecureReplaySpec)

/-- 'laws.FnExactSecureRead', WHERE WHAT IT READS IS OF BULK AT MOST 1048576: true; the input reads as it did. -/
def fnExactSecureReadUptoRow : OpenClaim := { program := "ytdaeikjpnejmdaa", sum := "f015e7adc36f92e881a0c20935a6b96b7c9b556f291b46d9a3b8aaa6eb0f930c", func := "loop.example/g00977/laws.FnExactSecureRead", spec := "fnExactSecureRead", apart := false, narrowed := true }
def FnExactSecureReadUptoSaid : Prop := fnExactSecureReadUptoRow.holds Try.pinned (OpenSpec.upto fnExactSecureReadSpec)

/-- 'laws.FnTampered', WHERE WHAT IT READS IS OF BULK AT MOST 1048576: true; the input reads as it did. -/
def fnTamperedUptoRow : OpenClaim := { program := "ytdaeikjpnejmdaa", sum := "f015e7adc36f92e881a0c20935a6b96b7c9b556f291b46d9a3b8aaa6eb0f930c", func := "loop.example/g00977/laws.FnTampered", spec := "fnTampered", apart := false, narrowed := true }
def FnTamperedUptoSaid : Prop := fnTamperedUptoRow.holds Try.pinned (OpenSpec.upto fnTamperedSpec)

/-- 'laws.FnExactBump', WHERE WHAT IT READS IS OF BULK AT MOST 1048576: true; the input reads as it did. -/
def fnExactBumpUptoRow : OpenClaim := { program := "ytdaeikjpnejmdaa", sum := "f015e7adc36f92e881a0c20935a6b96b7c9b556f291b46d9a3b8aaa6eb0f930c", func := "loop.example/g00977/laws.FnExactBump", spec := "fnExactBump", apart := false, narrowed := true }
def FnExactBumpUptoSaid : Prop := fnExactBumpUptoRow.holds Try.pinned (OpenSpec.upto fnExactBumpSpec)

/-- 'laws.FnExactSecureNew', WHERE WHAT IT READS IS OF BULK AT MOST 1048576: true; the input reads as it did. -/
def fnExactSecureNewUptoRow : OpenClaim := { program := "ytdaeikjpnejmdaa", sum := "f015e7adc36f92e881a0c20935a6b96b7c9b556f291b46d9a3b8aaa6eb0f930c", func := "loop.example/g00977/laws.FnExactSecureNew", spec := "fnExactSecureNew", apart := false, narrowed := true }
def FnExactSecureNewUptoSaid : Prop := fnExactSecureNewUptoRow.holds Try.pinned (OpenSpec.upto fnExactSecureNewSpec)

/-- 'laws.FnReplayed', WHERE WHAT IT READS IS OF BULK AT MOST 1048576: true; the input reads as it did. -/
def fnReplayedUptoRow : OpenClaim := { program := "ytdaeikjpnejmdaa", sum := "f015e7adc36f92e881a0c20935a6b96b7c9b556f291b46d9a3b8aaa6eb0f930c", func := "loop.example/g00977/laws.FnReplayed", spec := "fnReplayed", apart := false, narrowed := true }
def FnReplayedUptoSaid : Prop := fnReplayedUptoRow.holds Try.pinned (OpenSpec.upto fnReplayedSpec)

/-- 'laws.FnExactSecureOk', WHERE WHAT IT READS IS OF BULK AT MOST 1048576: true; the input reads as it did. -/
def fnExactSecureOkUptoRow : OpenClaim := { program := "ytdaeikjpnejmdaa", sum := "f015e7adc36f92e881a0c20935a6b96b7c9b556f291b46d9a3b8aaa6eb0f930c", func := "loop.example/g00977/laws.FnExactSecureOk", spec := "fnExactSecureOk", apart := false, narrowed := true }
def FnExactSecureOkUptoSaid : Prop := fnExactSecureOkUptoRow.holds Try.pinned (OpenSpec.upto fnExactSecureOkSpec)

/-- 'laws.FnSecured', WHERE WHAT IT READS IS OF BULK AT MOST 1048576: true; the input reads as it did. -/
def fnSecuredUptoRow : OpenClaim := { program := "ytdaeikjpnejmdaa", sum := "f015e7adc36f92e881a0c20935a6b96b7c9b556f291b46d9a3b8aaa6eb0f930c", func := "loop.example/g00977/laws.FnSecured", spec := "fnSecured", apart := false, narrowed := true }
def FnSecuredUptoSaid : Prop := fnSecuredUptoRow.holds Try.pinned (OpenSpec.upto fnSecuredSpec)

/-- 'laws.FnExactSecureWrite', WHERE WHAT IT READS IS OF BULK AT MOST 1048576: true; the input reads as it did. -/
def fnExactSecureWriteUptoRow : OpenClaim := { program := "ytdaeikjpnejmdaa", sum := "f015e7adc36f92e881a0c20935a6b96b7c9b556f291b46d9a3b8aaa6eb0f930c", func := "loop.example/g00977/laws.FnExactSecureWrite", spec := "fnExactSecureWrite", apart := false, narrowed := true }
def FnExactSecureWriteUptoSaid : Prop := fnExactSecureWriteUptoRow.holds Try.pinned (OpenSpec.upto fnExactSecureWriteSpec)

end Rows
end Go.Proofs.Ytdaeikjpnejmdaa

/-
  No cell of these rows narrows 'for every input' (looked for: loops, veiled, ifaces, maps, wideKeys, modest, calm, conditions, laid).
  DERIVED. THE GIVEN ROWS OF THIS SEAT. 13 by the template 'for every input the law returns true; each argument reads behind the call as it read before'; 0 by the template 'total and deterministic' (their statements: YtlkklplnomecgaaTotals.lean).
  GIVEN WITH THE SEED: the statements are not yours to turn. If you find one false, say at which input.
  Laid BY PROGRAM, IN A SANDBOX (cutbox-rows.mjs): the forced cells as the released guide's own fill.sh prints them over the translation f1550b3011d450f2… (all of the seat's roots in one cut). By AI agents, Wed Nov 11 2026. No macro, syntax, notation, axiom, sorry.
-/
import Derived.Test.YtlkklplnomecgaaChecked
import GoSem.Claim
import GoSem.ClaimJoined
import GoSem.ClaimMapViews
import Derived.JoinedTies
import Derived.KernelRfl
namespace Go.Proofs.Ytlkklplnomecgaa
/- THE CELL 'sum', in the pinned program and in every row, IS THE sha256 OF THE DUMP (.gsa) THAT YtlkklplnomecgaaProg.lean LOADS. Nothing in Lean hashes anything: it is a label: what it is worth is what the hold of that sum in a sandbox is worth. -/
noncomputable def Try.pinned : Pinned := { name := "ytlkklplnomecgaa", sum := "f1550b3011d450f2649dec28a87f47cb8fb125caaa7600602d628931a5711841", checked := Try.checked }
namespace Rows
def none {H : Type} : Left H := { results := [], args := [] }

/-- 'laws.FnExactScrubberNew': WHATEVER THE INPUT: true; the input reads as it did. -/
def fnExactScrubberNewSpec : ChangeSpec := { name := "fnExactScrubberNew", fn := fun _ => fun
  | [d] => { results := [.lit (.bool true)], args := [d] }
  | _ => none }
def fnExactScrubberNewRow : OpenClaim := { program := "ytlkklplnomecgaa", sum := "f1550b3011d450f2649dec28a87f47cb8fb125caaa7600602d628931a5711841", func := "loop.example/g00977/laws.FnExactScrubberNew", spec := "fnExactScrubberNew", apart := false }
def FnExactScrubberNewSaid : Prop := fnExactScrubberNewRow.holds Try.pinned (OpenSpec.ofChange fnExactScrubberNewSpec)

/-- ITS FALSE NEIGHBOUR: 'it returns false'. Refute it at one input. -/
def fnExactScrubberNewWrong : ChangeSpec := { name := "fnExactScrubberNew", fn := fun _ => fun
  | [d] => { results := [.lit (.bool false)], args := [d] }
  | _ => none }
def FnExactScrubberNewWrongFalsely : Prop := fnExactScrubberNewRow.holds Try.pinned (OpenSpec.ofChange fnExactScrubberNewWrong)

/-- 'laws.FnExactScrubberTick': WHATEVER THE INPUT: true; the input reads as it did. -/
def fnExactScrubberTickSpec : ChangeSpec := { name := "fnExactScrubberTick", fn := fun _ => fun
  | [d1, d2] => { results := [.lit (.bool true)], args := [d1, d2] }
  | _ => none }
def fnExactScrubberTickRow : OpenClaim := { program := "ytlkklplnomecgaa", sum := "f1550b3011d450f2649dec28a87f47cb8fb125caaa7600602d628931a5711841", func := "loop.example/g00977/laws.FnExactScrubberTick", spec := "fnExactScrubberTick", apart := false }
def FnExactScrubberTickSaid : Prop := fnExactScrubberTickRow.holds Try.pinned (OpenSpec.ofChange fnExactScrubberTickSpec)

/-- ITS FALSE NEIGHBOUR: 'it returns false'. Refute it at one input. -/
def fnExactScrubberTickWrong : ChangeSpec := { name := "fnExactScrubberTick", fn := fun _ => fun
  | [d1, d2] => { results := [.lit (.bool false)], args := [d1, d2] }
  | _ => none }
def FnExactScrubberTickWrongFalsely : Prop := fnExactScrubberTickRow.holds Try.pinned (OpenSpec.ofChange fnExactScrubberTickWrong)

/-- 'laws.FnExactIntervalNeed': WHATEVER THE INPUT: true; the input reads as it did. -/
def fnExactIntervalNeedSpec : ChangeSpec := { name := "fnExactIntervalNeed", fn := fun _ => fun
  | [d] => { results := [.lit (.bool true)], args := [d] }
  | _ => none }
def fnExactIntervalNeedRow : OpenClaim := { program := "ytlkklplnomecgaa", sum := "f1550b3011d450f2649dec28a87f47cb8fb125caaa7600602d628931a5711841", func := "loop.example/g00977/laws.FnExactIntervalNeed", spec := "fnExactIntervalNeed", apart := false }
def FnExactIntervalNeedSaid : Prop := fnExactIntervalNeedRow.holds Try.pinned (OpenSpec.ofChange fnExactIntervalNeedSpec)

/-- ITS FALSE NEIGHBOUR: 'it returns false'. Refute it at one input. -/
def fnExactIntervalNeedWrong : ChangeSpec := { name := "fnExactIntervalNeed", fn := fun _ => fun
  | [d] => { results := [.lit (.bool false)], args := [d] }
  | _ => none }
def FnExactIntervalNeedWrongFalsely : Prop := fnExactIntervalNeedRow.holds Try.pinned (OpenSpec.ofChange fnExactIntervalNeedWrong)

/-- 'laws.FnScrubTurn': WHATEVER THE INPUT: true; the input reads as it did. -/
def fnScrubTurnSpec : ChangeSpec := { name := "fnScrubTurn", fn := fun _ => fun
  | [d] => { results := [.lit (.bool true)], args := [d] }
  | _ => none }
def fnScrubTurnRow : OpenClaim := { program := "ytlkklplnomecgaa", sum := "f1550b3011d450f2649dec28a87f47cb8fb125caaa7600602d628931a5711841", func := "loop.example/g00977/laws.FnScrubTurn", spec := "fnScrubTurn", apart := false }
def FnScrubTurnSaid : Prop := fnScrubTurnRow.holds Try.pinned (OpenSpec.ofChange fnScrubTurnSpec)

/-- ITS FALSE NEIGHBOUR: 'it returns false'. Refute it at one input. -/
def fnScrubTurnWrong : ChangeSpec := { name := "fnScrubTurn", fn := fun _ => fun
  | [d] => { results := [.lit (.bool false)], args := [d] }
  | _ => none }
def FnScrubTurnWrongFalsely : Prop := fnScrubTurnRow.holds Try.pinned (OpenSpec.ofChange fnScrubTurnWrong)

/-- 'laws.FnExactMoveBegin': WHATEVER THE INPUT: true; the input reads as it did. -/
def fnExactMoveBeginSpec : ChangeSpec := { name := "fnExactMoveBegin", fn := fun _ => fun
  | [d1, d2, d3, d4] => { results := [.lit (.bool true)], args := [d1, d2, d3, d4] }
  | _ => none }
def fnExactMoveBeginRow : OpenClaim := { program := "ytlkklplnomecgaa", sum := "f1550b3011d450f2649dec28a87f47cb8fb125caaa7600602d628931a5711841", func := "loop.example/g00977/laws.FnExactMoveBegin", spec := "fnExactMoveBegin", apart := false }
def FnExactMoveBeginSaid : Prop := fnExactMoveBeginRow.holds Try.pinned (OpenSpec.ofChange fnExactMoveBeginSpec)

/-- ITS FALSE NEIGHBOUR: 'it returns false'. Refute it at one input. -/
def fnExactMoveBeginWrong : ChangeSpec := { name := "fnExactMoveBegin", fn := fun _ => fun
  | [d1, d2, d3, d4] => { results := [.lit (.bool false)], args := [d1, d2, d3, d4] }
  | _ => none }
def FnExactMoveBeginWrongFalsely : Prop := fnExactMoveBeginRow.holds Try.pinned (OpenSpec.ofChange fnExactMoveBeginWrong)

/-- 'laws.FnExactMoveOk': WHATEVER THE INPUT: true; the input reads as it did. -/
def fnExactMoveOkSpec : ChangeSpec := { name := "fnExactMoveOk", fn := fun _ => fun
  | [d1, d2] => { results := [.lit (.bool true)], args := [d1, d2] }
  | _ => none }
def fnExactMoveOkRow : OpenClaim := { program := "ytlkklplnomecgaa", sum := "f1550b3011d450f2649dec28a87f47cb8fb125caaa7600602d628931a5711841", func := "loop.example/g00977/laws.FnExactMoveOk", spec := "fnExactMoveOk", apart := false }
def FnExactMoveOkSaid : Prop := fnExactMoveOkRow.holds Try.pinned (OpenSpec.ofChange fnExactMoveOkSpec)

/-- ITS FALSE NEIGHBOUR: 'it returns false'. Refute it at one input. -/
def fnExactMoveOkWrong : ChangeSpec := { name := "fnExactMoveOk", fn := fun _ => fun
  | [d1, d2] => { results := [.lit (.bool false)], args := [d1, d2] }
  | _ => none }
def FnExactMoveOkWrongFalsely : Prop := fnExactMoveOkRow.holds Try.pinned (OpenSpec.ofChange fnExactMoveOkWrong)

/-- 'laws.FnExactDefaultPolicy': WHATEVER THE INPUT: true; the input reads as it did. -/
def fnExactDefaultPolicySpec : ChangeSpec := { name := "fnExactDefaultPolicy", fn := fun _ => fun
  | [] => { results := [.lit (.bool true)], args := [] }
  | _ => none }
def fnExactDefaultPolicyRow : OpenClaim := { program := "ytlkklplnomecgaa", sum := "f1550b3011d450f2649dec28a87f47cb8fb125caaa7600602d628931a5711841", func := "loop.example/g00977/laws.FnExactDefaultPolicy", spec := "fnExactDefaultPolicy", apart := false }
def FnExactDefaultPolicySaid : Prop := fnExactDefaultPolicyRow.holds Try.pinned (OpenSpec.ofChange fnExactDefaultPolicySpec)

/-- ITS FALSE NEIGHBOUR: 'it returns false'. Refute it at one input. -/
def fnExactDefaultPolicyWrong : ChangeSpec := { name := "fnExactDefaultPolicy", fn := fun _ => fun
  | [] => { results := [.lit (.bool false)], args := [] }
  | _ => none }
def FnExactDefaultPolicyWrongFalsely : Prop := fnExactDefaultPolicyRow.holds Try.pinned (OpenSpec.ofChange fnExactDefaultPolicyWrong)

/-- 'laws.FnExactPolicyOk': WHATEVER THE INPUT: true; the input reads as it did. -/
def fnExactPolicyOkSpec : ChangeSpec := { name := "fnExactPolicyOk", fn := fun _ => fun
  | [d] => { results := [.lit (.bool true)], args := [d] }
  | _ => none }
def fnExactPolicyOkRow : OpenClaim := { program := "ytlkklplnomecgaa", sum := "f1550b3011d450f2649dec28a87f47cb8fb125caaa7600602d628931a5711841", func := "loop.example/g00977/laws.FnExactPolicyOk", spec := "fnExactPolicyOk", apart := false }
def FnExactPolicyOkSaid : Prop := fnExactPolicyOkRow.holds Try.pinned (OpenSpec.ofChange fnExactPolicyOkSpec)

/-- ITS FALSE NEIGHBOUR: 'it returns false'. Refute it at one input. -/
def fnExactPolicyOkWrong : ChangeSpec := { name := "fnExactPolicyOk", fn := fun _ => fun
  | [d] => { results := [.lit (.bool false)], args := [d] }
  | _ => none }
def FnExactPolicyOkWrongFalsely : Prop := fnExactPolicyOkRow.holds Try.pinned (OpenSpec.ofChange fnExactPolicyOkWrong)

/-- 'laws.FnExactConfigOk': WHATEVER THE INPUT: true; the input reads as it did. -/
def fnExactConfigOkSpec : ChangeSpec := { name := "fnExactConfigOk", fn := fun _ => fun
  | [d] => { results := [.lit (.bool true)], args := [d] }
  | _ => none }
def fnExactConfigOkRow : OpenClaim := { program := "ytlkklplnomecgaa", sum := "f1550b3011d450f2649dec28a87f47cb8fb125caaa7600602d628931a5711841", func := "loop.example/g00977/laws.FnExactConfigOk", spec := "fnExactConfigOk", apart := false }
def FnExactConfigOkSaid : Prop := fnExactConfigOkRow.holds Try.pinned (OpenSpec.ofChange fnExactConfigOkSpec)

/-- ITS FALSE NEIGHBOUR: 'it returns false'. Refute it at one input. -/
def fnExactConfigOkWrong : ChangeSpec := { name := "fnExactConfigOk", fn := fun _ => fun
  | [d] => { results := [.lit (.bool false)], args := [d] }
  | _ => none }
def FnExactConfigOkWrongFalsely : Prop := fnExactConfigOkRow.holds Try.pinned (OpenSpec.ofChange fnExactConfigOkWrong)

/-- 'laws.FnExactBoxStep': WHATEVER THE INPUT: true; the input reads as it did. -/
def fnExactBoxStepSpec : ChangeSpec := { name := "fnExactBoxStep", fn := fun _ => fun
  | [d1, d2] => { results := [.lit (.bool true)], args := [d1, d2] }
  | _ => none }
def fnExactBoxStepRow : OpenClaim := { program := "ytlkklplnomecgaa", sum := "f1550b3011d450f2649dec28a87f47cb8fb125caaa7600602d628931a5711841", func := "loop.example/g00977/laws.FnExactBoxStep", spec := "fnExactBoxStep", apart := false }
def FnExactBoxStepSaid : Prop := fnExactBoxStepRow.holds Try.pinned (OpenSpec.ofChange fnExactBoxStepSpec)

/-- ITS FALSE NEIGHBOUR: 'it returns false'. Refute it at one input. -/
def fnExactBoxStepWrong : ChangeSpec := { name := "fnExactBoxStep", fn := fun _ => fun
  | [d1, d2] => { results := [.lit (.bool false)], args := [d1, d2] }
  | _ => none }
def FnExactBoxStepWrongFalsely : Prop := fnExactBoxStepRow.holds Try.pinned (OpenSpec.ofChange fnExactBoxStepWrong)

/-- 'laws.FnExactBoxNew': WHATEVER THE INPUT: true; the input reads as it did. -/
def fnExactBoxNewSpec : ChangeSpec := { name := "fnExactBoxNew", fn := fun _ => fun
  | [d] => { results := [.lit (.bool true)], args := [d] }
  | _ => none }
def fnExactBoxNewRow : OpenClaim := { program := "ytlkklplnomecgaa", sum := "f1550b3011d450f2649dec28a87f47cb8fb125caaa7600602d628931a5711841", func := "loop.example/g00977/laws.FnExactBoxNew", spec := "fnExactBoxNew", apart := false }
def FnExactBoxNewSaid : Prop := fnExactBoxNewRow.holds Try.pinned (OpenSpec.ofChange fnExactBoxNewSpec)

/-- ITS FALSE NEIGHBOUR: 'it returns false'. Refute it at one input. -/
def fnExactBoxNewWrong : ChangeSpec := { name := "fnExactBoxNew", fn := fun _ => fun
  | [d] => { results := [.lit (.bool false)], args := [d] }
  | _ => none }
def FnExactBoxNewWrongFalsely : Prop := fnExactBoxNewRow.holds Try.pinned (OpenSpec.ofChange fnExactBoxNewWrong)

/-- 'laws.FnExactBoxAsk': WHATEVER THE INPUT: true; the input reads as it did. -/
def fnExactBoxAskSpec : ChangeSpec := { name := "fnExactBoxAsk", fn := fun _ => fun
  | [d1, d2] => { results := [.lit (.bool true)], args := [d1, d2] }
  | _ => none }
def fnExactBoxAskRow : OpenClaim := { program := "ytlkklplnomecgaa", sum := "f1550b3011d450f2649dec28a87f47cb8fb125caaa7600602d628931a5711841", func := "loop.example/g00977/laws.FnExactBoxAsk", spec := "fnExactBoxAsk", apart := false }
def FnExactBoxAskSaid : Prop := fnExactBoxAskRow.holds Try.pinned (OpenSpec.ofChange fnExactBoxAskSpec)

/-- ITS FALSE NEIGHBOUR: 'it returns false'. Refute it at one input. -/
def fnExactBoxAskWrong : ChangeSpec := { name := "fnExactBoxAsk", fn := fun _ => fun
  | [d1, d2] => { results := [.lit (.bool false)], args := [d1, d2] }
  | _ => none }
def FnExactBoxAskWrongFalsely : Prop := fnExactBoxAskRow.holds Try.pinned (OpenSpec.ofChange fnExactBoxAskWrong)

/-- 'laws.FnExactPolicyFits': WHATEVER THE INPUT: true; the input reads as it did. -/
def fnExactPolicyFitsSpec : ChangeSpec := { name := "fnExactPolicyFits", fn := fun _ => fun
  | [d1, d2] => { results := [.lit (.bool true)], args := [d1, d2] }
  | _ => none }
def fnExactPolicyFitsRow : OpenClaim := { program := "ytlkklplnomecgaa", sum := "f1550b3011d450f2649dec28a87f47cb8fb125caaa7600602d628931a5711841", func := "loop.example/g00977/laws.FnExactPolicyFits", spec := "fnExactPolicyFits", apart := false }
def FnExactPolicyFitsSaid : Prop := fnExactPolicyFitsRow.holds Try.pinned (OpenSpec.ofChange fnExactPolicyFitsSpec)

/-- ITS FALSE NEIGHBOUR: 'it returns false'. Refute it at one input. -/
def fnExactPolicyFitsWrong : ChangeSpec := { name := "fnExactPolicyFits", fn := fun _ => fun
  | [d1, d2] => { results := [.lit (.bool false)], args := [d1, d2] }
  | _ => none }
def FnExactPolicyFitsWrongFalsely : Prop := fnExactPolicyFitsRow.holds Try.pinned (OpenSpec.ofChange fnExactPolicyFitsWrong)

/- THE SECOND FORM. 'bulk': how many values and letters a reading holds, each counted each time it is reached (what is shared counts as often as it is met; a slice's spare places count too). A statement '..UptoSaid' is the law's where the arguments, and the package variables that the reading takes, are together of bulk at most 1048576: NARROWER than '..Said'. Prove '..Said' where nothing that the law and all that it calls make is longer than what came in: it says more and counts as full. Else prove '..UptoSaid'. A law counts once. -/
mutual
def uptoBulk {H : Type} : DataW H → Nat
  | .lit (.string bytes) => bytes.length + 1
  | .lit _ => 1
  | .nil => 1
  | .ptr d => uptoBulk d + 1
  | .slice elems spare => uptoBulkAll elems + uptoBulkAll spare + 1
  | .agg parts => uptoBulkAll parts + 1
  | .iface _ d => uptoBulk d + 1
  | .map entries => uptoBulkEntries entries + 1
  | .held _ => 1
def uptoBulkAll {H : Type} : List (DataW H) → Nat
  | [] => 0
  | d :: r => uptoBulk d + uptoBulkAll r
def uptoBulkEntries {H : Type} : List (Lit × DataW H) → Nat
  | [] => 0
  | x :: r => uptoBulkEntry x + uptoBulkEntries r
def uptoBulkEntry {H : Type} : Lit × DataW H → Nat
  | (.string bytes, d) => bytes.length + uptoBulk d + 1
  | (_, d) => uptoBulk d + 1
 end
def uptoSmall : (H : Type) → List (DataW H) → Bool := fun _ ds => decide (uptoBulkAll ds ≤ 1048576)
def OpenSpec.upto (s : _root_.Go.ChangeSpec) : _root_.Go.OpenSpec := { _root_.Go.OpenSpec.ofChange s with cond := some uptoSmall }

/-- 'laws.FnExactScrubberNew', WHERE WHAT IT READS IS OF BULK AT MOST 1048576: true; the input reads as it did. -/
def fnExactScrubberNewUptoRow : OpenClaim := { program := "ytlkklplnomecgaa", sum := "f1550b3011d450f2649dec28a87f47cb8fb125caaa7600602d628931a5711841", func := "loop.example/g00977/laws.FnExactScrubberNew", spec := "fnExactScrubberNew", apart := false, narrowed := true }
def FnExactScrubberNewUptoSaid : Prop := fnExactScrubberNewUptoRow.holds Try.pinned (OpenSpec.upto fnExactScrubberNewSpec)

/-- 'laws.FnExactScrubberTick', WHERE WHAT IT READS IS OF BULK AT MOST 1048576: true; the input reads as it did. -/
def fnExactScrubberTickUptoRow : OpenClaim := { program := "ytlkklplnomecgaa", sum := "f1550b3011d450f2649dec28a87f47cb8fb125caaa7600602d628931a5711841", func := "loop.example/g00977/laws.FnExactScrubberTick", spec := "fnExactScrubberTick", apart := false, narrowed := true }
def FnExactScrubberTickUptoSaid : Prop := fnExactScrubberTickUptoRow.holds Try.pinned (OpenSpec.upto fnExactScrubberTickSpec)

/-- 'laws.FnExactIntervalNeed', WHERE WHAT IT READS IS OF BULK AT MOST 1048576: true; the input reads as it did. -/
def fnExactIntervalNeedUptoRow : OpenClaim := { program := "ytlkklplnomecgaa", sum := "f1550b3011d450f2649dec28a87f47cb8fb125caaa7600602d628931a5711841", func := "loop.example/g00977/laws.FnExactIntervalNeed", spec := "fnExactIntervalNeed", apart := false, narrowed := true }
def FnExactIntervalNeedUptoSaid : Prop := fnExactIntervalNeedUptoRow.holds Try.pinned (OpenSpec.upto fnExactIntervalNeedSpec)

/-- 'laws.FnScrubTurn', WHERE WHAT IT READS IS OF BULK AT MOST 1048576: true; the input reads as it did. -/
def fnScrubTurnUptoRow : OpenClaim := { program := "ytlkklplnomecgaa", sum := "f1550b3011d450f2649dec28a87f47cb8fb125caaa7600602d628931a5711841", func := "loop.example/g00977/laws.FnScrubTurn", spec := "fnScrubTurn", apart := false, narrowed := true }
def FnScrubTurnUptoSaid : Prop := fnScrubTurnUptoRow.holds Try.pinned (OpenSpec.upto fnScrubTurnSpec)

/-- 'laws.FnExactMoveBegin', WHERE WHAT IT READS IS OF BULK AT MOST 1048576: true; the input reads as it did. -/
def fnExactMoveBeginUptoRow : OpenClaim := { program := "ytlkklplnomecgaa", sum := "f1550b3011d450f2649dec28a87f47cb8fb125caaa7600602d628931a5711841", func := "loop.example/g00977/laws.FnExactMoveBegin", spec := "fnExactMoveBegin", apart := false, narrowed := true }
def FnExactMoveBeginUptoSaid : Prop := fnExactMoveBeginUptoRow.holds Try.pinned (OpenSpec.upto fnExactMoveBeginSpec)

/-- 'laws.FnExactMoveOk', WHERE WHAT IT READS IS OF BULK AT MOST 1048576: true; the input reads as it did. -/
def fnExactMoveOkUptoRow : OpenClaim := { program := "ytlkklplnomecgaa", sum := "f1550b3011d450f2649dec28a87f47cb8fb125caaa7600602d628931a5711841", func := "loop.example/g00977/laws.FnExactMoveOk", spec := "fnExactMoveOk", apart := false, narrowed := true }
def FnExactMoveOkUptoSaid : Prop := fnExactMoveOkUptoRow.holds Try.pinned (OpenSpec.upto fnExactMoveOkSpec)

/-- 'laws.FnExactDefaultPolicy', WHERE WHAT IT READS IS OF BULK AT MOST 1048576: true; the input reads as it did. -/
def fnExactDefaultPolicyUptoRow : OpenClaim := { program := "ytlkklplnomecgaa", sum := "f1550b3011d450f2649dec28a87f47cb8fb125caaa7600602d628931a5711841", func := "loop.example/g00977/laws.FnExactDefaultPolicy", spec := "fnExactDefaultPolicy", apart := false, narrowed := true }
def FnExactDefaultPolicyUptoSaid : Prop := fnExactDefaultPolicyUptoRow.holds Try.pinned (OpenSpec.upto fnExactDefaultPolicySpec)

/-- 'laws.FnExactPolicyOk', WHERE WHAT IT READS IS OF BULK AT MOST 1048576: true; the input reads as it did. -/
def fnExactPolicyOkUptoRow : OpenClaim := { program := "ytlkklplnomecgaa", sum := "f1550b3011d450f2649dec28a87f47cb8fb125caaa7600602d628931a5711841", func := "loop.example/g00977/laws.FnExactPolicyOk", spec := "fnExactPolicyOk", apart := false, narrowed := true }
def FnExactPolicyOkUptoSaid : Prop := fnExactPolicyOkUptoRow.holds Try.pinned (OpenSpec.upto fnExactPolicyOkSpec)

/-- 'laws.FnExactConfigOk', WHERE WHAT IT READS IS OF BULK AT MOST 1048576: true; the input reads as it did. -/
def fnExactConfigOkUptoRow : OpenClaim := { program := "ytlkklplnomecgaa", sum := "f1550b3011d450f2649dec28a87f47cb8fb125caaa7600602d628931a5711841", func := "loop.example/g00977/laws.FnExactConfigOk", spec := "fnExactConfigOk", apart := false, narrowed := true }
def FnExactConfigOkUptoSaid : Prop := fnExactConfigOkUptoRow.holds Try.pinned (OpenSpec.upto fnExactConfigOkSpec)

/-- 'laws.FnExactBoxStep', WHERE WHAT IT READS IS OF BULK AT MOST 1048576: true; the input reads as it did. -/
def fnExactBoxStepUptoRow : OpenClaim := { program := "ytlkklplnomecgaa", sum := "f1550b3011d450f2649dec28a87f47cb8fb125caaa7600602d628931a5711841", func := "loop.example/g00977/laws.FnExactBoxStep", spec := "fnExactBoxStep", apart := false, narrowed := true }
def FnExactBoxStepUptoSaid : Prop := fnExactBoxStepUptoRow.holds Try.pinned (OpenSpec.upto fnExactBoxStepSpec)

/-- 'laws.FnExactBoxNew', WHERE WHAT IT READS IS OF BULK AT MOST 1048576: true; the input reads as it did. -/
def fnExactBoxNewUptoRow : OpenClaim := { program := "ytlkklplnomecgaa", sum := "f1550b3011d450f2649dec28a87f47cb8fb125caaa7600602d628931a5711841", func := "loop.example/g00977/laws.FnExactBoxNew", spec := "fnExactBoxNew", apart := false, narrowed := true }
def FnExactBoxNewUptoSaid : Prop := fnExactBoxNewUptoRow.holds Try.pinned (OpenSpec.upto fnExactBoxNewSpec)

/-- 'laws.FnExactBoxAsk', WHERE WHAT IT READS IS OF BULK AT MOST 1048576: true; the input reads as it did. -/
def fnExactBoxAskUptoRow : OpenClaim := { program := "ytlkklplnomecgaa", sum := "f1550b3011d450f2649dec28a87f47cb8fb125caaa7600602d628931a5711841", func := "loop.example/g00977/laws.FnExactBoxAsk", spec := "fnExactBoxAsk", apart := false, narrowed := true }
def FnExactBoxAskUptoSaid : Prop := fnExactBoxAskUptoRow.holds Try.pinned (OpenSpec.upto fnExactBoxAskSpec)

/-- 'laws.FnExactPolicyFits', WHERE WHAT IT READS IS OF BULK AT MOST 1048576: true; the input reads as it did. -/
def fnExactPolicyFitsUptoRow : OpenClaim := { program := "ytlkklplnomecgaa", sum := "f1550b3011d450f2649dec28a87f47cb8fb125caaa7600602d628931a5711841", func := "loop.example/g00977/laws.FnExactPolicyFits", spec := "fnExactPolicyFits", apart := false, narrowed := true }
def FnExactPolicyFitsUptoSaid : Prop := fnExactPolicyFitsUptoRow.holds Try.pinned (OpenSpec.upto fnExactPolicyFitsSpec)

end Rows
end Go.Proofs.Ytlkklplnomecgaa

/-
  No cell of these rows narrows 'for every input' (looked for: loops, veiled, ifaces, maps, wideKeys, modest, calm, conditions, laid).
  DERIVED. THE GIVEN ROWS OF THIS SEAT. 12 by the template 'for every input the law returns true; each argument reads behind the call as it read before'; 0 by the template 'total and deterministic' (their statements: YtliiljjeebnfeaaTotals.lean).
  GIVEN WITH THE SEED: the statements are not yours to turn. If you find one false, say at which input.
  Laid BY PROGRAM, IN A SANDBOX (cutbox-rows.mjs): the forced cells as the released guide's own fill.sh prints them over the translation 638d55d6f41b185c… (all of the seat's roots in one cut). By AI agents, Wed Nov 11 2026. No macro, syntax, notation, axiom, sorry.
-/
import Derived.Test.YtliiljjeebnfeaaChecked
import GoSem.Claim
import GoSem.ClaimJoined
import GoSem.ClaimMapViews
import Derived.JoinedTies
import Derived.KernelRfl
namespace Go.Proofs.Ytliiljjeebnfeaa
/- THE CELL 'sum', in the pinned program and in every row, IS THE sha256 OF THE DUMP (.gsa) THAT YtliiljjeebnfeaaProg.lean LOADS. Nothing in Lean hashes anything: it is a label: what it is worth is what the hold of that sum in a sandbox is worth. -/
noncomputable def Try.pinned : Pinned := { name := "ytliiljjeebnfeaa", sum := "638d55d6f41b185caed8b03b39bf2e1ccbca869225fb77f811f56c62e7b8b34d", checked := Try.checked }
namespace Rows
def none {H : Type} : Left H := { results := [], args := [] }

/-- 'laws.FnExactShortestWait': WHATEVER THE INPUT: true; the input reads as it did. -/
def fnExactShortestWaitSpec : ChangeSpec := { name := "fnExactShortestWait", fn := fun _ => fun
  | [d] => { results := [.lit (.bool true)], args := [d] }
  | _ => none }
def fnExactShortestWaitRow : OpenClaim := { program := "ytliiljjeebnfeaa", sum := "638d55d6f41b185caed8b03b39bf2e1ccbca869225fb77f811f56c62e7b8b34d", func := "loop.example/g01337/laws.FnExactShortestWait", spec := "fnExactShortestWait", apart := false }
def FnExactShortestWaitSaid : Prop := fnExactShortestWaitRow.holds Try.pinned (OpenSpec.ofChange fnExactShortestWaitSpec)

/-- ITS FALSE NEIGHBOUR: 'it returns false'. Refute it at one input. -/
def fnExactShortestWaitWrong : ChangeSpec := { name := "fnExactShortestWait", fn := fun _ => fun
  | [d] => { results := [.lit (.bool false)], args := [d] }
  | _ => none }
def FnExactShortestWaitWrongFalsely : Prop := fnExactShortestWaitRow.holds Try.pinned (OpenSpec.ofChange fnExactShortestWaitWrong)

/-- 'laws.FnExactHardestToBeat': WHATEVER THE INPUT: true; the input reads as it did. -/
def fnExactHardestToBeatSpec : ChangeSpec := { name := "fnExactHardestToBeat", fn := fun _ => fun
  | [d1, d2] => { results := [.lit (.bool true)], args := [d1, d2] }
  | _ => none }
def fnExactHardestToBeatRow : OpenClaim := { program := "ytliiljjeebnfeaa", sum := "638d55d6f41b185caed8b03b39bf2e1ccbca869225fb77f811f56c62e7b8b34d", func := "loop.example/g01337/laws.FnExactHardestToBeat", spec := "fnExactHardestToBeat", unfollowed := true, recurses := true, apart := false }
def FnExactHardestToBeatSaid : Prop := fnExactHardestToBeatRow.holds Try.pinned (OpenSpec.ofChange fnExactHardestToBeatSpec)

/-- ITS FALSE NEIGHBOUR: 'it returns false'. Refute it at one input. -/
def fnExactHardestToBeatWrong : ChangeSpec := { name := "fnExactHardestToBeat", fn := fun _ => fun
  | [d1, d2] => { results := [.lit (.bool false)], args := [d1, d2] }
  | _ => none }
def FnExactHardestToBeatWrongFalsely : Prop := fnExactHardestToBeatRow.holds Try.pinned (OpenSpec.ofChange fnExactHardestToBeatWrong)

/-- 'laws.FnExactAreStates': WHATEVER THE INPUT: true; the input reads as it did. -/
def fnExactAreStatesSpec : ChangeSpec := { name := "fnExactAreStates", fn := fun _ => fun
  | [d] => { results := [.lit (.bool true)], args := [d] }
  | _ => none }
def fnExactAreStatesRow : OpenClaim := { program := "ytliiljjeebnfeaa", sum := "638d55d6f41b185caed8b03b39bf2e1ccbca869225fb77f811f56c62e7b8b34d", func := "loop.example/g01337/laws.FnExactAreStates", spec := "fnExactAreStates", apart := false }
def FnExactAreStatesSaid : Prop := fnExactAreStatesRow.holds Try.pinned (OpenSpec.ofChange fnExactAreStatesSpec)

/-- ITS FALSE NEIGHBOUR: 'it returns false'. Refute it at one input. -/
def fnExactAreStatesWrong : ChangeSpec := { name := "fnExactAreStates", fn := fun _ => fun
  | [d] => { results := [.lit (.bool false)], args := [d] }
  | _ => none }
def FnExactAreStatesWrongFalsely : Prop := fnExactAreStatesRow.holds Try.pinned (OpenSpec.ofChange fnExactAreStatesWrong)

/-- 'laws.FnExactEndStates': WHATEVER THE INPUT: true; the input reads as it did. -/
def fnExactEndStatesSpec : ChangeSpec := { name := "fnExactEndStates", fn := fun _ => fun
  | [d] => { results := [.lit (.bool true)], args := [d] }
  | _ => none }
def fnExactEndStatesRow : OpenClaim := { program := "ytliiljjeebnfeaa", sum := "638d55d6f41b185caed8b03b39bf2e1ccbca869225fb77f811f56c62e7b8b34d", func := "loop.example/g01337/laws.FnExactEndStates", spec := "fnExactEndStates", apart := false }
def FnExactEndStatesSaid : Prop := fnExactEndStatesRow.holds Try.pinned (OpenSpec.ofChange fnExactEndStatesSpec)

/-- ITS FALSE NEIGHBOUR: 'it returns false'. Refute it at one input. -/
def fnExactEndStatesWrong : ChangeSpec := { name := "fnExactEndStates", fn := fun _ => fun
  | [d] => { results := [.lit (.bool false)], args := [d] }
  | _ => none }
def FnExactEndStatesWrongFalsely : Prop := fnExactEndStatesRow.holds Try.pinned (OpenSpec.ofChange fnExactEndStatesWrong)

/-- 'laws.FnExactChanceOfStep': WHATEVER THE INPUT: true; the input reads as it did. -/
def fnExactChanceOfStepSpec : ChangeSpec := { name := "fnExactChanceOfStep", fn := fun _ => fun
  | [d1, d2, d3] => { results := [.lit (.bool true)], args := [d1, d2, d3] }
  | _ => none }
def fnExactChanceOfStepRow : OpenClaim := { program := "ytliiljjeebnfeaa", sum := "638d55d6f41b185caed8b03b39bf2e1ccbca869225fb77f811f56c62e7b8b34d", func := "loop.example/g01337/laws.FnExactChanceOfStep", spec := "fnExactChanceOfStep", unfollowed := true, recurses := true, apart := false }
def FnExactChanceOfStepSaid : Prop := fnExactChanceOfStepRow.holds Try.pinned (OpenSpec.ofChange fnExactChanceOfStepSpec)

/-- ITS FALSE NEIGHBOUR: 'it returns false'. Refute it at one input. -/
def fnExactChanceOfStepWrong : ChangeSpec := { name := "fnExactChanceOfStep", fn := fun _ => fun
  | [d1, d2, d3] => { results := [.lit (.bool false)], args := [d1, d2, d3] }
  | _ => none }
def FnExactChanceOfStepWrongFalsely : Prop := fnExactChanceOfStepRow.holds Try.pinned (OpenSpec.ofChange fnExactChanceOfStepWrong)

/-- 'laws.FnExactCountWays': WHATEVER THE INPUT: true; the input reads as it did. -/
def fnExactCountWaysSpec : ChangeSpec := { name := "fnExactCountWays", fn := fun _ => fun
  | [d1, d2, d3, d4] => { results := [.lit (.bool true)], args := [d1, d2, d3, d4] }
  | _ => none }
def fnExactCountWaysRow : OpenClaim := { program := "ytliiljjeebnfeaa", sum := "638d55d6f41b185caed8b03b39bf2e1ccbca869225fb77f811f56c62e7b8b34d", func := "loop.example/g01337/laws.FnExactCountWays", spec := "fnExactCountWays", unfollowed := true, recurses := true, apart := false }
def FnExactCountWaysSaid : Prop := fnExactCountWaysRow.holds Try.pinned (OpenSpec.ofChange fnExactCountWaysSpec)

/-- ITS FALSE NEIGHBOUR: 'it returns false'. Refute it at one input. -/
def fnExactCountWaysWrong : ChangeSpec := { name := "fnExactCountWays", fn := fun _ => fun
  | [d1, d2, d3, d4] => { results := [.lit (.bool false)], args := [d1, d2, d3, d4] }
  | _ => none }
def FnExactCountWaysWrongFalsely : Prop := fnExactCountWaysRow.holds Try.pinned (OpenSpec.ofChange fnExactCountWaysWrong)

/-- 'laws.FnExactIsOneClass': WHATEVER THE INPUT: true; the input reads as it did. -/
def fnExactIsOneClassSpec : ChangeSpec := { name := "fnExactIsOneClass", fn := fun _ => fun
  | [d] => { results := [.lit (.bool true)], args := [d] }
  | _ => none }
def fnExactIsOneClassRow : OpenClaim := { program := "ytliiljjeebnfeaa", sum := "638d55d6f41b185caed8b03b39bf2e1ccbca869225fb77f811f56c62e7b8b34d", func := "loop.example/g01337/laws.FnExactIsOneClass", spec := "fnExactIsOneClass", apart := false }
def FnExactIsOneClassSaid : Prop := fnExactIsOneClassRow.holds Try.pinned (OpenSpec.ofChange fnExactIsOneClassSpec)

/-- ITS FALSE NEIGHBOUR: 'it returns false'. Refute it at one input. -/
def fnExactIsOneClassWrong : ChangeSpec := { name := "fnExactIsOneClass", fn := fun _ => fun
  | [d] => { results := [.lit (.bool false)], args := [d] }
  | _ => none }
def FnExactIsOneClassWrongFalsely : Prop := fnExactIsOneClassRow.holds Try.pinned (OpenSpec.ofChange fnExactIsOneClassWrong)

/-- 'laws.FnExactReachedStates': WHATEVER THE INPUT: true; the input reads as it did. -/
def fnExactReachedStatesSpec : ChangeSpec := { name := "fnExactReachedStates", fn := fun _ => fun
  | [d1, d2] => { results := [.lit (.bool true)], args := [d1, d2] }
  | _ => none }
def fnExactReachedStatesRow : OpenClaim := { program := "ytliiljjeebnfeaa", sum := "638d55d6f41b185caed8b03b39bf2e1ccbca869225fb77f811f56c62e7b8b34d", func := "loop.example/g01337/laws.FnExactReachedStates", spec := "fnExactReachedStates", unfollowed := true, recurses := true, apart := false }
def FnExactReachedStatesSaid : Prop := fnExactReachedStatesRow.holds Try.pinned (OpenSpec.ofChange fnExactReachedStatesSpec)

/-- ITS FALSE NEIGHBOUR: 'it returns false'. Refute it at one input. -/
def fnExactReachedStatesWrong : ChangeSpec := { name := "fnExactReachedStates", fn := fun _ => fun
  | [d1, d2] => { results := [.lit (.bool false)], args := [d1, d2] }
  | _ => none }
def FnExactReachedStatesWrongFalsely : Prop := fnExactReachedStatesRow.holds Try.pinned (OpenSpec.ofChange fnExactReachedStatesWrong)

/-- 'laws.FnExactStatesAfter': WHATEVER THE INPUT: true; the input reads as it did. -/
def fnExactStatesAfterSpec : ChangeSpec := { name := "fnExactStatesAfter", fn := fun _ => fun
  | [d1, d2, d3] => { results := [.lit (.bool true)], args := [d1, d2, d3] }
  | _ => none }
def fnExactStatesAfterRow : OpenClaim := { program := "ytliiljjeebnfeaa", sum := "638d55d6f41b185caed8b03b39bf2e1ccbca869225fb77f811f56c62e7b8b34d", func := "loop.example/g01337/laws.FnExactStatesAfter", spec := "fnExactStatesAfter", unfollowed := true, recurses := true, apart := false }
def FnExactStatesAfterSaid : Prop := fnExactStatesAfterRow.holds Try.pinned (OpenSpec.ofChange fnExactStatesAfterSpec)

/-- ITS FALSE NEIGHBOUR: 'it returns false'. Refute it at one input. -/
def fnExactStatesAfterWrong : ChangeSpec := { name := "fnExactStatesAfter", fn := fun _ => fun
  | [d1, d2, d3] => { results := [.lit (.bool false)], args := [d1, d2, d3] }
  | _ => none }
def FnExactStatesAfterWrongFalsely : Prop := fnExactStatesAfterRow.holds Try.pinned (OpenSpec.ofChange fnExactStatesAfterWrong)

/-- 'laws.FnExactStatesOfChain': WHATEVER THE INPUT: true; the input reads as it did. -/
def fnExactStatesOfChainSpec : ChangeSpec := { name := "fnExactStatesOfChain", fn := fun _ => fun
  | [d] => { results := [.lit (.bool true)], args := [d] }
  | _ => none }
def fnExactStatesOfChainRow : OpenClaim := { program := "ytliiljjeebnfeaa", sum := "638d55d6f41b185caed8b03b39bf2e1ccbca869225fb77f811f56c62e7b8b34d", func := "loop.example/g01337/laws.FnExactStatesOfChain", spec := "fnExactStatesOfChain", apart := false }
def FnExactStatesOfChainSaid : Prop := fnExactStatesOfChainRow.holds Try.pinned (OpenSpec.ofChange fnExactStatesOfChainSpec)

/-- ITS FALSE NEIGHBOUR: 'it returns false'. Refute it at one input. -/
def fnExactStatesOfChainWrong : ChangeSpec := { name := "fnExactStatesOfChain", fn := fun _ => fun
  | [d] => { results := [.lit (.bool false)], args := [d] }
  | _ => none }
def FnExactStatesOfChainWrongFalsely : Prop := fnExactStatesOfChainRow.holds Try.pinned (OpenSpec.ofChange fnExactStatesOfChainWrong)

/-- 'laws.FnExactStateClasses': WHATEVER THE INPUT: true; the input reads as it did. -/
def fnExactStateClassesSpec : ChangeSpec := { name := "fnExactStateClasses", fn := fun _ => fun
  | [d] => { results := [.lit (.bool true)], args := [d] }
  | _ => none }
def fnExactStateClassesRow : OpenClaim := { program := "ytliiljjeebnfeaa", sum := "638d55d6f41b185caed8b03b39bf2e1ccbca869225fb77f811f56c62e7b8b34d", func := "loop.example/g01337/laws.FnExactStateClasses", spec := "fnExactStateClasses", apart := false }
def FnExactStateClassesSaid : Prop := fnExactStateClassesRow.holds Try.pinned (OpenSpec.ofChange fnExactStateClassesSpec)

/-- ITS FALSE NEIGHBOUR: 'it returns false'. Refute it at one input. -/
def fnExactStateClassesWrong : ChangeSpec := { name := "fnExactStateClasses", fn := fun _ => fun
  | [d] => { results := [.lit (.bool false)], args := [d] }
  | _ => none }
def FnExactStateClassesWrongFalsely : Prop := fnExactStateClassesRow.holds Try.pinned (OpenSpec.ofChange fnExactStateClassesWrong)

/-- 'laws.FnExactLastingStates': WHATEVER THE INPUT: true; the input reads as it did. -/
def fnExactLastingStatesSpec : ChangeSpec := { name := "fnExactLastingStates", fn := fun _ => fun
  | [d] => { results := [.lit (.bool true)], args := [d] }
  | _ => none }
def fnExactLastingStatesRow : OpenClaim := { program := "ytliiljjeebnfeaa", sum := "638d55d6f41b185caed8b03b39bf2e1ccbca869225fb77f811f56c62e7b8b34d", func := "loop.example/g01337/laws.FnExactLastingStates", spec := "fnExactLastingStates", apart := false }
def FnExactLastingStatesSaid : Prop := fnExactLastingStatesRow.holds Try.pinned (OpenSpec.ofChange fnExactLastingStatesSpec)

/-- ITS FALSE NEIGHBOUR: 'it returns false'. Refute it at one input. -/
def fnExactLastingStatesWrong : ChangeSpec := { name := "fnExactLastingStates", fn := fun _ => fun
  | [d] => { results := [.lit (.bool false)], args := [d] }
  | _ => none }
def FnExactLastingStatesWrongFalsely : Prop := fnExactLastingStatesRow.holds Try.pinned (OpenSpec.ofChange fnExactLastingStatesWrong)

/- THE SECOND FORM. 'bulk': how many values and letters a reading holds, each counted each time it is reached (what is shared counts as often as it is met; a slice's spare places count too). A statement '..UptoSaid' is the law's where the arguments, and the package variables that the reading takes, are together of bulk at most 1048576: NARROWER than '..Said'. Prove '..Said' where nothing that the law and all that it calls make is longer than what came in: it says more and counts as full. Else prove '..UptoSaid'. A law counts once. -/
mutual
def uptoBulk {H : Type} : DataW H → Nat
  | .lit (.string bytes) => bytes.length + 1
  | .lit _ => 1
  | .nil => 1
  | .ptr d => uptoBulk d + 1
  | .slice elems spare => uptoBulkAll elems + uptoBulkAll spare + 1
  | .agg parts => uptoBulkAll parts + 1
  | .iface _ d => uptoBulk d + 1
  | .map entries => uptoBulkEntries entries + 1
  | .held _ => 1
def uptoBulkAll {H : Type} : List (DataW H) → Nat
  | [] => 0
  | d :: r => uptoBulk d + uptoBulkAll r
def uptoBulkEntries {H : Type} : List (Lit × DataW H) → Nat
  | [] => 0
  | x :: r => uptoBulkEntry x + uptoBulkEntries r
def uptoBulkEntry {H : Type} : Lit × DataW H → Nat
  | (.string bytes, d) => bytes.length + uptoBulk d + 1
  | (_, d) => uptoBulk d + 1
 end
def uptoSmall : (H : Type) → List (DataW H) → Bool := fun _ ds => decide (uptoBulkAll ds ≤ 1048576)
def OpenSpec.upto (s : _root_.Go.ChangeSpec) : _root_.Go.OpenSpec := { _root_.Go.OpenSpec.ofChange s with cond := some uptoSmall }

/-- 'laws.FnExactShortestWait', WHERE WHAT IT READS IS OF BULK AT MOST 1048576: true; the input reads as it did. -/
def fnExactShortestWaitUptoRow : OpenClaim := { program := "ytliiljjeebnfeaa", sum := "638d55d6f41b185caed8b03b39bf2e1ccbca869225fb77f811f56c62e7b8b34d", func := "loop.example/g01337/laws.FnExactShortestWait", spec := "fnExactShortestWait", apart := false, narrowed := true }
def FnExactShortestWaitUptoSaid : Prop := fnExactShortestWaitUptoRow.holds Try.pinned (OpenSpec.upto fnExactShortestWaitSpec)

/-- 'laws.FnExactHardestToBeat', WHERE WHAT IT READS IS OF BULK AT MOST 1048576: true; the input reads as it did. -/
def fnExactHardestToBeatUptoRow : OpenClaim := { program := "ytliiljjeebnfeaa", sum := "638d55d6f41b185caed8b03b39bf2e1ccbca869225fb77f811f56c62e7b8b34d", func := "loop.example/g01337/laws.FnExactHardestToBeat", spec := "fnExactHardestToBeat", unfollowed := true, recurses := true, apart := false, narrowed := true }
def FnExactHardestToBeatUptoSaid : Prop := fnExactHardestToBeatUptoRow.holds Try.pinned (OpenSpec.upto fnExactHardestToBeatSpec)

/-- 'laws.FnExactAreStates', WHERE WHAT IT READS IS OF BULK AT MOST 1048576: true; the input reads as it did. -/
def fnExactAreStatesUptoRow : OpenClaim := { program := "ytliiljjeebnfeaa", sum := "638d55d6f41b185caed8b03b39bf2e1ccbca869225fb77f811f56c62e7b8b34d", func := "loop.example/g01337/laws.FnExactAreStates", spec := "fnExactAreStates", apart := false, narrowed := true }
def FnExactAreStatesUptoSaid : Prop := fnExactAreStatesUptoRow.holds Try.pinned (OpenSpec.upto fnExactAreStatesSpec)

/-- 'laws.FnExactEndStates', WHERE WHAT IT READS IS OF BULK AT MOST 1048576: true; the input reads as it did. -/
def fnExactEndStatesUptoRow : OpenClaim := { program := "ytliiljjeebnfeaa", sum := "638d55d6f41b185caed8b03b39bf2e1ccbca869225fb77f811f56c62e7b8b34d", func := "loop.example/g01337/laws.FnExactEndStates", spec := "fnExactEndStates", apart := false, narrowed := true }
def FnExactEndStatesUptoSaid : Prop := fnExactEndStatesUptoRow.holds Try.pinned (OpenSpec.upto fnExactEndStatesSpec)

/-- 'laws.FnExactChanceOfStep', WHERE WHAT IT READS IS OF BULK AT MOST 1048576: true; the input reads as it did. -/
def fnExactChanceOfStepUptoRow : OpenClaim := { program := "ytliiljjeebnfeaa", sum := "638d55d6f41b185caed8b03b39bf2e1ccbca869225fb77f811f56c62e7b8b34d", func := "loop.example/g01337/laws.FnExactChanceOfStep", spec := "fnExactChanceOfStep", unfollowed := true, recurses := true, apart := false, narrowed := true }
def FnExactChanceOfStepUptoSaid : Prop := fnExactChanceOfStepUptoRow.holds Try.pinned (OpenSpec.upto fnExactChanceOfStepSpec)

/-- 'laws.FnExactCountWays', WHERE WHAT IT READS IS OF BULK AT MOST 1048576: true; the input reads as it did. -/
def fnExactCountWaysUptoRow : OpenClaim := { program := "ytliiljjeebnfeaa", sum := "638d55d6f41b185caed8b03b39bf2e1ccbca869225fb77f811f56c62e7b8b34d", func := "loop.example/g01337/laws.FnExactCountWays", spec := "fnExactCountWays", unfollowed := true, recurses := true, apart := false, narrowed := true }
def FnExactCountWaysUptoSaid : Prop := fnExactCountWaysUptoRow.holds Try.pinned (OpenSpec.upto fnExactCountWaysSpec)

/-- 'laws.FnExactIsOneClass', WHERE WHAT IT READS IS OF BULK AT MOST 1048576: true; the input reads as it did. -/
def fnExactIsOneClassUptoRow : OpenClaim := { program := "ytliiljjeebnfeaa", sum := "638d55d6f41b185caed8b03b39bf2e1ccbca869225fb77f811f56c62e7b8b34d", func := "loop.example/g01337/laws.FnExactIsOneClass", spec := "fnExactIsOneClass", apart := false, narrowed := true }
def FnExactIsOneClassUptoSaid : Prop := fnExactIsOneClassUptoRow.holds Try.pinned (OpenSpec.upto fnExactIsOneClassSpec)

/-- 'laws.FnExactReachedStates', WHERE WHAT IT READS IS OF BULK AT MOST 1048576: true; the input reads as it did. -/
def fnExactReachedStatesUptoRow : OpenClaim := { program := "ytliiljjeebnfeaa", sum := "638d55d6f41b185caed8b03b39bf2e1ccbca869225fb77f811f56c62e7b8b34d", func := "loop.example/g01337/laws.FnExactReachedStates", spec := "fnExactReachedStates", unfollowed := true, recurses := true, apart := false, narrowed := true }
def FnExactReachedStatesUptoSaid : Prop := fnExactReachedStatesUptoRow.holds Try.pinned (OpenSpec.upto fnExactReachedStatesSpec)

/-- 'laws.FnExactStatesAfter', WHERE WHAT IT READS IS OF BULK AT MOST 1048576: true; the input reads as it did. -/
def fnExactStatesAfterUptoRow : OpenClaim := { program := "ytliiljjeebnfeaa", sum := "638d55d6f41b185caed8b03b39bf2e1ccbca869225fb77f811f56c62e7b8b34d", func := "loop.example/g01337/laws.FnExactStatesAfter", spec := "fnExactStatesAfter", unfollowed := true, recurses := true, apart := false, narrowed := true }
def FnExactStatesAfterUptoSaid : Prop := fnExactStatesAfterUptoRow.holds Try.pinned (OpenSpec.upto fnExactStatesAfterSpec)

/-- 'laws.FnExactStatesOfChain', WHERE WHAT IT READS IS OF BULK AT MOST 1048576: true; the input reads as it did. -/
def fnExactStatesOfChainUptoRow : OpenClaim := { program := "ytliiljjeebnfeaa", sum := "638d55d6f41b185caed8b03b39bf2e1ccbca869225fb77f811f56c62e7b8b34d", func := "loop.example/g01337/laws.FnExactStatesOfChain", spec := "fnExactStatesOfChain", apart := false, narrowed := true }
def FnExactStatesOfChainUptoSaid : Prop := fnExactStatesOfChainUptoRow.holds Try.pinned (OpenSpec.upto fnExactStatesOfChainSpec)

/-- 'laws.FnExactStateClasses', WHERE WHAT IT READS IS OF BULK AT MOST 1048576: true; the input reads as it did. -/
def fnExactStateClassesUptoRow : OpenClaim := { program := "ytliiljjeebnfeaa", sum := "638d55d6f41b185caed8b03b39bf2e1ccbca869225fb77f811f56c62e7b8b34d", func := "loop.example/g01337/laws.FnExactStateClasses", spec := "fnExactStateClasses", apart := false, narrowed := true }
def FnExactStateClassesUptoSaid : Prop := fnExactStateClassesUptoRow.holds Try.pinned (OpenSpec.upto fnExactStateClassesSpec)

/-- 'laws.FnExactLastingStates', WHERE WHAT IT READS IS OF BULK AT MOST 1048576: true; the input reads as it did. -/
def fnExactLastingStatesUptoRow : OpenClaim := { program := "ytliiljjeebnfeaa", sum := "638d55d6f41b185caed8b03b39bf2e1ccbca869225fb77f811f56c62e7b8b34d", func := "loop.example/g01337/laws.FnExactLastingStates", spec := "fnExactLastingStates", apart := false, narrowed := true }
def FnExactLastingStatesUptoSaid : Prop := fnExactLastingStatesUptoRow.holds Try.pinned (OpenSpec.upto fnExactLastingStatesSpec)

end Rows
end Go.Proofs.Ytliiljjeebnfeaa

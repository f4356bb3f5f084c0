/-
  No cell of these rows narrows 'for every input' (looked for: loops, veiled, ifaces, maps, wideKeys, modest, calm, conditions, laid).
  DERIVED. THE GIVEN ROWS OF THIS SEAT. 10 by the template 'for every input the law returns true; each argument reads behind the call as it read before'; 0 by the template 'total and deterministic' (their statements: YtnfcfhieocgomaaTotals.lean).
  GIVEN WITH THE SEED: the statements are not yours to turn. If you find one false, say at which input.
  Laid BY PROGRAM, IN A SANDBOX (cutbox-rows.mjs): the forced cells as the released guide's own fill.sh prints them over the translation 46983c7d0d8de0a5… (all of the seat's roots in one cut). By AI agents, Wed Nov 11 2026. No macro, syntax, notation, axiom, sorry.
-/
import Derived.Test.YtnfcfhieocgomaaChecked
import GoSem.Claim
import GoSem.ClaimJoined
import GoSem.ClaimMapViews
import Derived.JoinedTies
import Derived.KernelRfl
namespace Go.Proofs.Ytnfcfhieocgomaa
/- THE CELL 'sum', in the pinned program and in every row, IS THE sha256 OF THE DUMP (.gsa) THAT YtnfcfhieocgomaaProg.lean LOADS. Nothing in Lean hashes anything: it is a label: what it is worth is what the hold of that sum in a sandbox is worth. -/
noncomputable def Try.pinned : Pinned := { name := "ytnfcfhieocgomaa", sum := "46983c7d0d8de0a57b94dc4c57fa232db9069268fe7f1e3de82583b1837443dc", checked := Try.checked }
namespace Rows
def none {H : Type} : Left H := { results := [], args := [] }

/-- 'laws.FnExactMeanRun': WHATEVER THE INPUT: true; the input reads as it did. -/
def fnExactMeanRunSpec : ChangeSpec := { name := "fnExactMeanRun", fn := fun _ => fun
  | [d1, d2] => { results := [.lit (.bool true)], args := [d1, d2] }
  | _ => none }
def fnExactMeanRunRow : OpenClaim := { program := "ytnfcfhieocgomaa", sum := "46983c7d0d8de0a57b94dc4c57fa232db9069268fe7f1e3de82583b1837443dc", func := "loop.example/g01337/laws.FnExactMeanRun", spec := "fnExactMeanRun", apart := false }
def FnExactMeanRunSaid : Prop := fnExactMeanRunRow.holds Try.pinned (OpenSpec.ofChange fnExactMeanRunSpec)

/-- ITS FALSE NEIGHBOUR: 'it returns false'. Refute it at one input. -/
def fnExactMeanRunWrong : ChangeSpec := { name := "fnExactMeanRun", fn := fun _ => fun
  | [d1, d2] => { results := [.lit (.bool false)], args := [d1, d2] }
  | _ => none }
def FnExactMeanRunWrongFalsely : Prop := fnExactMeanRunRow.holds Try.pinned (OpenSpec.ofChange fnExactMeanRunWrong)

/-- 'laws.FnExactLongShare': WHATEVER THE INPUT: true; the input reads as it did. -/
def fnExactLongShareSpec : ChangeSpec := { name := "fnExactLongShare", fn := fun _ => fun
  | [d1, d2] => { results := [.lit (.bool true)], args := [d1, d2] }
  | _ => none }
def fnExactLongShareRow : OpenClaim := { program := "ytnfcfhieocgomaa", sum := "46983c7d0d8de0a57b94dc4c57fa232db9069268fe7f1e3de82583b1837443dc", func := "loop.example/g01337/laws.FnExactLongShare", spec := "fnExactLongShare", apart := false }
def FnExactLongShareSaid : Prop := fnExactLongShareRow.holds Try.pinned (OpenSpec.ofChange fnExactLongShareSpec)

/-- ITS FALSE NEIGHBOUR: 'it returns false'. Refute it at one input. -/
def fnExactLongShareWrong : ChangeSpec := { name := "fnExactLongShare", fn := fun _ => fun
  | [d1, d2] => { results := [.lit (.bool false)], args := [d1, d2] }
  | _ => none }
def FnExactLongShareWrongFalsely : Prop := fnExactLongShareRow.holds Try.pinned (OpenSpec.ofChange fnExactLongShareWrong)

/-- 'laws.FnExactChanceNext': WHATEVER THE INPUT: true; the input reads as it did. -/
def fnExactChanceNextSpec : ChangeSpec := { name := "fnExactChanceNext", fn := fun _ => fun
  | [d1, d2, d3] => { results := [.lit (.bool true)], args := [d1, d2, d3] }
  | _ => none }
def fnExactChanceNextRow : OpenClaim := { program := "ytnfcfhieocgomaa", sum := "46983c7d0d8de0a57b94dc4c57fa232db9069268fe7f1e3de82583b1837443dc", func := "loop.example/g01337/laws.FnExactChanceNext", spec := "fnExactChanceNext", apart := false }
def FnExactChanceNextSaid : Prop := fnExactChanceNextRow.holds Try.pinned (OpenSpec.ofChange fnExactChanceNextSpec)

/-- ITS FALSE NEIGHBOUR: 'it returns false'. Refute it at one input. -/
def fnExactChanceNextWrong : ChangeSpec := { name := "fnExactChanceNext", fn := fun _ => fun
  | [d1, d2, d3] => { results := [.lit (.bool false)], args := [d1, d2, d3] }
  | _ => none }
def FnExactChanceNextWrongFalsely : Prop := fnExactChanceNextRow.holds Try.pinned (OpenSpec.ofChange fnExactChanceNextWrong)

/-- 'laws.FnExactChanceOfRun': WHATEVER THE INPUT: true; the input reads as it did. -/
def fnExactChanceOfRunSpec : ChangeSpec := { name := "fnExactChanceOfRun", fn := fun _ => fun
  | [d1, d2, d3] => { results := [.lit (.bool true)], args := [d1, d2, d3] }
  | _ => none }
def fnExactChanceOfRunRow : OpenClaim := { program := "ytnfcfhieocgomaa", sum := "46983c7d0d8de0a57b94dc4c57fa232db9069268fe7f1e3de82583b1837443dc", func := "loop.example/g01337/laws.FnExactChanceOfRun", spec := "fnExactChanceOfRun", apart := false }
def FnExactChanceOfRunSaid : Prop := fnExactChanceOfRunRow.holds Try.pinned (OpenSpec.ofChange fnExactChanceOfRunSpec)

/-- ITS FALSE NEIGHBOUR: 'it returns false'. Refute it at one input. -/
def fnExactChanceOfRunWrong : ChangeSpec := { name := "fnExactChanceOfRun", fn := fun _ => fun
  | [d1, d2, d3] => { results := [.lit (.bool false)], args := [d1, d2, d3] }
  | _ => none }
def FnExactChanceOfRunWrongFalsely : Prop := fnExactChanceOfRunRow.holds Try.pinned (OpenSpec.ofChange fnExactChanceOfRunWrong)

/-- 'laws.FnExactChanceLater': WHATEVER THE INPUT: true; the input reads as it did. -/
def fnExactChanceLaterSpec : ChangeSpec := { name := "fnExactChanceLater", fn := fun _ => fun
  | [d1, d2, d3, d4] => { results := [.lit (.bool true)], args := [d1, d2, d3, d4] }
  | _ => none }
def fnExactChanceLaterRow : OpenClaim := { program := "ytnfcfhieocgomaa", sum := "46983c7d0d8de0a57b94dc4c57fa232db9069268fe7f1e3de82583b1837443dc", func := "loop.example/g01337/laws.FnExactChanceLater", spec := "fnExactChanceLater", recurses := true, apart := false }
def FnExactChanceLaterSaid : Prop := fnExactChanceLaterRow.holds Try.pinned (OpenSpec.ofChange fnExactChanceLaterSpec)

/-- ITS FALSE NEIGHBOUR: 'it returns false'. Refute it at one input. -/
def fnExactChanceLaterWrong : ChangeSpec := { name := "fnExactChanceLater", fn := fun _ => fun
  | [d1, d2, d3, d4] => { results := [.lit (.bool false)], args := [d1, d2, d3, d4] }
  | _ => none }
def FnExactChanceLaterWrongFalsely : Prop := fnExactChanceLaterRow.holds Try.pinned (OpenSpec.ofChange fnExactChanceLaterWrong)

/-- 'laws.FnExactMeanUntil': WHATEVER THE INPUT: true; the input reads as it did. -/
def fnExactMeanUntilSpec : ChangeSpec := { name := "fnExactMeanUntil", fn := fun _ => fun
  | [d1, d2, d3] => { results := [.lit (.bool true)], args := [d1, d2, d3] }
  | _ => none }
def fnExactMeanUntilRow : OpenClaim := { program := "ytnfcfhieocgomaa", sum := "46983c7d0d8de0a57b94dc4c57fa232db9069268fe7f1e3de82583b1837443dc", func := "loop.example/g01337/laws.FnExactMeanUntil", spec := "fnExactMeanUntil", apart := false }
def FnExactMeanUntilSaid : Prop := fnExactMeanUntilRow.holds Try.pinned (OpenSpec.ofChange fnExactMeanUntilSpec)

/-- ITS FALSE NEIGHBOUR: 'it returns false'. Refute it at one input. -/
def fnExactMeanUntilWrong : ChangeSpec := { name := "fnExactMeanUntil", fn := fun _ => fun
  | [d1, d2, d3] => { results := [.lit (.bool false)], args := [d1, d2, d3] }
  | _ => none }
def FnExactMeanUntilWrongFalsely : Prop := fnExactMeanUntilRow.holds Try.pinned (OpenSpec.ofChange fnExactMeanUntilWrong)

/-- 'laws.FnExactMeanWets': WHATEVER THE INPUT: true; the input reads as it did. -/
def fnExactMeanWetsSpec : ChangeSpec := { name := "fnExactMeanWets", fn := fun _ => fun
  | [d1, d2, d3] => { results := [.lit (.bool true)], args := [d1, d2, d3] }
  | _ => none }
def fnExactMeanWetsRow : OpenClaim := { program := "ytnfcfhieocgomaa", sum := "46983c7d0d8de0a57b94dc4c57fa232db9069268fe7f1e3de82583b1837443dc", func := "loop.example/g01337/laws.FnExactMeanWets", spec := "fnExactMeanWets", recurses := true, apart := false }
def FnExactMeanWetsSaid : Prop := fnExactMeanWetsRow.holds Try.pinned (OpenSpec.ofChange fnExactMeanWetsSpec)

/-- ITS FALSE NEIGHBOUR: 'it returns false'. Refute it at one input. -/
def fnExactMeanWetsWrong : ChangeSpec := { name := "fnExactMeanWets", fn := fun _ => fun
  | [d1, d2, d3] => { results := [.lit (.bool false)], args := [d1, d2, d3] }
  | _ => none }
def FnExactMeanWetsWrongFalsely : Prop := fnExactMeanWetsRow.holds Try.pinned (OpenSpec.ofChange fnExactMeanWetsWrong)

/-- 'laws.FnExactMeanKeeping': WHATEVER THE INPUT: true; the input reads as it did. -/
def fnExactMeanKeepingSpec : ChangeSpec := { name := "fnExactMeanKeeping", fn := fun _ => fun
  | [d] => { results := [.lit (.bool true)], args := [d] }
  | _ => none }
def fnExactMeanKeepingRow : OpenClaim := { program := "ytnfcfhieocgomaa", sum := "46983c7d0d8de0a57b94dc4c57fa232db9069268fe7f1e3de82583b1837443dc", func := "loop.example/g01337/laws.FnExactMeanKeeping", spec := "fnExactMeanKeeping", apart := false }
def FnExactMeanKeepingSaid : Prop := fnExactMeanKeepingRow.holds Try.pinned (OpenSpec.ofChange fnExactMeanKeepingSpec)

/-- ITS FALSE NEIGHBOUR: 'it returns false'. Refute it at one input. -/
def fnExactMeanKeepingWrong : ChangeSpec := { name := "fnExactMeanKeeping", fn := fun _ => fun
  | [d] => { results := [.lit (.bool false)], args := [d] }
  | _ => none }
def FnExactMeanKeepingWrongFalsely : Prop := fnExactMeanKeepingRow.holds Try.pinned (OpenSpec.ofChange fnExactMeanKeepingWrong)

/-- 'laws.FnExactLikeliestDays': WHATEVER THE INPUT: true; the input reads as it did. -/
def fnExactLikeliestDaysSpec : ChangeSpec := { name := "fnExactLikeliestDays", fn := fun _ => fun
  | [d1, d2, d3] => { results := [.lit (.bool true)], args := [d1, d2, d3] }
  | _ => none }
def fnExactLikeliestDaysRow : OpenClaim := { program := "ytnfcfhieocgomaa", sum := "46983c7d0d8de0a57b94dc4c57fa232db9069268fe7f1e3de82583b1837443dc", func := "loop.example/g01337/laws.FnExactLikeliestDays", spec := "fnExactLikeliestDays", apart := false }
def FnExactLikeliestDaysSaid : Prop := fnExactLikeliestDaysRow.holds Try.pinned (OpenSpec.ofChange fnExactLikeliestDaysSpec)

/-- ITS FALSE NEIGHBOUR: 'it returns false'. Refute it at one input. -/
def fnExactLikeliestDaysWrong : ChangeSpec := { name := "fnExactLikeliestDays", fn := fun _ => fun
  | [d1, d2, d3] => { results := [.lit (.bool false)], args := [d1, d2, d3] }
  | _ => none }
def FnExactLikeliestDaysWrongFalsely : Prop := fnExactLikeliestDaysRow.holds Try.pinned (OpenSpec.ofChange fnExactLikeliestDaysWrong)

/-- 'laws.FnExactLongestWait': WHATEVER THE INPUT: true; the input reads as it did. -/
def fnExactLongestWaitSpec : ChangeSpec := { name := "fnExactLongestWait", fn := fun _ => fun
  | [d] => { results := [.lit (.bool true)], args := [d] }
  | _ => none }
def fnExactLongestWaitRow : OpenClaim := { program := "ytnfcfhieocgomaa", sum := "46983c7d0d8de0a57b94dc4c57fa232db9069268fe7f1e3de82583b1837443dc", func := "loop.example/g01337/laws.FnExactLongestWait", spec := "fnExactLongestWait", apart := false }
def FnExactLongestWaitSaid : Prop := fnExactLongestWaitRow.holds Try.pinned (OpenSpec.ofChange fnExactLongestWaitSpec)

/-- ITS FALSE NEIGHBOUR: 'it returns false'. Refute it at one input. -/
def fnExactLongestWaitWrong : ChangeSpec := { name := "fnExactLongestWait", fn := fun _ => fun
  | [d] => { results := [.lit (.bool false)], args := [d] }
  | _ => none }
def FnExactLongestWaitWrongFalsely : Prop := fnExactLongestWaitRow.holds Try.pinned (OpenSpec.ofChange fnExactLongestWaitWrong)

/- THE SECOND FORM. 'bulk': how many values and letters a reading holds, each counted each time it is reached (what is shared counts as often as it is met; a slice's spare places count too). A statement '..UptoSaid' is the law's where the arguments, and the package variables that the reading takes, are together of bulk at most 1048576: NARROWER than '..Said'. Prove '..Said' where nothing that the law and all that it calls make is longer than what came in: it says more and counts as full. Else prove '..UptoSaid'. A law counts once. -/
mutual
def uptoBulk {H : Type} : DataW H → Nat
  | .lit (.string bytes) => bytes.length + 1
  | .lit _ => 1
  | .nil => 1
  | .ptr d => uptoBulk d + 1
  | .slice elems spare => uptoBulkAll elems + uptoBulkAll spare + 1
  | .agg parts => uptoBulkAll parts + 1
  | .iface _ d => uptoBulk d + 1
  | .map entries => uptoBulkEntries entries + 1
  | .held _ => 1
def uptoBulkAll {H : Type} : List (DataW H) → Nat
  | [] => 0
  | d :: r => uptoBulk d + uptoBulkAll r
def uptoBulkEntries {H : Type} : List (Lit × DataW H) → Nat
  | [] => 0
  | x :: r => uptoBulkEntry x + uptoBulkEntries r
def uptoBulkEntry {H : Type} : Lit × DataW H → Nat
  | (.string bytes, d) => bytes.length + uptoBulk d + 1
  | (_, d) => uptoBulk d + 1
 end
def uptoSmall : (H : Type) → List (DataW H) → Bool := fun _ ds => decide (uptoBulkAll ds ≤ 1048576)
def OpenSpec.upto (s : _root_.Go.ChangeSpec) : _root_.Go.OpenSpec := { _root_.Go.OpenSpec.ofChange s with cond := some uptoSmall }

/-- 'laws.FnExactMeanRun', WHERE WHAT IT READS IS OF BULK AT MOST 1048576: true; the input reads as it did. -/
def fnExactMeanRunUptoRow : OpenClaim := { program := "ytnfcfhieocgomaa", sum := "46983c7d0d8de0a57b94dc4c57fa232db9069268fe7f1e3de82583b1837443dc", func := "loop.example/g01337/laws.FnExactMeanRun", spec := "fnExactMeanRun", apart := false, narrowed := true }
def FnExactMeanRunUptoSaid : Prop := fnExactMeanRunUptoRow.holds Try.pinned (OpenSpec.upto fnExactMeanRunSpec)

/-- 'laws.FnExactLongShare', WHERE WHAT IT READS IS OF BULK AT MOST 1048576: true; the input reads as it did. -/
def fnExactLongShareUptoRow : OpenClaim := { program := "ytnfcfhieocgomaa", sum := "46983c7d0d8de0a57b94dc4c57fa232db9069268fe7f1e3de82583b1837443dc", func := "loop.example/g01337/laws.FnExactLongShare", spec := "fnExactLongShare", apart := false, narrowed := true }
def FnExactLongShareUptoSaid : Prop := fnExactLongShareUptoRow.holds Try.pinned (OpenSpec.upto fnExactLongShareSpec)

/-- 'laws.FnExactChanceNext', WHERE WHAT IT READS IS OF BULK AT MOST 1048576: true; the input reads as it did. -/
def fnExactChanceNextUptoRow : OpenClaim := { program := "ytnfcfhieocgomaa", sum := "46983c7d0d8de0a57b94dc4c57fa232db9069268fe7f1e3de82583b1837443dc", func := "loop.example/g01337/laws.FnExactChanceNext", spec := "fnExactChanceNext", apart := false, narrowed := true }
def FnExactChanceNextUptoSaid : Prop := fnExactChanceNextUptoRow.holds Try.pinned (OpenSpec.upto fnExactChanceNextSpec)

/-- 'laws.FnExactChanceOfRun', WHERE WHAT IT READS IS OF BULK AT MOST 1048576: true; the input reads as it did. -/
def fnExactChanceOfRunUptoRow : OpenClaim := { program := "ytnfcfhieocgomaa", sum := "46983c7d0d8de0a57b94dc4c57fa232db9069268fe7f1e3de82583b1837443dc", func := "loop.example/g01337/laws.FnExactChanceOfRun", spec := "fnExactChanceOfRun", apart := false, narrowed := true }
def FnExactChanceOfRunUptoSaid : Prop := fnExactChanceOfRunUptoRow.holds Try.pinned (OpenSpec.upto fnExactChanceOfRunSpec)

/-- 'laws.FnExactChanceLater', WHERE WHAT IT READS IS OF BULK AT MOST 1048576: true; the input reads as it did. -/
def fnExactChanceLaterUptoRow : OpenClaim := { program := "ytnfcfhieocgomaa", sum := "46983c7d0d8de0a57b94dc4c57fa232db9069268fe7f1e3de82583b1837443dc", func := "loop.example/g01337/laws.FnExactChanceLater", spec := "fnExactChanceLater", recurses := true, apart := false, narrowed := true }
def FnExactChanceLaterUptoSaid : Prop := fnExactChanceLaterUptoRow.holds Try.pinned (OpenSpec.upto fnExactChanceLaterSpec)

/-- 'laws.FnExactMeanUntil', WHERE WHAT IT READS IS OF BULK AT MOST 1048576: true; the input reads as it did. -/
def fnExactMeanUntilUptoRow : OpenClaim := { program := "ytnfcfhieocgomaa", sum := "46983c7d0d8de0a57b94dc4c57fa232db9069268fe7f1e3de82583b1837443dc", func := "loop.example/g01337/laws.FnExactMeanUntil", spec := "fnExactMeanUntil", apart := false, narrowed := true }
def FnExactMeanUntilUptoSaid : Prop := fnExactMeanUntilUptoRow.holds Try.pinned (OpenSpec.upto fnExactMeanUntilSpec)

/-- 'laws.FnExactMeanWets', WHERE WHAT IT READS IS OF BULK AT MOST 1048576: true; the input reads as it did. -/
def fnExactMeanWetsUptoRow : OpenClaim := { program := "ytnfcfhieocgomaa", sum := "46983c7d0d8de0a57b94dc4c57fa232db9069268fe7f1e3de82583b1837443dc", func := "loop.example/g01337/laws.FnExactMeanWets", spec := "fnExactMeanWets", recurses := true, apart := false, narrowed := true }
def FnExactMeanWetsUptoSaid : Prop := fnExactMeanWetsUptoRow.holds Try.pinned (OpenSpec.upto fnExactMeanWetsSpec)

/-- 'laws.FnExactMeanKeeping', WHERE WHAT IT READS IS OF BULK AT MOST 1048576: true; the input reads as it did. -/
def fnExactMeanKeepingUptoRow : OpenClaim := { program := "ytnfcfhieocgomaa", sum := "46983c7d0d8de0a57b94dc4c57fa232db9069268fe7f1e3de82583b1837443dc", func := "loop.example/g01337/laws.FnExactMeanKeeping", spec := "fnExactMeanKeeping", apart := false, narrowed := true }
def FnExactMeanKeepingUptoSaid : Prop := fnExactMeanKeepingUptoRow.holds Try.pinned (OpenSpec.upto fnExactMeanKeepingSpec)

/-- 'laws.FnExactLikeliestDays', WHERE WHAT IT READS IS OF BULK AT MOST 1048576: true; the input reads as it did. -/
def fnExactLikeliestDaysUptoRow : OpenClaim := { program := "ytnfcfhieocgomaa", sum := "46983c7d0d8de0a57b94dc4c57fa232db9069268fe7f1e3de82583b1837443dc", func := "loop.example/g01337/laws.FnExactLikeliestDays", spec := "fnExactLikeliestDays", apart := false, narrowed := true }
def FnExactLikeliestDaysUptoSaid : Prop := fnExactLikeliestDaysUptoRow.holds Try.pinned (OpenSpec.upto fnExactLikeliestDaysSpec)

/-- 'laws.FnExactLongestWait', WHERE WHAT IT READS IS OF BULK AT MOST 1048576: true; the input reads as it did. -/
def fnExactLongestWaitUptoRow : OpenClaim := { program := "ytnfcfhieocgomaa", sum := "46983c7d0d8de0a57b94dc4c57fa232db9069268fe7f1e3de82583b1837443dc", func := "loop.example/g01337/laws.FnExactLongestWait", spec := "fnExactLongestWait", apart := false, narrowed := true }
def FnExactLongestWaitUptoSaid : Prop := fnExactLongestWaitUptoRow.holds Try.pinned (OpenSpec.upto fnExactLongestWaitSpec)

end Rows
end Go.Proofs.Ytnfcfhieocgomaa

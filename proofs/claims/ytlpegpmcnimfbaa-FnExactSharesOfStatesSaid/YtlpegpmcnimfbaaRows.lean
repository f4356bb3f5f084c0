/-
  No cell of these rows narrows 'for every input' (looked for: loops, veiled, ifaces, maps, wideKeys, modest, calm, conditions, laid).
  DERIVED. THE GIVEN ROWS OF THIS SEAT. 7 by the template 'for every input the law returns true; each argument reads behind the call as it read before'; 0 by the template 'total and deterministic' (their statements: YtlpegpmcnimfbaaTotals.lean).
  GIVEN WITH THE SEED: the statements are not yours to turn. If you find one false, say at which input.
  Laid BY PROGRAM, IN A SANDBOX (cutbox-rows.mjs): the forced cells as the released guide's own fill.sh prints them over the translation eccc6c072a35963f… (all of the seat's roots in one cut). By AI agents, Wed Nov 11 2026. No macro, syntax, notation, axiom, sorry.
-/
import Derived.Test.YtlpegpmcnimfbaaChecked
import GoSem.Claim
import GoSem.ClaimJoined
import GoSem.ClaimMapViews
import Derived.JoinedTies
import Derived.KernelRfl
namespace Go.Proofs.Ytlpegpmcnimfbaa
/- THE CELL 'sum', in the pinned program and in every row, IS THE sha256 OF THE DUMP (.gsa) THAT YtlpegpmcnimfbaaProg.lean LOADS. Nothing in Lean hashes anything: it is a label: what it is worth is what the hold of that sum in a sandbox is worth. -/
noncomputable def Try.pinned : Pinned := { name := "ytlpegpmcnimfbaa", sum := "eccc6c072a35963f8f8b90da6ca6001025f17d443a3ee9ec0473529f13579b61", checked := Try.checked }
namespace Rows
def none {H : Type} : Left H := { results := [], args := [] }

/-- 'laws.FnExactFirstWay': WHATEVER THE INPUT: true; the input reads as it did. -/
def fnExactFirstWaySpec : ChangeSpec := { name := "fnExactFirstWay", fn := fun _ => fun
  | [d1, d2, d3] => { results := [.lit (.bool true)], args := [d1, d2, d3] }
  | _ => none }
def fnExactFirstWayRow : OpenClaim := { program := "ytlpegpmcnimfbaa", sum := "eccc6c072a35963f8f8b90da6ca6001025f17d443a3ee9ec0473529f13579b61", func := "loop.example/g01337/laws.FnExactFirstWay", spec := "fnExactFirstWay", unfollowed := true, recurses := true, apart := false }
def FnExactFirstWaySaid : Prop := fnExactFirstWayRow.holds Try.pinned (OpenSpec.ofChange fnExactFirstWaySpec)

/-- ITS FALSE NEIGHBOUR: 'it returns false'. Refute it at one input. -/
def fnExactFirstWayWrong : ChangeSpec := { name := "fnExactFirstWay", fn := fun _ => fun
  | [d1, d2, d3] => { results := [.lit (.bool false)], args := [d1, d2, d3] }
  | _ => none }
def FnExactFirstWayWrongFalsely : Prop := fnExactFirstWayRow.holds Try.pinned (OpenSpec.ofChange fnExactFirstWayWrong)

/-- 'laws.FnExactPeriodOfState': WHATEVER THE INPUT: true; the input reads as it did. -/
def fnExactPeriodOfStateSpec : ChangeSpec := { name := "fnExactPeriodOfState", fn := fun _ => fun
  | [d1, d2] => { results := [.lit (.bool true)], args := [d1, d2] }
  | _ => none }
def fnExactPeriodOfStateRow : OpenClaim := { program := "ytlpegpmcnimfbaa", sum := "eccc6c072a35963f8f8b90da6ca6001025f17d443a3ee9ec0473529f13579b61", func := "loop.example/g01337/laws.FnExactPeriodOfState", spec := "fnExactPeriodOfState", unfollowed := true, recurses := true, apart := false }
def FnExactPeriodOfStateSaid : Prop := fnExactPeriodOfStateRow.holds Try.pinned (OpenSpec.ofChange fnExactPeriodOfStateSpec)

/-- ITS FALSE NEIGHBOUR: 'it returns false'. Refute it at one input. -/
def fnExactPeriodOfStateWrong : ChangeSpec := { name := "fnExactPeriodOfState", fn := fun _ => fun
  | [d1, d2] => { results := [.lit (.bool false)], args := [d1, d2] }
  | _ => none }
def FnExactPeriodOfStateWrongFalsely : Prop := fnExactPeriodOfStateRow.holds Try.pinned (OpenSpec.ofChange fnExactPeriodOfStateWrong)

/-- 'laws.FnExactRenameStates': WHATEVER THE INPUT: true; the input reads as it did. -/
def fnExactRenameStatesSpec : ChangeSpec := { name := "fnExactRenameStates", fn := fun _ => fun
  | [d1, d2] => { results := [.lit (.bool true)], args := [d1, d2] }
  | _ => none }
def fnExactRenameStatesRow : OpenClaim := { program := "ytlpegpmcnimfbaa", sum := "eccc6c072a35963f8f8b90da6ca6001025f17d443a3ee9ec0473529f13579b61", func := "loop.example/g01337/laws.FnExactRenameStates", spec := "fnExactRenameStates", unfollowed := true, recurses := true, apart := false }
def FnExactRenameStatesSaid : Prop := fnExactRenameStatesRow.holds Try.pinned (OpenSpec.ofChange fnExactRenameStatesSpec)

/-- ITS FALSE NEIGHBOUR: 'it returns false'. Refute it at one input. -/
def fnExactRenameStatesWrong : ChangeSpec := { name := "fnExactRenameStates", fn := fun _ => fun
  | [d1, d2] => { results := [.lit (.bool false)], args := [d1, d2] }
  | _ => none }
def FnExactRenameStatesWrongFalsely : Prop := fnExactRenameStatesRow.holds Try.pinned (OpenSpec.ofChange fnExactRenameStatesWrong)

/-- 'laws.FnExactSharesOfStates': WHATEVER THE INPUT: true; the input reads as it did. -/
def fnExactSharesOfStatesSpec : ChangeSpec := { name := "fnExactSharesOfStates", fn := fun _ => fun
  | [d] => { results := [.lit (.bool true)], args := [d] }
  | _ => none }
def fnExactSharesOfStatesRow : OpenClaim := { program := "ytlpegpmcnimfbaa", sum := "eccc6c072a35963f8f8b90da6ca6001025f17d443a3ee9ec0473529f13579b61", func := "loop.example/g01337/laws.FnExactSharesOfStates", spec := "fnExactSharesOfStates", recurses := true, apart := false }
def FnExactSharesOfStatesSaid : Prop := fnExactSharesOfStatesRow.holds Try.pinned (OpenSpec.ofChange fnExactSharesOfStatesSpec)

/-- ITS FALSE NEIGHBOUR: 'it returns false'. Refute it at one input. -/
def fnExactSharesOfStatesWrong : ChangeSpec := { name := "fnExactSharesOfStates", fn := fun _ => fun
  | [d] => { results := [.lit (.bool false)], args := [d] }
  | _ => none }
def FnExactSharesOfStatesWrongFalsely : Prop := fnExactSharesOfStatesRow.holds Try.pinned (OpenSpec.ofChange fnExactSharesOfStatesWrong)

/-- 'laws.FnExactChanceToVisit': WHATEVER THE INPUT: true; the input reads as it did. -/
def fnExactChanceToVisitSpec : ChangeSpec := { name := "fnExactChanceToVisit", fn := fun _ => fun
  | [d1, d2, d3] => { results := [.lit (.bool true)], args := [d1, d2, d3] }
  | _ => none }
def fnExactChanceToVisitRow : OpenClaim := { program := "ytlpegpmcnimfbaa", sum := "eccc6c072a35963f8f8b90da6ca6001025f17d443a3ee9ec0473529f13579b61", func := "loop.example/g01337/laws.FnExactChanceToVisit", spec := "fnExactChanceToVisit", unfollowed := true, recurses := true, apart := false }
def FnExactChanceToVisitSaid : Prop := fnExactChanceToVisitRow.holds Try.pinned (OpenSpec.ofChange fnExactChanceToVisitSpec)

/-- ITS FALSE NEIGHBOUR: 'it returns false'. Refute it at one input. -/
def fnExactChanceToVisitWrong : ChangeSpec := { name := "fnExactChanceToVisit", fn := fun _ => fun
  | [d1, d2, d3] => { results := [.lit (.bool false)], args := [d1, d2, d3] }
  | _ => none }
def FnExactChanceToVisitWrongFalsely : Prop := fnExactChanceToVisitRow.holds Try.pinned (OpenSpec.ofChange fnExactChanceToVisitWrong)

/-- 'laws.FnExactChanceToEnd': WHATEVER THE INPUT: true; the input reads as it did. -/
def fnExactChanceToEndSpec : ChangeSpec := { name := "fnExactChanceToEnd", fn := fun _ => fun
  | [d1, d2, d3] => { results := [.lit (.bool true)], args := [d1, d2, d3] }
  | _ => none }
def fnExactChanceToEndRow : OpenClaim := { program := "ytlpegpmcnimfbaa", sum := "eccc6c072a35963f8f8b90da6ca6001025f17d443a3ee9ec0473529f13579b61", func := "loop.example/g01337/laws.FnExactChanceToEnd", spec := "fnExactChanceToEnd", unfollowed := true, recurses := true, apart := false }
def FnExactChanceToEndSaid : Prop := fnExactChanceToEndRow.holds Try.pinned (OpenSpec.ofChange fnExactChanceToEndSpec)

/-- ITS FALSE NEIGHBOUR: 'it returns false'. Refute it at one input. -/
def fnExactChanceToEndWrong : ChangeSpec := { name := "fnExactChanceToEnd", fn := fun _ => fun
  | [d1, d2, d3] => { results := [.lit (.bool false)], args := [d1, d2, d3] }
  | _ => none }
def FnExactChanceToEndWrongFalsely : Prop := fnExactChanceToEndRow.holds Try.pinned (OpenSpec.ofChange fnExactChanceToEndWrong)

/-- 'laws.FnExactMeanUntilState': WHATEVER THE INPUT: true; the input reads as it did. -/
def fnExactMeanUntilStateSpec : ChangeSpec := { name := "fnExactMeanUntilState", fn := fun _ => fun
  | [d1, d2, d3] => { results := [.lit (.bool true)], args := [d1, d2, d3] }
  | _ => none }
def fnExactMeanUntilStateRow : OpenClaim := { program := "ytlpegpmcnimfbaa", sum := "eccc6c072a35963f8f8b90da6ca6001025f17d443a3ee9ec0473529f13579b61", func := "loop.example/g01337/laws.FnExactMeanUntilState", spec := "fnExactMeanUntilState", unfollowed := true, recurses := true, apart := false }
def FnExactMeanUntilStateSaid : Prop := fnExactMeanUntilStateRow.holds Try.pinned (OpenSpec.ofChange fnExactMeanUntilStateSpec)

/-- ITS FALSE NEIGHBOUR: 'it returns false'. Refute it at one input. -/
def fnExactMeanUntilStateWrong : ChangeSpec := { name := "fnExactMeanUntilState", fn := fun _ => fun
  | [d1, d2, d3] => { results := [.lit (.bool false)], args := [d1, d2, d3] }
  | _ => none }
def FnExactMeanUntilStateWrongFalsely : Prop := fnExactMeanUntilStateRow.holds Try.pinned (OpenSpec.ofChange fnExactMeanUntilStateWrong)

/- THE SECOND FORM. 'bulk': how many values and letters a reading holds, each counted each time it is reached (what is shared counts as often as it is met; a slice's spare places count too). A statement '..UptoSaid' is the law's where the arguments, and the package variables that the reading takes, are together of bulk at most 1048576: NARROWER than '..Said'. Prove '..Said' where nothing that the law and all that it calls make is longer than what came in: it says more and counts as full. Else prove '..UptoSaid'. A law counts once. -/
mutual
def uptoBulk {H : Type} : DataW H → Nat
  | .lit (.string bytes) => bytes.length + 1
  | .lit _ => 1
  | .nil => 1
  | .ptr d => uptoBulk d + 1
  | .slice elems spare => uptoBulkAll elems + uptoBulkAll spare + 1
  | .agg parts => uptoBulkAll parts + 1
  | .iface _ d => uptoBulk d + 1
  | .map entries => uptoBulkEntries entries + 1
  | .held _ => 1
def uptoBulkAll {H : Type} : List (DataW H) → Nat
  | [] => 0
  | d :: r => uptoBulk d + uptoBulkAll r
def uptoBulkEntries {H : Type} : List (Lit × DataW H) → Nat
  | [] => 0
  | x :: r => uptoBulkEntry x + uptoBulkEntries r
def uptoBulkEntry {H : Type} : Lit × DataW H → Nat
  | (.string bytes, d) => bytes.length + uptoBulk d + 1
  | (_, d) => uptoBulk d + 1
 end
def uptoSmall : (H : Type) → List (DataW H) → Bool := fun _ ds => decide (uptoBulkAll ds ≤ 1048576)
def OpenSpec.upto (s : _root_.Go.ChangeSpec) : _root_.Go.OpenSpec := { _root_.Go.OpenSpec.ofChange s with cond := some uptoSmall }

/-- 'laws.FnExactFirstWay', WHERE WHAT IT READS IS OF BULK AT MOST 1048576: true; the input reads as it did. -/
def fnExactFirstWayUptoRow : OpenClaim := { program := "ytlpegpmcnimfbaa", sum := "eccc6c072a35963f8f8b90da6ca6001025f17d443a3ee9ec0473529f13579b61", func := "loop.example/g01337/laws.FnExactFirstWay", spec := "fnExactFirstWay", unfollowed := true, recurses := true, apart := false, narrowed := true }
def FnExactFirstWayUptoSaid : Prop := fnExactFirstWayUptoRow.holds Try.pinned (OpenSpec.upto fnExactFirstWaySpec)

/-- 'laws.FnExactPeriodOfState', WHERE WHAT IT READS IS OF BULK AT MOST 1048576: true; the input reads as it did. -/
def fnExactPeriodOfStateUptoRow : OpenClaim := { program := "ytlpegpmcnimfbaa", sum := "eccc6c072a35963f8f8b90da6ca6001025f17d443a3ee9ec0473529f13579b61", func := "loop.example/g01337/laws.FnExactPeriodOfState", spec := "fnExactPeriodOfState", unfollowed := true, recurses := true, apart := false, narrowed := true }
def FnExactPeriodOfStateUptoSaid : Prop := fnExactPeriodOfStateUptoRow.holds Try.pinned (OpenSpec.upto fnExactPeriodOfStateSpec)

/-- 'laws.FnExactRenameStates', WHERE WHAT IT READS IS OF BULK AT MOST 1048576: true; the input reads as it did. -/
def fnExactRenameStatesUptoRow : OpenClaim := { program := "ytlpegpmcnimfbaa", sum := "eccc6c072a35963f8f8b90da6ca6001025f17d443a3ee9ec0473529f13579b61", func := "loop.example/g01337/laws.FnExactRenameStates", spec := "fnExactRenameStates", unfollowed := true, recurses := true, apart := false, narrowed := true }
def FnExactRenameStatesUptoSaid : Prop := fnExactRenameStatesUptoRow.holds Try.pinned (OpenSpec.upto fnExactRenameStatesSpec)

/-- 'laws.FnExactSharesOfStates', WHERE WHAT IT READS IS OF BULK AT MOST 1048576: true; the input reads as it did. -/
def fnExactSharesOfStatesUptoRow : OpenClaim := { program := "ytlpegpmcnimfbaa", sum := "eccc6c072a35963f8f8b90da6ca6001025f17d443a3ee9ec0473529f13579b61", func := "loop.example/g01337/laws.FnExactSharesOfStates", spec := "fnExactSharesOfStates", recurses := true, apart := false, narrowed := true }
def FnExactSharesOfStatesUptoSaid : Prop := fnExactSharesOfStatesUptoRow.holds Try.pinned (OpenSpec.upto fnExactSharesOfStatesSpec)

/-- 'laws.FnExactChanceToVisit', WHERE WHAT IT READS IS OF BULK AT MOST 1048576: true; the input reads as it did. -/
def fnExactChanceToVisitUptoRow : OpenClaim := { program := "ytlpegpmcnimfbaa", sum := "eccc6c072a35963f8f8b90da6ca6001025f17d443a3ee9ec0473529f13579b61", func := "loop.example/g01337/laws.FnExactChanceToVisit", spec := "fnExactChanceToVisit", unfollowed := true, recurses := true, apart := false, narrowed := true }
def FnExactChanceToVisitUptoSaid : Prop := fnExactChanceToVisitUptoRow.holds Try.pinned (OpenSpec.upto fnExactChanceToVisitSpec)

/-- 'laws.FnExactChanceToEnd', WHERE WHAT IT READS IS OF BULK AT MOST 1048576: true; the input reads as it did. -/
def fnExactChanceToEndUptoRow : OpenClaim := { program := "ytlpegpmcnimfbaa", sum := "eccc6c072a35963f8f8b90da6ca6001025f17d443a3ee9ec0473529f13579b61", func := "loop.example/g01337/laws.FnExactChanceToEnd", spec := "fnExactChanceToEnd", unfollowed := true, recurses := true, apart := false, narrowed := true }
def FnExactChanceToEndUptoSaid : Prop := fnExactChanceToEndUptoRow.holds Try.pinned (OpenSpec.upto fnExactChanceToEndSpec)

/-- 'laws.FnExactMeanUntilState', WHERE WHAT IT READS IS OF BULK AT MOST 1048576: true; the input reads as it did. -/
def fnExactMeanUntilStateUptoRow : OpenClaim := { program := "ytlpegpmcnimfbaa", sum := "eccc6c072a35963f8f8b90da6ca6001025f17d443a3ee9ec0473529f13579b61", func := "loop.example/g01337/laws.FnExactMeanUntilState", spec := "fnExactMeanUntilState", unfollowed := true, recurses := true, apart := false, narrowed := true }
def FnExactMeanUntilStateUptoSaid : Prop := fnExactMeanUntilStateUptoRow.holds Try.pinned (OpenSpec.upto fnExactMeanUntilStateSpec)

end Rows
end Go.Proofs.Ytlpegpmcnimfbaa

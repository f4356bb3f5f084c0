/-
  No cell of these rows narrows 'for every input' (looked for: loops, veiled, ifaces, maps, wideKeys, modest, calm, conditions, laid).
  DERIVED. THE GIVEN ROWS OF THIS SEAT. 12 by the template 'for every input the law returns true; each argument reads behind the call as it read before'; 0 by the template 'total and deterministic' (their statements: YthhogbfmfdmcaaaTotals.lean).
  GIVEN WITH THE SEED: the statements are not yours to turn. If you find one false, say at which input.
  Laid BY PROGRAM, IN A SANDBOX (cutbox-rows.mjs): the forced cells as the released guide's own fill.sh prints them over the translation 7cc592044346f2b7… (all of the seat's roots in one cut). By AI agents, Wed Nov 11 2026. No macro, syntax, notation, axiom, sorry.
-/
import Derived.Test.YthhogbfmfdmcaaaChecked
import GoSem.Claim
import GoSem.ClaimJoined
import GoSem.ClaimMapViews
import Derived.JoinedTies
import Derived.KernelRfl
namespace Go.Proofs.Ythhogbfmfdmcaaa
/- THE CELL 'sum', in the pinned program and in every row, IS THE sha256 OF THE DUMP (.gsa) THAT YthhogbfmfdmcaaaProg.lean LOADS. Nothing in Lean hashes anything: it is a label: what it is worth is what the hold of that sum in a sandbox is worth. -/
noncomputable def Try.pinned : Pinned := { name := "ythhogbfmfdmcaaa", sum := "7cc592044346f2b7bbd0446a0cb24460744d5bc1267bff3ed7e9f8784817c62e", checked := Try.checked }
namespace Rows
def none {H : Type} : Left H := { results := [], args := [] }

/-- 'laws.FnExactConstants': WHATEVER THE INPUT: true; the input reads as it did. -/
def fnExactConstantsSpec : ChangeSpec := { name := "fnExactConstants", fn := fun _ => fun
  | [] => { results := [.lit (.bool true)], args := [] }
  | _ => none }
def fnExactConstantsRow : OpenClaim := { program := "ythhogbfmfdmcaaa", sum := "7cc592044346f2b7bbd0446a0cb24460744d5bc1267bff3ed7e9f8784817c62e", func := "loop.example/g01337/laws.FnExactConstants", spec := "fnExactConstants", apart := false }
def FnExactConstantsSaid : Prop := fnExactConstantsRow.holds Try.pinned (OpenSpec.ofChange fnExactConstantsSpec)

/-- ITS FALSE NEIGHBOUR: 'it returns false'. Refute it at one input. -/
def fnExactConstantsWrong : ChangeSpec := { name := "fnExactConstants", fn := fun _ => fun
  | [] => { results := [.lit (.bool false)], args := [] }
  | _ => none }
def FnExactConstantsWrongFalsely : Prop := fnExactConstantsRow.holds Try.pinned (OpenSpec.ofChange fnExactConstantsWrong)

/-- 'laws.FnExactIsCoin': WHATEVER THE INPUT: true; the input reads as it did. -/
def fnExactIsCoinSpec : ChangeSpec := { name := "fnExactIsCoin", fn := fun _ => fun
  | [d] => { results := [.lit (.bool true)], args := [d] }
  | _ => none }
def fnExactIsCoinRow : OpenClaim := { program := "ythhogbfmfdmcaaa", sum := "7cc592044346f2b7bbd0446a0cb24460744d5bc1267bff3ed7e9f8784817c62e", func := "loop.example/g01337/laws.FnExactIsCoin", spec := "fnExactIsCoin", apart := false }
def FnExactIsCoinSaid : Prop := fnExactIsCoinRow.holds Try.pinned (OpenSpec.ofChange fnExactIsCoinSpec)

/-- ITS FALSE NEIGHBOUR: 'it returns false'. Refute it at one input. -/
def fnExactIsCoinWrong : ChangeSpec := { name := "fnExactIsCoin", fn := fun _ => fun
  | [d] => { results := [.lit (.bool false)], args := [d] }
  | _ => none }
def FnExactIsCoinWrongFalsely : Prop := fnExactIsCoinRow.holds Try.pinned (OpenSpec.ofChange fnExactIsCoinWrong)

/-- 'laws.FnExactIsChain': WHATEVER THE INPUT: true; the input reads as it did. -/
def fnExactIsChainSpec : ChangeSpec := { name := "fnExactIsChain", fn := fun _ => fun
  | [d] => { results := [.lit (.bool true)], args := [d] }
  | _ => none }
def fnExactIsChainRow : OpenClaim := { program := "ythhogbfmfdmcaaa", sum := "7cc592044346f2b7bbd0446a0cb24460744d5bc1267bff3ed7e9f8784817c62e", func := "loop.example/g01337/laws.FnExactIsChain", spec := "fnExactIsChain", apart := false }
def FnExactIsChainSaid : Prop := fnExactIsChainRow.holds Try.pinned (OpenSpec.ofChange fnExactIsChainSpec)

/-- ITS FALSE NEIGHBOUR: 'it returns false'. Refute it at one input. -/
def fnExactIsChainWrong : ChangeSpec := { name := "fnExactIsChain", fn := fun _ => fun
  | [d] => { results := [.lit (.bool false)], args := [d] }
  | _ => none }
def FnExactIsChainWrongFalsely : Prop := fnExactIsChainRow.holds Try.pinned (OpenSpec.ofChange fnExactIsChainWrong)

/-- 'laws.FnExactIsEven': WHATEVER THE INPUT: true; the input reads as it did. -/
def fnExactIsEvenSpec : ChangeSpec := { name := "fnExactIsEven", fn := fun _ => fun
  | [d] => { results := [.lit (.bool true)], args := [d] }
  | _ => none }
def fnExactIsEvenRow : OpenClaim := { program := "ythhogbfmfdmcaaa", sum := "7cc592044346f2b7bbd0446a0cb24460744d5bc1267bff3ed7e9f8784817c62e", func := "loop.example/g01337/laws.FnExactIsEven", spec := "fnExactIsEven", apart := false }
def FnExactIsEvenSaid : Prop := fnExactIsEvenRow.holds Try.pinned (OpenSpec.ofChange fnExactIsEvenSpec)

/-- ITS FALSE NEIGHBOUR: 'it returns false'. Refute it at one input. -/
def fnExactIsEvenWrong : ChangeSpec := { name := "fnExactIsEven", fn := fun _ => fun
  | [d] => { results := [.lit (.bool false)], args := [d] }
  | _ => none }
def FnExactIsEvenWrongFalsely : Prop := fnExactIsEvenRow.holds Try.pinned (OpenSpec.ofChange fnExactIsEvenWrong)

/-- 'laws.FnExactTurnChain': WHATEVER THE INPUT: true; the input reads as it did. -/
def fnExactTurnChainSpec : ChangeSpec := { name := "fnExactTurnChain", fn := fun _ => fun
  | [d] => { results := [.lit (.bool true)], args := [d] }
  | _ => none }
def fnExactTurnChainRow : OpenClaim := { program := "ythhogbfmfdmcaaa", sum := "7cc592044346f2b7bbd0446a0cb24460744d5bc1267bff3ed7e9f8784817c62e", func := "loop.example/g01337/laws.FnExactTurnChain", spec := "fnExactTurnChain", apart := false }
def FnExactTurnChainSaid : Prop := fnExactTurnChainRow.holds Try.pinned (OpenSpec.ofChange fnExactTurnChainSpec)

/-- ITS FALSE NEIGHBOUR: 'it returns false'. Refute it at one input. -/
def fnExactTurnChainWrong : ChangeSpec := { name := "fnExactTurnChain", fn := fun _ => fun
  | [d] => { results := [.lit (.bool false)], args := [d] }
  | _ => none }
def FnExactTurnChainWrongFalsely : Prop := fnExactTurnChainRow.holds Try.pinned (OpenSpec.ofChange fnExactTurnChainWrong)

/-- 'laws.FnExactWordOfRank': WHATEVER THE INPUT: true; the input reads as it did. -/
def fnExactWordOfRankSpec : ChangeSpec := { name := "fnExactWordOfRank", fn := fun _ => fun
  | [d1, d2, d3] => { results := [.lit (.bool true)], args := [d1, d2, d3] }
  | _ => none }
def fnExactWordOfRankRow : OpenClaim := { program := "ythhogbfmfdmcaaa", sum := "7cc592044346f2b7bbd0446a0cb24460744d5bc1267bff3ed7e9f8784817c62e", func := "loop.example/g01337/laws.FnExactWordOfRank", spec := "fnExactWordOfRank", apart := false }
def FnExactWordOfRankSaid : Prop := fnExactWordOfRankRow.holds Try.pinned (OpenSpec.ofChange fnExactWordOfRankSpec)

/-- ITS FALSE NEIGHBOUR: 'it returns false'. Refute it at one input. -/
def fnExactWordOfRankWrong : ChangeSpec := { name := "fnExactWordOfRank", fn := fun _ => fun
  | [d1, d2, d3] => { results := [.lit (.bool false)], args := [d1, d2, d3] }
  | _ => none }
def FnExactWordOfRankWrongFalsely : Prop := fnExactWordOfRankRow.holds Try.pinned (OpenSpec.ofChange fnExactWordOfRankWrong)

/-- 'laws.FnExactCountPrimeWords': WHATEVER THE INPUT: true; the input reads as it did. -/
def fnExactCountPrimeWordsSpec : ChangeSpec := { name := "fnExactCountPrimeWords", fn := fun _ => fun
  | [d1, d2] => { results := [.lit (.bool true)], args := [d1, d2] }
  | _ => none }
def fnExactCountPrimeWordsRow : OpenClaim := { program := "ythhogbfmfdmcaaa", sum := "7cc592044346f2b7bbd0446a0cb24460744d5bc1267bff3ed7e9f8784817c62e", func := "loop.example/g01337/laws.FnExactCountPrimeWords", spec := "fnExactCountPrimeWords", recurses := true, apart := false }
def FnExactCountPrimeWordsSaid : Prop := fnExactCountPrimeWordsRow.holds Try.pinned (OpenSpec.ofChange fnExactCountPrimeWordsSpec)

/-- ITS FALSE NEIGHBOUR: 'it returns false'. Refute it at one input. -/
def fnExactCountPrimeWordsWrong : ChangeSpec := { name := "fnExactCountPrimeWords", fn := fun _ => fun
  | [d1, d2] => { results := [.lit (.bool false)], args := [d1, d2] }
  | _ => none }
def FnExactCountPrimeWordsWrongFalsely : Prop := fnExactCountPrimeWordsRow.holds Try.pinned (OpenSpec.ofChange fnExactCountPrimeWordsWrong)

/-- 'laws.FnExactMeanForRoll': WHATEVER THE INPUT: true; the input reads as it did. -/
def fnExactMeanForRollSpec : ChangeSpec := { name := "fnExactMeanForRoll", fn := fun _ => fun
  | [d] => { results := [.lit (.bool true)], args := [d] }
  | _ => none }
def fnExactMeanForRollRow : OpenClaim := { program := "ythhogbfmfdmcaaa", sum := "7cc592044346f2b7bbd0446a0cb24460744d5bc1267bff3ed7e9f8784817c62e", func := "loop.example/g01337/laws.FnExactMeanForRoll", spec := "fnExactMeanForRoll", apart := false }
def FnExactMeanForRollSaid : Prop := fnExactMeanForRollRow.holds Try.pinned (OpenSpec.ofChange fnExactMeanForRollSpec)

/-- ITS FALSE NEIGHBOUR: 'it returns false'. Refute it at one input. -/
def fnExactMeanForRollWrong : ChangeSpec := { name := "fnExactMeanForRoll", fn := fun _ => fun
  | [d] => { results := [.lit (.bool false)], args := [d] }
  | _ => none }
def FnExactMeanForRollWrongFalsely : Prop := fnExactMeanForRollRow.holds Try.pinned (OpenSpec.ofChange fnExactMeanForRollWrong)

/-- 'laws.FnExactCountNecklaces': WHATEVER THE INPUT: true; the input reads as it did. -/
def fnExactCountNecklacesSpec : ChangeSpec := { name := "fnExactCountNecklaces", fn := fun _ => fun
  | [d1, d2] => { results := [.lit (.bool true)], args := [d1, d2] }
  | _ => none }
def fnExactCountNecklacesRow : OpenClaim := { program := "ythhogbfmfdmcaaa", sum := "7cc592044346f2b7bbd0446a0cb24460744d5bc1267bff3ed7e9f8784817c62e", func := "loop.example/g01337/laws.FnExactCountNecklaces", spec := "fnExactCountNecklaces", recurses := true, apart := false }
def FnExactCountNecklacesSaid : Prop := fnExactCountNecklacesRow.holds Try.pinned (OpenSpec.ofChange fnExactCountNecklacesSpec)

/-- ITS FALSE NEIGHBOUR: 'it returns false'. Refute it at one input. -/
def fnExactCountNecklacesWrong : ChangeSpec := { name := "fnExactCountNecklaces", fn := fun _ => fun
  | [d1, d2] => { results := [.lit (.bool false)], args := [d1, d2] }
  | _ => none }
def FnExactCountNecklacesWrongFalsely : Prop := fnExactCountNecklacesRow.holds Try.pinned (OpenSpec.ofChange fnExactCountNecklacesWrong)

/-- 'laws.FnExactChanceToGive': WHATEVER THE INPUT: true; the input reads as it did. -/
def fnExactChanceToGiveSpec : ChangeSpec := { name := "fnExactChanceToGive", fn := fun _ => fun
  | [d] => { results := [.lit (.bool true)], args := [d] }
  | _ => none }
def fnExactChanceToGiveRow : OpenClaim := { program := "ythhogbfmfdmcaaa", sum := "7cc592044346f2b7bbd0446a0cb24460744d5bc1267bff3ed7e9f8784817c62e", func := "loop.example/g01337/laws.FnExactChanceToGive", spec := "fnExactChanceToGive", apart := false }
def FnExactChanceToGiveSaid : Prop := fnExactChanceToGiveRow.holds Try.pinned (OpenSpec.ofChange fnExactChanceToGiveSpec)

/-- ITS FALSE NEIGHBOUR: 'it returns false'. Refute it at one input. -/
def fnExactChanceToGiveWrong : ChangeSpec := { name := "fnExactChanceToGive", fn := fun _ => fun
  | [d] => { results := [.lit (.bool false)], args := [d] }
  | _ => none }
def FnExactChanceToGiveWrongFalsely : Prop := fnExactChanceToGiveRow.holds Try.pinned (OpenSpec.ofChange fnExactChanceToGiveWrong)

/-- 'laws.FnExactMeanFair': WHATEVER THE INPUT: true; the input reads as it did. -/
def fnExactMeanFairSpec : ChangeSpec := { name := "fnExactMeanFair", fn := fun _ => fun
  | [d1, d2] => { results := [.lit (.bool true)], args := [d1, d2] }
  | _ => none }
def fnExactMeanFairRow : OpenClaim := { program := "ythhogbfmfdmcaaa", sum := "7cc592044346f2b7bbd0446a0cb24460744d5bc1267bff3ed7e9f8784817c62e", func := "loop.example/g01337/laws.FnExactMeanFair", spec := "fnExactMeanFair", apart := false }
def FnExactMeanFairSaid : Prop := fnExactMeanFairRow.holds Try.pinned (OpenSpec.ofChange fnExactMeanFairSpec)

/-- ITS FALSE NEIGHBOUR: 'it returns false'. Refute it at one input. -/
def fnExactMeanFairWrong : ChangeSpec := { name := "fnExactMeanFair", fn := fun _ => fun
  | [d1, d2] => { results := [.lit (.bool false)], args := [d1, d2] }
  | _ => none }
def FnExactMeanFairWrongFalsely : Prop := fnExactMeanFairRow.holds Try.pinned (OpenSpec.ofChange fnExactMeanFairWrong)

/-- 'laws.FnExactMeanTosses': WHATEVER THE INPUT: true; the input reads as it did. -/
def fnExactMeanTossesSpec : ChangeSpec := { name := "fnExactMeanTosses", fn := fun _ => fun
  | [d] => { results := [.lit (.bool true)], args := [d] }
  | _ => none }
def fnExactMeanTossesRow : OpenClaim := { program := "ythhogbfmfdmcaaa", sum := "7cc592044346f2b7bbd0446a0cb24460744d5bc1267bff3ed7e9f8784817c62e", func := "loop.example/g01337/laws.FnExactMeanTosses", spec := "fnExactMeanTosses", apart := false }
def FnExactMeanTossesSaid : Prop := fnExactMeanTossesRow.holds Try.pinned (OpenSpec.ofChange fnExactMeanTossesSpec)

/-- ITS FALSE NEIGHBOUR: 'it returns false'. Refute it at one input. -/
def fnExactMeanTossesWrong : ChangeSpec := { name := "fnExactMeanTosses", fn := fun _ => fun
  | [d] => { results := [.lit (.bool false)], args := [d] }
  | _ => none }
def FnExactMeanTossesWrongFalsely : Prop := fnExactMeanTossesRow.holds Try.pinned (OpenSpec.ofChange fnExactMeanTossesWrong)

/- THE SECOND FORM. 'bulk': how many values and letters a reading holds, each counted each time it is reached (what is shared counts as often as it is met; a slice's spare places count too). A statement '..UptoSaid' is the law's where the arguments, and the package variables that the reading takes, are together of bulk at most 1048576: NARROWER than '..Said'. Prove '..Said' where nothing that the law and all that it calls make is longer than what came in: it says more and counts as full. Else prove '..UptoSaid'. A law counts once. -/
mutual
def uptoBulk {H : Type} : DataW H → Nat
  | .lit (.string bytes) => bytes.length + 1
  | .lit _ => 1
  | .nil => 1
  | .ptr d => uptoBulk d + 1
  | .slice elems spare => uptoBulkAll elems + uptoBulkAll spare + 1
  | .agg parts => uptoBulkAll parts + 1
  | .iface _ d => uptoBulk d + 1
  | .map entries => uptoBulkEntries entries + 1
  | .held _ => 1
def uptoBulkAll {H : Type} : List (DataW H) → Nat
  | [] => 0
  | d :: r => uptoBulk d + uptoBulkAll r
def uptoBulkEntries {H : Type} : List (Lit × DataW H) → Nat
  | [] => 0
  | x :: r => uptoBulkEntry x + uptoBulkEntries r
def uptoBulkEntry {H : Type} : Lit × DataW H → Nat
  | (.string bytes, d) => bytes.length + uptoBulk d + 1
  | (_, d) => uptoBulk d + 1
 end
def uptoSmall : (H : Type) → List (DataW H) → Bool := fun _ ds => decide (uptoBulkAll ds ≤ 1048576)
def OpenSpec.upto (s : _root_.Go.ChangeSpec) : _root_.Go.OpenSpec := { _root_.Go.OpenSpec.ofChange s with cond := some uptoSmall }

/-- 'laws.FnExactConstants', WHERE WHAT IT READS IS OF BULK AT MOST 1048576: true; the input reads as it did. -/
def fnExactConstantsUptoRow : OpenClaim := { program := "ythhogbfmfdmcaaa", sum := "7cc592044346f2b7bbd0446a0cb24460744d5bc1267bff3ed7e9f8784817c62e", func := "loop.example/g01337/laws.FnExactConstants", spec := "fnExactConstants", apart := false, narrowed := true }
def FnExactConstantsUptoSaid : Prop := fnExactConstantsUptoRow.holds Try.pinned (OpenSpec.upto fnExactConstantsSpec)

/-- 'laws.FnExactIsCoin', WHERE WHAT IT READS IS OF BULK AT MOST 1048576: true; the input reads as it did. -/
def fnExactIsCoinUptoRow : OpenClaim := { program := "ythhogbfmfdmcaaa", sum := "7cc592044346f2b7bbd0446a0cb24460744d5bc1267bff3ed7e9f8784817c62e", func := "loop.example/g01337/laws.FnExactIsCoin", spec := "fnExactIsCoin", apart := false, narrowed := true }
def FnExactIsCoinUptoSaid : Prop := fnExactIsCoinUptoRow.holds Try.pinned (OpenSpec.upto fnExactIsCoinSpec)

/-- 'laws.FnExactIsChain', WHERE WHAT IT READS IS OF BULK AT MOST 1048576: true; the input reads as it did. -/
def fnExactIsChainUptoRow : OpenClaim := { program := "ythhogbfmfdmcaaa", sum := "7cc592044346f2b7bbd0446a0cb24460744d5bc1267bff3ed7e9f8784817c62e", func := "loop.example/g01337/laws.FnExactIsChain", spec := "fnExactIsChain", apart := false, narrowed := true }
def FnExactIsChainUptoSaid : Prop := fnExactIsChainUptoRow.holds Try.pinned (OpenSpec.upto fnExactIsChainSpec)

/-- 'laws.FnExactIsEven', WHERE WHAT IT READS IS OF BULK AT MOST 1048576: true; the input reads as it did. -/
def fnExactIsEvenUptoRow : OpenClaim := { program := "ythhogbfmfdmcaaa", sum := "7cc592044346f2b7bbd0446a0cb24460744d5bc1267bff3ed7e9f8784817c62e", func := "loop.example/g01337/laws.FnExactIsEven", spec := "fnExactIsEven", apart := false, narrowed := true }
def FnExactIsEvenUptoSaid : Prop := fnExactIsEvenUptoRow.holds Try.pinned (OpenSpec.upto fnExactIsEvenSpec)

/-- 'laws.FnExactTurnChain', WHERE WHAT IT READS IS OF BULK AT MOST 1048576: true; the input reads as it did. -/
def fnExactTurnChainUptoRow : OpenClaim := { program := "ythhogbfmfdmcaaa", sum := "7cc592044346f2b7bbd0446a0cb24460744d5bc1267bff3ed7e9f8784817c62e", func := "loop.example/g01337/laws.FnExactTurnChain", spec := "fnExactTurnChain", apart := false, narrowed := true }
def FnExactTurnChainUptoSaid : Prop := fnExactTurnChainUptoRow.holds Try.pinned (OpenSpec.upto fnExactTurnChainSpec)

/-- 'laws.FnExactWordOfRank', WHERE WHAT IT READS IS OF BULK AT MOST 1048576: true; the input reads as it did. -/
def fnExactWordOfRankUptoRow : OpenClaim := { program := "ythhogbfmfdmcaaa", sum := "7cc592044346f2b7bbd0446a0cb24460744d5bc1267bff3ed7e9f8784817c62e", func := "loop.example/g01337/laws.FnExactWordOfRank", spec := "fnExactWordOfRank", apart := false, narrowed := true }
def FnExactWordOfRankUptoSaid : Prop := fnExactWordOfRankUptoRow.holds Try.pinned (OpenSpec.upto fnExactWordOfRankSpec)

/-- 'laws.FnExactCountPrimeWords', WHERE WHAT IT READS IS OF BULK AT MOST 1048576: true; the input reads as it did. -/
def fnExactCountPrimeWordsUptoRow : OpenClaim := { program := "ythhogbfmfdmcaaa", sum := "7cc592044346f2b7bbd0446a0cb24460744d5bc1267bff3ed7e9f8784817c62e", func := "loop.example/g01337/laws.FnExactCountPrimeWords", spec := "fnExactCountPrimeWords", recurses := true, apart := false, narrowed := true }
def FnExactCountPrimeWordsUptoSaid : Prop := fnExactCountPrimeWordsUptoRow.holds Try.pinned (OpenSpec.upto fnExactCountPrimeWordsSpec)

/-- 'laws.FnExactMeanForRoll', WHERE WHAT IT READS IS OF BULK AT MOST 1048576: true; the input reads as it did. -/
def fnExactMeanForRollUptoRow : OpenClaim := { program := "ythhogbfmfdmcaaa", sum := "7cc592044346f2b7bbd0446a0cb24460744d5bc1267bff3ed7e9f8784817c62e", func := "loop.example/g01337/laws.FnExactMeanForRoll", spec := "fnExactMeanForRoll", apart := false, narrowed := true }
def FnExactMeanForRollUptoSaid : Prop := fnExactMeanForRollUptoRow.holds Try.pinned (OpenSpec.upto fnExactMeanForRollSpec)

/-- 'laws.FnExactCountNecklaces', WHERE WHAT IT READS IS OF BULK AT MOST 1048576: true; the input reads as it did. -/
def fnExactCountNecklacesUptoRow : OpenClaim := { program := "ythhogbfmfdmcaaa", sum := "7cc592044346f2b7bbd0446a0cb24460744d5bc1267bff3ed7e9f8784817c62e", func := "loop.example/g01337/laws.FnExactCountNecklaces", spec := "fnExactCountNecklaces", recurses := true, apart := false, narrowed := true }
def FnExactCountNecklacesUptoSaid : Prop := fnExactCountNecklacesUptoRow.holds Try.pinned (OpenSpec.upto fnExactCountNecklacesSpec)

/-- 'laws.FnExactChanceToGive', WHERE WHAT IT READS IS OF BULK AT MOST 1048576: true; the input reads as it did. -/
def fnExactChanceToGiveUptoRow : OpenClaim := { program := "ythhogbfmfdmcaaa", sum := "7cc592044346f2b7bbd0446a0cb24460744d5bc1267bff3ed7e9f8784817c62e", func := "loop.example/g01337/laws.FnExactChanceToGive", spec := "fnExactChanceToGive", apart := false, narrowed := true }
def FnExactChanceToGiveUptoSaid : Prop := fnExactChanceToGiveUptoRow.holds Try.pinned (OpenSpec.upto fnExactChanceToGiveSpec)

/-- 'laws.FnExactMeanFair', WHERE WHAT IT READS IS OF BULK AT MOST 1048576: true; the input reads as it did. -/
def fnExactMeanFairUptoRow : OpenClaim := { program := "ythhogbfmfdmcaaa", sum := "7cc592044346f2b7bbd0446a0cb24460744d5bc1267bff3ed7e9f8784817c62e", func := "loop.example/g01337/laws.FnExactMeanFair", spec := "fnExactMeanFair", apart := false, narrowed := true }
def FnExactMeanFairUptoSaid : Prop := fnExactMeanFairUptoRow.holds Try.pinned (OpenSpec.upto fnExactMeanFairSpec)

/-- 'laws.FnExactMeanTosses', WHERE WHAT IT READS IS OF BULK AT MOST 1048576: true; the input reads as it did. -/
def fnExactMeanTossesUptoRow : OpenClaim := { program := "ythhogbfmfdmcaaa", sum := "7cc592044346f2b7bbd0446a0cb24460744d5bc1267bff3ed7e9f8784817c62e", func := "loop.example/g01337/laws.FnExactMeanTosses", spec := "fnExactMeanTosses", apart := false, narrowed := true }
def FnExactMeanTossesUptoSaid : Prop := fnExactMeanTossesUptoRow.holds Try.pinned (OpenSpec.upto fnExactMeanTossesSpec)

end Rows
end Go.Proofs.Ythhogbfmfdmcaaa

-- written by a program of this session (the kit's print with turns of the session's own)
import Derived.Test.YtnfcfhieocgomaaProg
import Derived.Below
import Derived.Deep.Draws
import Derived.Deep.AppendLies
import Derived.Maps.AppendAt
import Derived.OwnWalk
import Derived.Laws.BytesArg
import Derived.Laws.MakeOwn
import Derived.Laws.OwnMore
import Derived.Deep.OwnRows
import Derived.Tactics
import Derived.Lib.ConvBytes
import Derived.Laws.Slices
import Derived.WalkKit
import Derived.KernelRfl
import Derived.RowKit3
import Derived.Deep.LoopGhost
import Derived.Deep.QuietTactic
import Derived.BigQuiet
import Derived.WideLaws
import Derived.Deep.DeepCutAuto
import Derived.Deep.CutBlock
import Derived.Deep.RegionHeld3
import Derived.Laws.Rows
import Derived.Lib.AppendStr
import Derived.ArgAppend
import Derived.Laws.IdiomCopy
import Derived.OrdersHeld
import Derived.Laws.BitsLemmas
import Derived.RowKit
import Derived.Test.YtnfcfhieocgomaaWWords
import Derived.Test.YtnfcfhieocgomaaWLast
import Derived.Test.YtnfcfhieocgomaaWTab
import Derived.Test.YtnfcfhieocgomaaWFour
import Derived.Test.YtnfcfhieocgomaaWQPut
import Derived.Test.YtnfcfhieocgomaaWApart
import Derived.Test.YtnfcfhieocgomaaWArr
import Derived.Test.YtnfcfhieocgomaaWZeros
import Derived.Test.YtnfcfhieocgomaaWFoot
import Derived.Test.YtnfcfhieocgomaaWKept
import Derived.Test.YtnfcfhieocgomaaWShare
import Derived.Test.YtnfcfhieocgomaaWN
import Derived.Test.YtnfcfhieocgomaaWFootNe
import Derived.Test.YtnfcfhieocgomaaWAt
import Derived.Test.YtnfcfhieocgomaaWEqStruct
import Derived.Test.YtnfcfhieocgomaaWRepsOne
import Derived.Test.YtnfcfhieocgomaaWInv
import Derived.Test.YtnfcfhieocgomaaWInvWords
import Derived.Test.YtnfcfhieocgomaaWGuard
import Derived.Test.YtnfcfhieocgomaaWNEv
import Derived.Test.YtnfcfhieocgomaaWMore
namespace Go.Proofs.Ytnfcfhieocgomaa.PFnExactLongestWait
open Go.RowKit Go.Proofs.YtnfcfhieocgomaaW.PrintWords Go.Proofs.YtnfcfhieocgomaaW.PrintLast Go.Proofs.YtnfcfhieocgomaaW.PrintMore
attribute [local go_sem] Instr.field asAgg part max2_int min2_int max_two min_two max_three min_three max_four min_four   -- for this text's walks alone
set_option linter.unusedVariables false
set_option linter.unusedSimpArgs false



def errW : Option Int → Value
  | none => .nilIface
  | some c => .iface 0 (.int .i64 c)
theorem errW_none : errW none = .nilIface := rfl
theorem errW_some (c : Int) : errW (some c) = .iface 0 (.int .i64 c) := rfl

theorem info3 : (Try.prog.info? 3).map (fun i => (i.zero, i.size, i.bytes)) = some (some (.int .i64 0), 1, 8) := by kernel_rfl
theorem info5 : (Try.prog.info? 5).map (fun i => (i.zero, i.size, i.bytes)) = some (some (.int .u8 0), 1, 1) := by kernel_rfl
theorem info9 : (Try.prog.info? 9).map (fun i => (i.zero, i.size, i.bytes)) = some (some (.string ⟨#[]⟩), 1, 16) := by kernel_rfl
-- the values' own types

end Go.Proofs.Ytnfcfhieocgomaa.PFnExactLongestWait

-- written by a program of this session (the kit's print with turns of the session's own)
import Derived.Test.YtnfcfhieocgomaaDoorProg
import Derived.Below
import Derived.Deep.Draws
import Derived.Deep.AppendLies
import Derived.Maps.AppendAt
import Derived.OwnWalk
import Derived.Laws.BytesArg
import Derived.Laws.MakeOwn
import Derived.Laws.OwnMore
import Derived.Deep.OwnRows
import Derived.Tactics
import Derived.Lib.ConvBytes
import Derived.Laws.Slices
import Derived.WalkKit
import Derived.KernelRfl
import Derived.RowKit3
import Derived.Deep.LoopGhost
import Derived.Deep.QuietTactic
import Derived.BigQuiet
import Derived.WideLaws
import Derived.Deep.DeepCutAuto
import Derived.Deep.CutBlock
import Derived.Deep.RegionHeld3
import Derived.Laws.Rows
import Derived.Lib.AppendStr
import Derived.ArgAppend
import Derived.Laws.IdiomCopy
import Derived.OrdersHeld
import Derived.Laws.BitsLemmas
import Derived.RowKit
import Derived.Shelf.Strconv.Itoa3
import Derived.Test.YtnfcfhieocgomaaDoorWWords
import Derived.Test.YtnfcfhieocgomaaDoorWLast
import Derived.Test.YtnfcfhieocgomaaDoorWTab
import Derived.Test.YtnfcfhieocgomaaDoorWFour
import Derived.Test.YtnfcfhieocgomaaDoorWQPut
import Derived.Test.YtnfcfhieocgomaaDoorWApart
import Derived.Test.YtnfcfhieocgomaaDoorWArr
import Derived.Test.YtnfcfhieocgomaaDoorWZeros
import Derived.Test.YtnfcfhieocgomaaDoorWFoot
import Derived.Test.YtnfcfhieocgomaaDoorWKept
import Derived.Test.YtnfcfhieocgomaaDoorWShare
import Derived.Test.YtnfcfhieocgomaaDoorWN
import Derived.Test.YtnfcfhieocgomaaDoorWFootNe
import Derived.Test.YtnfcfhieocgomaaDoorWAt
import Derived.Test.YtnfcfhieocgomaaDoorWEqStruct
import Derived.Test.YtnfcfhieocgomaaDoorWRepsOne
import Derived.Test.YtnfcfhieocgomaaDoorWInv
import Derived.Test.YtnfcfhieocgomaaDoorWInvWords
import Derived.Test.YtnfcfhieocgomaaDoorWGuard
import Derived.Test.YtnfcfhieocgomaaDoorWNEv
import Derived.Test.YtnfcfhieocgomaaDoorWMore
namespace Go.Proofs.YtnfcfhieocgomaaDoor.PFnExactChainText
open Go.RowKit Go.Proofs.YtnfcfhieocgomaaDoorW.PrintWords Go.Proofs.YtnfcfhieocgomaaDoorW.PrintLast Go.Proofs.YtnfcfhieocgomaaDoorW.PrintMore
attribute [local go_sem] Instr.field asAgg part max2_int min2_int max_two min_two max_three min_three max_four min_four   -- for this text's walks alone
set_option linter.unusedVariables false
set_option linter.unusedSimpArgs false



def errW : Option Int → Value
  | none => .nilIface
  | some c => .iface 0 (.int .i64 c)
theorem errW_none : errW none = .nilIface := rfl
theorem errW_some (c : Int) : errW (some c) = .iface 0 (.int .i64 c) := rfl

theorem info5 : (Tryd.prog.info? 5).map (fun i => (i.zero, i.size, i.bytes)) = some (some (.int .u8 0), 1, 1) := by kernel_rfl
-- the values' own types

end Go.Proofs.YtnfcfhieocgomaaDoor.PFnExactChainText

-- written by a program of this session (the kit's print with turns of the session's own)
import Derived.Test.YtliiljjeebnfeaaProg
import Derived.Below
import Derived.Deep.Draws
import Derived.Deep.AppendLies
import Derived.Maps.AppendAt
import Derived.OwnWalk
import Derived.Laws.BytesArg
import Derived.Laws.MakeOwn
import Derived.Laws.OwnMore
import Derived.Deep.OwnRows
import Derived.Tactics
import Derived.Lib.ConvBytes
import Derived.Laws.Slices
import Derived.WalkKit
import Derived.KernelRfl
import Derived.RowKit3
import Derived.Deep.LoopGhost
import Derived.Deep.QuietTactic
import Derived.BigQuiet
import Derived.WideLaws
import Derived.Deep.DeepCutAuto
import Derived.Deep.CutBlock
import Derived.Deep.RegionHeld3
import Derived.Laws.Rows
import Derived.Lib.AppendStr
import Derived.ArgAppend
import Derived.Laws.IdiomCopy
import Derived.OrdersHeld
import Derived.Laws.BitsLemmas
import Derived.RowKit
import Derived.Shelf.SlicesE.DeleteFunc
import Derived.Test.YtliiljjeebnfeaaWWords
import Derived.Test.YtliiljjeebnfeaaWLast
import Derived.Test.YtliiljjeebnfeaaWTab
import Derived.Test.YtliiljjeebnfeaaWFour
import Derived.Test.YtliiljjeebnfeaaWQPut
import Derived.Test.YtliiljjeebnfeaaWApart
import Derived.Test.YtliiljjeebnfeaaWArr
import Derived.Test.YtliiljjeebnfeaaWZeros
import Derived.Test.YtliiljjeebnfeaaWFoot
import Derived.Test.YtliiljjeebnfeaaWKept
import Derived.Test.YtliiljjeebnfeaaWShare
import Derived.Test.YtliiljjeebnfeaaWN
import Derived.Test.YtliiljjeebnfeaaWFootNe
import Derived.Test.YtliiljjeebnfeaaWAt
import Derived.Test.YtliiljjeebnfeaaWEqStruct
import Derived.Test.YtliiljjeebnfeaaWRepsOne
import Derived.Test.YtliiljjeebnfeaaWInv
import Derived.Test.YtliiljjeebnfeaaWInvWords
import Derived.Test.YtliiljjeebnfeaaWGuard
import Derived.Test.YtliiljjeebnfeaaWNEv
import Derived.Test.YtliiljjeebnfeaaWMore
namespace Go.Proofs.Ytliiljjeebnfeaa.PFnExactHardestToBeat
open Go.RowKit Go.Proofs.YtliiljjeebnfeaaW.PrintWords Go.Proofs.YtliiljjeebnfeaaW.PrintLast Go.Proofs.YtliiljjeebnfeaaW.PrintMore
attribute [local go_sem] Instr.field asAgg part max2_int min2_int max_two min_two max_three min_three max_four min_four   -- for this text's walks alone
set_option linter.unusedVariables false
set_option linter.unusedSimpArgs false



def errW : Option Int → Value
  | none => .nilIface
  | some c => .iface 0 (.int .i64 c)
theorem errW_none : errW none = .nilIface := rfl
theorem errW_some (c : Int) : errW (some c) = .iface 0 (.int .i64 c) := rfl

theorem info9 : (Try.prog.info? 9).map (fun i => (i.zero, i.size, i.bytes)) = some (some (.string ⟨#[]⟩), 1, 16) := by kernel_rfl
-- the values' own types

end Go.Proofs.Ytliiljjeebnfeaa.PFnExactHardestToBeat

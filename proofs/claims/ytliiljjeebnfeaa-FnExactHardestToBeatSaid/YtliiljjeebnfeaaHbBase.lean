/- A part of the table for HardestToBeat: the best answer's chance is the same on both sides. -/
import Derived.Test.YtliiljjeebnfeaaPFnExactHardestToBeatx6
namespace Go.Proofs.Ytliiljjeebnfeaa.PFnExactHardestToBeat
set_option maxRecDepth 1000000
/-- Both sides answer, and tell the same chance. -/
def hbChk (h o : Int) (a : ByteArray) : Bool := match spec_raBest.f 100 h o a, impl_Coin_answer.f 100 h o a with
  | some (_, x, y), some (_, x', y') => decide (x = x') && decide (y = y')
  | _, _ => false
end Go.Proofs.Ytliiljjeebnfeaa.PFnExactHardestToBeat

/- For all arguments the program and the reference return the same from Constants: the plain statement over numbers and lists, and its proof. -/
import Derived.Test.YthhogbfmfdmcaaaPFnExactConstantsx1
namespace Go.Proofs.Ythhogbfmfdmcaaa.Pure
open Go.RowKit Go.Proofs.Ythhogbfmfdmcaaa.PFnExactConstants Go.Proofs.YthhogbfmfdmcaaaW.PrintWords Go.Proofs.YthhogbfmfdmcaaaW.PrintLast Go.Proofs.YthhogbfmfdmcaaaW.PrintMore
set_option linter.unusedVariables false
set_option linter.unusedSimpArgs false
set_option maxRecDepth 100000
theorem FnExactConstants : laws_FnExactConstants.Pure := rfl

end Go.Proofs.Ythhogbfmfdmcaaa.Pure

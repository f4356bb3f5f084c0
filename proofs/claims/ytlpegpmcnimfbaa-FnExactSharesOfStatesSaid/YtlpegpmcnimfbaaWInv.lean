-- words of the walks, as far as this claim uses them: written by a program of this session
import Derived.Test.YtlpegpmcnimfbaaWTab
namespace Go.Proofs.YtlpegpmcnimfbaaW.PrintLast
end Go.Proofs.YtlpegpmcnimfbaaW.PrintLast

-- words of the walks, as far as this claim uses them: written by a program of this session
import Derived.Test.YtlpegpmcnimfbaaWInv
import Derived.Test.YtlpegpmcnimfbaaWFootNe
namespace Go.Proofs.YtlpegpmcnimfbaaW.PrintWords
end Go.Proofs.YtlpegpmcnimfbaaW.PrintWords
namespace Go.Proofs.YtlpegpmcnimfbaaW.PrintLast
end Go.Proofs.YtlpegpmcnimfbaaW.PrintLast

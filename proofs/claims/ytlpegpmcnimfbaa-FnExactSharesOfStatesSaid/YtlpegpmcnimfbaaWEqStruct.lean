-- words of the walks, as far as this claim uses them: written by a program of this session
import Derived.Test.YtlpegpmcnimfbaaWWords
import Derived.Laws.StructEq
namespace Go.Proofs.YtlpegpmcnimfbaaW.PrintWords
end Go.Proofs.YtlpegpmcnimfbaaW.PrintWords

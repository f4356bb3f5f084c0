-- words of the walks, as far as this claim uses them: written by a program of this session
import Derived.Test.YtlpegpmcnimfbaaWApart
import Derived.Test.YtlpegpmcnimfbaaWArr
namespace Go.Proofs.YtlpegpmcnimfbaaW.PrintWords
namespace Kd
end Kd
end Go.Proofs.YtlpegpmcnimfbaaW.PrintWords

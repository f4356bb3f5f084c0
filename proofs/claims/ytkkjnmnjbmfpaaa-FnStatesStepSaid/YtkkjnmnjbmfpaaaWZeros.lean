-- words of the walks, as far as this claim uses them: written by a program of this session
import Derived.Test.YtkkjnmnjbmfpaaaWApart
import Derived.Test.YtkkjnmnjbmfpaaaWArr
namespace Go.Proofs.YtkkjnmnjbmfpaaaW.PrintWords
namespace Kd
end Kd
end Go.Proofs.YtkkjnmnjbmfpaaaW.PrintWords

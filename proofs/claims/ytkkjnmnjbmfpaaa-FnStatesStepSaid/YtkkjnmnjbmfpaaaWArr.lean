-- words of the walks, as far as this claim uses them: written by a program of this session
import Derived.Test.YtkkjnmnjbmfpaaaWWords
namespace Go.Proofs.YtkkjnmnjbmfpaaaW.PrintWords
namespace Kd
end Kd
end Go.Proofs.YtkkjnmnjbmfpaaaW.PrintWords

-- words of the walks, as far as this claim uses them: written by a program of this session
import Derived.Test.YtkkjnmnjbmfpaaaWInv
import Derived.Test.YtkkjnmnjbmfpaaaWFootNe
namespace Go.Proofs.YtkkjnmnjbmfpaaaW.PrintWords
end Go.Proofs.YtkkjnmnjbmfpaaaW.PrintWords
namespace Go.Proofs.YtkkjnmnjbmfpaaaW.PrintLast
end Go.Proofs.YtkkjnmnjbmfpaaaW.PrintLast

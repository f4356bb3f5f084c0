-- words of the walks, as far as this claim uses them: written by a program of this session
import Derived.Test.YtkkjnmnjbmfpaaaWTab
namespace Go.Proofs.YtkkjnmnjbmfpaaaW.PrintLast
end Go.Proofs.YtkkjnmnjbmfpaaaW.PrintLast

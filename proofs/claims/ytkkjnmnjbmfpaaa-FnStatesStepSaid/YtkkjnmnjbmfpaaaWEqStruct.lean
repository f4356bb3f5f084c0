-- words of the walks, as far as this claim uses them: written by a program of this session
import Derived.Test.YtkkjnmnjbmfpaaaWWords
import Derived.Laws.StructEq
namespace Go.Proofs.YtkkjnmnjbmfpaaaW.PrintWords
end Go.Proofs.YtkkjnmnjbmfpaaaW.PrintWords

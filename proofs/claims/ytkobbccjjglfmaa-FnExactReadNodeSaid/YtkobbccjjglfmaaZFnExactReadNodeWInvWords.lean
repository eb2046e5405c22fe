-- The words that this claim uses, cut by a program of this repo (wip/wprune.py) out of what print.sh printed.
import Derived.Test.YtkobbccjjglfmaaZFnExactReadNodeWInv
import Derived.Test.YtkobbccjjglfmaaZFnExactReadNodeWFootNe
namespace Go.Proofs.YtkobbccjjglfmaaW.PrintWords
open Go.RowKit
end Go.Proofs.YtkobbccjjglfmaaW.PrintWords
namespace Go.Proofs.YtkobbccjjglfmaaW.PrintLast
end Go.Proofs.YtkobbccjjglfmaaW.PrintLast

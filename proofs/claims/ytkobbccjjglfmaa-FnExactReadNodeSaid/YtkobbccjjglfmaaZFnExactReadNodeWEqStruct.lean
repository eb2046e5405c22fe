-- The words that this claim uses, cut by a program of this repo (wip/wprune.py) out of what print.sh printed.
import Derived.Test.YtkobbccjjglfmaaZFnExactReadNodeWWords
import Derived.Laws.StructEq
namespace Go.Proofs.YtkobbccjjglfmaaW.PrintWords
open Go.RowKit
end Go.Proofs.YtkobbccjjglfmaaW.PrintWords

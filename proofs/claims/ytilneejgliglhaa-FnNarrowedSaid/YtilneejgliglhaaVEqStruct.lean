/- The words that the print of these laws names, out of the printed words of this seat (print.sh); trimmed by a program of this session. -/
import Derived.Test.YtilneejgliglhaaVWords
import Derived.Laws.StructEq
namespace Go.Proofs.YtilneejgliglhaaW.PrintWords
open Go.RowKit
section
variable {P : Program} {d : Nat} {xs ys : Array Value} {f : Field} {fs : List Field} {a b : Value} {r s : Bool} {w : World}
end
end Go.Proofs.YtilneejgliglhaaW.PrintWords

/- The words that the print of these laws names, out of the printed words of this seat (print.sh); trimmed by a program of this session. -/
import Derived.Test.YtilneejgliglhaaVN
namespace Go.Proofs.YtilneejgliglhaaW.PrintWords
open Go.RowKit
namespace Kd
section
variable {α : Type} {d : Kd α} {W : World} {g n : Nat} {S ok : Nat → Prop} {A : Option Addr} {ad : Addr} {xs : List α}
end
end Kd
end Go.Proofs.YtilneejgliglhaaW.PrintWords

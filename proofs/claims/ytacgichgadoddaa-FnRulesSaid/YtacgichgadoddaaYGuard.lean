/- The words that the print of these laws names, out of the printed words of this seat (print.sh); trimmed by a program of this session. -/
import Derived.Test.YtacgichgadoddaaYWords
namespace Go.Proofs.YtacgichgadoddaaW.PrintWords
open Go.RowKit
section
variable {P : Program} {ops : Array Oper} {rest : List Oper} {o : Oper} {a : Act} {Q : Exit → Act → World → Prop} {W : World}
end
end Go.Proofs.YtacgichgadoddaaW.PrintWords

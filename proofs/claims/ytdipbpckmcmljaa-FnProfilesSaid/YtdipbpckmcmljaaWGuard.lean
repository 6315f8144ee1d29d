-- Cut down by wip/trimw.py from the words that print.sh lays: only what this seat's texts name.
import Derived.Test.YtdipbpckmcmljaaWWords
namespace Go.Proofs.YtdipbpckmcmljaaW.PrintWords
open Go.RowKit
section
variable {P : Program} {ops : Array Oper} {rest : List Oper} {o : Oper} {a : Act} {Q : Exit → Act → World → Prop} {W : World}
end
end Go.Proofs.YtdipbpckmcmljaaW.PrintWords

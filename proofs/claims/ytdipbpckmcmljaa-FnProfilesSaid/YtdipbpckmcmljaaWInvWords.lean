-- Cut down by wip/trimw.py from the words that print.sh lays: only what this seat's texts name.
import Derived.Test.YtdipbpckmcmljaaWInv
import Derived.Test.YtdipbpckmcmljaaWFootNe
namespace Go.Proofs.YtdipbpckmcmljaaW.PrintWords
open Go.RowKit
end Go.Proofs.YtdipbpckmcmljaaW.PrintWords
namespace Go.Proofs.YtdipbpckmcmljaaW.PrintLast
section
variable {ops : Array Oper} {a : Act} {o og : Oper} {g : Nat} {t : Tmp} {u : Bool}
end
end Go.Proofs.YtdipbpckmcmljaaW.PrintLast

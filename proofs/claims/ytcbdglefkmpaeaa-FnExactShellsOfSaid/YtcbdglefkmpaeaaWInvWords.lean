-- Cut down by wip/trimw.py from the words that print.sh lays: only what this seat's texts name.
import Derived.Test.YtcbdglefkmpaeaaWInv
import Derived.Test.YtcbdglefkmpaeaaWFootNe
namespace Go.Proofs.YtcbdglefkmpaeaaW.PrintWords
open Go.RowKit
end Go.Proofs.YtcbdglefkmpaeaaW.PrintWords
namespace Go.Proofs.YtcbdglefkmpaeaaW.PrintLast
section
variable {ops : Array Oper} {a : Act} {o og : Oper} {g : Nat} {t : Tmp} {u : Bool}
end
end Go.Proofs.YtcbdglefkmpaeaaW.PrintLast

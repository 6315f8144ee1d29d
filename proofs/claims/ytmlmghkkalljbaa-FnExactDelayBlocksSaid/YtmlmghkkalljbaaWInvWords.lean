-- Cut down by wip/trimw.py from the words that print.sh lays: only what this seat's texts name.
import Derived.Test.YtmlmghkkalljbaaWInv
import Derived.Test.YtmlmghkkalljbaaWFootNe
namespace Go.Proofs.YtmlmghkkalljbaaW.PrintWords
open Go.RowKit
end Go.Proofs.YtmlmghkkalljbaaW.PrintWords
namespace Go.Proofs.YtmlmghkkalljbaaW.PrintLast
section
variable {ops : Array Oper} {a : Act} {o og : Oper} {g : Nat} {t : Tmp} {u : Bool}
end
end Go.Proofs.YtmlmghkkalljbaaW.PrintLast

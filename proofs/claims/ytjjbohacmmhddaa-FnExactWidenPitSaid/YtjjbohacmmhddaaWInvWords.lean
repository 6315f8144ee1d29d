-- Cut down by wip/trimw.py from the words that print.sh lays: only what this seat's texts name.
import Derived.Test.YtjjbohacmmhddaaWInv
import Derived.Test.YtjjbohacmmhddaaWFootNe
namespace Go.Proofs.YtjjbohacmmhddaaW.PrintWords
open Go.RowKit
end Go.Proofs.YtjjbohacmmhddaaW.PrintWords
namespace Go.Proofs.YtjjbohacmmhddaaW.PrintLast
section
variable {ops : Array Oper} {a : Act} {o og : Oper} {g : Nat} {t : Tmp} {u : Bool}
end
end Go.Proofs.YtjjbohacmmhddaaW.PrintLast

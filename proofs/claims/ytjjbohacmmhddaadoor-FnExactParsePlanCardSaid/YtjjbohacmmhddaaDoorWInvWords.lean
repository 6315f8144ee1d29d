-- Cut down by wip/trimw.py from the words that print.sh lays: only what this seat's texts name.
import Derived.Test.YtjjbohacmmhddaaDoorWInv
import Derived.Test.YtjjbohacmmhddaaDoorWFootNe
namespace Go.Proofs.YtjjbohacmmhddaaDoorW.PrintWords
open Go.RowKit
end Go.Proofs.YtjjbohacmmhddaaDoorW.PrintWords
namespace Go.Proofs.YtjjbohacmmhddaaDoorW.PrintLast
section
variable {ops : Array Oper} {a : Act} {o og : Oper} {g : Nat} {t : Tmp} {u : Bool}
end
end Go.Proofs.YtjjbohacmmhddaaDoorW.PrintLast

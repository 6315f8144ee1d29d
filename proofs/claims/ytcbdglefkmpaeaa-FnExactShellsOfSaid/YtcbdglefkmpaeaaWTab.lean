-- Cut down by wip/trimw.py from the words that print.sh lays: only what this seat's texts name.
import Derived.Test.YtcbdglefkmpaeaaWLast
import Derived.Test.YtcbdglefkmpaeaaWWords
namespace Go.Proofs.YtcbdglefkmpaeaaW.PrintLast
open Go.Proofs.YtcbdglefkmpaeaaW.PrintWords (Aside0)
section
variable {md : Region.Mode} {ops : Array Oper} {T : Bool × List (List Nat × List Nat)} {l l' li lj lk : Array Bool} {ds : List Nat} {i j k : Nat}
end
end Go.Proofs.YtcbdglefkmpaeaaW.PrintLast

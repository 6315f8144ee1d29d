-- Cut down by wip/trimw.py from the words that print.sh lays: only what this seat's texts name.
import Derived.Test.YtdipbpckmcmljaaWWords
import Derived.Test.YtdipbpckmcmljaaWLast
namespace Go.Proofs.YtdipbpckmcmljaaW.PrintWords
open Go.RowKit
namespace Kd
section
variable {α : Type} {d : Kd α} {e base g o n cap : Nat} {ok okp : Nat → Prop} {w W : World} {v : Value} {xs : List α}
end
section
variable {α : Type} {enc : α → Value} {h1 : ∀ x, (enc x).oneCell' = true} {e base g o n cap : Nat} {ok : Nat → Prop} {W : World} {xs : List α}
end
end Kd
end Go.Proofs.YtdipbpckmcmljaaW.PrintWords

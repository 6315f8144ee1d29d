-- Printed by a changed copy of the printer; impl.bestPit and spec.paFind by contracts walked by hand
import Derived.Test.YtcbdglefkmpaeaaPFnExactFirstFactorsx0
import Derived.Test.YtcbdglefkmpaeaaPFnExactFirstFactorsx1
import Derived.Test.YtcbdglefkmpaeaaPFnExactFirstFactorsx2
import Derived.Test.YtcbdglefkmpaeaaPFnExactFirstFactorsx3
import Derived.Test.YtcbdglefkmpaeaaPFnExactFirstFactorsx4
import Derived.Test.YtcbdglefkmpaeaaPFnExactFirstFactorsx5
import Derived.Test.YtcbdglefkmpaeaaPFnExactFirstFactorsx6
import Derived.Test.YtcbdglefkmpaeaaPFnExactFirstFactorsx7
namespace Go.Proofs.Ytcbdglefkmpaeaa.PFnExactFirstFactors
open Go.RowKit Go.Proofs.YtcbdglefkmpaeaaW.PrintWords Go.Proofs.YtcbdglefkmpaeaaW.PrintLast Go.Proofs.YtcbdglefkmpaeaaW.PrintMore
attribute [local go_sem] max2_int min2_int max_two min_two max_three min_three max_four min_four   -- for this text's walks alone
set_option linter.unusedVariables false
set_option linter.unusedSimpArgs false

end Go.Proofs.Ytcbdglefkmpaeaa.PFnExactFirstFactors

-- Printed by a changed copy of the printer; impl.bestPit and spec.paFind by contracts walked by hand
import Derived.Test.YtcbdglefkmpaeaaPFnExactShellsOfx0
import Derived.Test.YtcbdglefkmpaeaaPFnExactShellsOfx1
import Derived.Test.YtcbdglefkmpaeaaPFnExactShellsOfx2
import Derived.Test.YtcbdglefkmpaeaaPFnExactShellsOfx3
import Derived.Test.YtcbdglefkmpaeaaPFnExactShellsOfx4
import Derived.Test.YtcbdglefkmpaeaaPFnExactShellsOfx5
import Derived.Test.YtcbdglefkmpaeaaPFnExactShellsOfx6
namespace Go.Proofs.Ytcbdglefkmpaeaa.PFnExactShellsOf
open Go.RowKit Go.Proofs.YtcbdglefkmpaeaaW.PrintWords Go.Proofs.YtcbdglefkmpaeaaW.PrintLast Go.Proofs.YtcbdglefkmpaeaaW.PrintMore
attribute [local go_sem] max2_int min2_int max_two min_two max_three min_three max_four min_four   -- for this text's walks alone
set_option linter.unusedVariables false
set_option linter.unusedSimpArgs false

end Go.Proofs.Ytcbdglefkmpaeaa.PFnExactShellsOf

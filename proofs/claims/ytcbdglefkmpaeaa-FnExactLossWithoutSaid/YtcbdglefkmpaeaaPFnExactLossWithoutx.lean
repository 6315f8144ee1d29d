-- Printed by a changed copy of the printer; impl.bestPit and spec.paFind by contracts walked by hand
import Derived.Test.YtcbdglefkmpaeaaPFnExactLossWithoutx0
import Derived.Test.YtcbdglefkmpaeaaPFnExactLossWithoutx1
import Derived.Test.YtcbdglefkmpaeaaPFnExactLossWithoutx2
import Derived.Test.YtcbdglefkmpaeaaPFnExactLossWithoutx3
import Derived.Test.YtcbdglefkmpaeaaPFnExactLossWithoutx4
import Derived.Test.YtcbdglefkmpaeaaPFnExactLossWithoutx5
import Derived.Test.YtcbdglefkmpaeaaPFnExactLossWithoutx6
import Derived.Test.YtcbdglefkmpaeaaPFnExactLossWithoutx7
import Derived.Test.YtcbdglefkmpaeaaPFnExactLossWithoutx8
namespace Go.Proofs.Ytcbdglefkmpaeaa.PFnExactLossWithout
open Go.RowKit Go.Proofs.YtcbdglefkmpaeaaW.PrintWords Go.Proofs.YtcbdglefkmpaeaaW.PrintLast Go.Proofs.YtcbdglefkmpaeaaW.PrintMore
attribute [local go_sem] max2_int min2_int max_two min_two max_three min_three max_four min_four   -- for this text's walks alone
set_option linter.unusedVariables false
set_option linter.unusedSimpArgs false

end Go.Proofs.Ytcbdglefkmpaeaa.PFnExactLossWithout

-- Printed by a changed copy of the printer
import Derived.Test.YtdipbpckmcmljaaPFnExactBestBelowx0
import Derived.Test.YtdipbpckmcmljaaPFnExactBestBelowx1
import Derived.Test.YtdipbpckmcmljaaPFnExactBestBelowx2
import Derived.Test.YtdipbpckmcmljaaPFnExactBestBelowx3
import Derived.Test.YtdipbpckmcmljaaPFnExactBestBelowx4
import Derived.Test.YtdipbpckmcmljaaPFnExactBestBelowx5
import Derived.Test.YtdipbpckmcmljaaPFnExactBestBelowx6
import Derived.Test.YtdipbpckmcmljaaPFnExactBestBelowx7
namespace Go.Proofs.Ytdipbpckmcmljaa.PFnExactBestBelow
open Go.RowKit Go.Proofs.YtdipbpckmcmljaaW.PrintWords Go.Proofs.YtdipbpckmcmljaaW.PrintLast Go.Proofs.YtdipbpckmcmljaaW.PrintMore
attribute [local go_sem] max2_int min2_int max_two min_two max_three min_three max_four min_four   -- for this text's walks alone
set_option linter.unusedVariables false
set_option linter.unusedSimpArgs false

end Go.Proofs.Ytdipbpckmcmljaa.PFnExactBestBelow

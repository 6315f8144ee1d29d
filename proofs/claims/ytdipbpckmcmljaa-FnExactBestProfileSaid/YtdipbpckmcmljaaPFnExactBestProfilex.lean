-- Printed by a changed copy of the printer
import Derived.Test.YtdipbpckmcmljaaPFnExactBestProfilex0
import Derived.Test.YtdipbpckmcmljaaPFnExactBestProfilex1
import Derived.Test.YtdipbpckmcmljaaPFnExactBestProfilex2
import Derived.Test.YtdipbpckmcmljaaPFnExactBestProfilex3
import Derived.Test.YtdipbpckmcmljaaPFnExactBestProfilex4
import Derived.Test.YtdipbpckmcmljaaPFnExactBestProfilex5
import Derived.Test.YtdipbpckmcmljaaPFnExactBestProfilex6
namespace Go.Proofs.Ytdipbpckmcmljaa.PFnExactBestProfile
open Go.RowKit Go.Proofs.YtdipbpckmcmljaaW.PrintWords Go.Proofs.YtdipbpckmcmljaaW.PrintLast Go.Proofs.YtdipbpckmcmljaaW.PrintMore
attribute [local go_sem] max2_int min2_int max_two min_two max_three min_three max_four min_four   -- for this text's walks alone
set_option linter.unusedVariables false
set_option linter.unusedSimpArgs false

end Go.Proofs.Ytdipbpckmcmljaa.PFnExactBestProfile

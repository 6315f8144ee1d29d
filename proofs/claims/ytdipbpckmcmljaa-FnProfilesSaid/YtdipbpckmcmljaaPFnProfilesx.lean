-- Printed by a changed copy of the printer
import Derived.Test.YtdipbpckmcmljaaPFnProfilesx0
import Derived.Test.YtdipbpckmcmljaaPFnProfilesx1
import Derived.Test.YtdipbpckmcmljaaPFnProfilesx2
import Derived.Test.YtdipbpckmcmljaaPFnProfilesx3
import Derived.Test.YtdipbpckmcmljaaPFnProfilesx4
import Derived.Test.YtdipbpckmcmljaaPFnProfilesx5
import Derived.Test.YtdipbpckmcmljaaPFnProfilesx6
import Derived.Test.YtdipbpckmcmljaaPFnProfilesx7
import Derived.Test.YtdipbpckmcmljaaPFnProfilesx8
import Derived.Test.YtdipbpckmcmljaaPFnProfilesx9
import Derived.Test.YtdipbpckmcmljaaPFnProfilesx10
import Derived.Test.YtdipbpckmcmljaaPFnProfilesx11
import Derived.Test.YtdipbpckmcmljaaPFnProfilesx12
import Derived.Test.YtdipbpckmcmljaaPFnProfilesx13
import Derived.Test.YtdipbpckmcmljaaPFnProfilesx14
import Derived.Test.YtdipbpckmcmljaaPFnProfilesx15
namespace Go.Proofs.Ytdipbpckmcmljaa.PFnProfiles
open Go.RowKit Go.Proofs.YtdipbpckmcmljaaW.PrintWords Go.Proofs.YtdipbpckmcmljaaW.PrintLast Go.Proofs.YtdipbpckmcmljaaW.PrintMore
attribute [local go_sem] max2_int min2_int max_two min_two max_three min_three max_four min_four   -- for this text's walks alone
set_option linter.unusedVariables false
set_option linter.unusedSimpArgs false

end Go.Proofs.Ytdipbpckmcmljaa.PFnProfiles

-- Printed by a changed copy of the printer
import Derived.Test.YtdipbpckmcmljaaPFnSectionsx0
import Derived.Test.YtdipbpckmcmljaaPFnSectionsx1
import Derived.Test.YtdipbpckmcmljaaPFnSectionsx2
import Derived.Test.YtdipbpckmcmljaaPFnSectionsx3
import Derived.Test.YtdipbpckmcmljaaPFnSectionsx4
import Derived.Test.YtdipbpckmcmljaaPFnSectionsx5
import Derived.Test.YtdipbpckmcmljaaPFnSectionsx6
import Derived.Test.YtdipbpckmcmljaaPFnSectionsx7
import Derived.Test.YtdipbpckmcmljaaPFnSectionsx8
import Derived.Test.YtdipbpckmcmljaaPFnSectionsx9
import Derived.Test.YtdipbpckmcmljaaPFnSectionsx10
import Derived.Test.YtdipbpckmcmljaaPFnSectionsx11
import Derived.Test.YtdipbpckmcmljaaPFnSectionsx12
import Derived.Test.YtdipbpckmcmljaaPFnSectionsx13
import Derived.Test.YtdipbpckmcmljaaPFnSectionsx14
import Derived.Test.YtdipbpckmcmljaaPFnSectionsx15
namespace Go.Proofs.Ytdipbpckmcmljaa.PFnSections
open Go.RowKit Go.Proofs.YtdipbpckmcmljaaW.PrintWords Go.Proofs.YtdipbpckmcmljaaW.PrintLast Go.Proofs.YtdipbpckmcmljaaW.PrintMore
attribute [local go_sem] max2_int min2_int max_two min_two max_three min_three max_four min_four   -- for this text's walks alone
set_option linter.unusedVariables false
set_option linter.unusedSimpArgs false

end Go.Proofs.Ytdipbpckmcmljaa.PFnSections

-- Printed by a changed copy of the printer
import Derived.Test.YtdipbpckmcmljaaPFnExactFillPitsx0
import Derived.Test.YtdipbpckmcmljaaPFnExactFillPitsx1
import Derived.Test.YtdipbpckmcmljaaPFnExactFillPitsx2
import Derived.Test.YtdipbpckmcmljaaPFnExactFillPitsx3
import Derived.Test.YtdipbpckmcmljaaPFnExactFillPitsx4
import Derived.Test.YtdipbpckmcmljaaPFnExactFillPitsx5
import Derived.Test.YtdipbpckmcmljaaPFnExactFillPitsx6
import Derived.Test.YtdipbpckmcmljaaPFnExactFillPitsx7
namespace Go.Proofs.Ytdipbpckmcmljaa.PFnExactFillPits
open Go.RowKit Go.Proofs.YtdipbpckmcmljaaW.PrintWords Go.Proofs.YtdipbpckmcmljaaW.PrintLast Go.Proofs.YtdipbpckmcmljaaW.PrintMore
attribute [local go_sem] max2_int min2_int max_two min_two max_three min_three max_four min_four   -- for this text's walks alone
set_option linter.unusedVariables false
set_option linter.unusedSimpArgs false

end Go.Proofs.Ytdipbpckmcmljaa.PFnExactFillPits

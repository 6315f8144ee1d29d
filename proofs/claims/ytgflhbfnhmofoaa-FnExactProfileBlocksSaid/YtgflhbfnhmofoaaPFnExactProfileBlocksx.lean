-- PRINTED BY print.sh 35421559b90ae4d0a3588c463048766b98c2df88dd9212a6774a882060cdf62d: not written by this session
import Derived.Test.YtgflhbfnhmofoaaPFnExactProfileBlocksx0
import Derived.Test.YtgflhbfnhmofoaaPFnExactProfileBlocksx1
import Derived.Test.YtgflhbfnhmofoaaPFnExactProfileBlocksx2
import Derived.Test.YtgflhbfnhmofoaaPFnExactProfileBlocksx3
import Derived.Test.YtgflhbfnhmofoaaPFnExactProfileBlocksx4
import Derived.Test.YtgflhbfnhmofoaaPFnExactProfileBlocksx5
namespace Go.Proofs.Ytgflhbfnhmofoaa.PFnExactProfileBlocks
open Go.RowKit Go.Proofs.YtgflhbfnhmofoaaW.PrintWords Go.Proofs.YtgflhbfnhmofoaaW.PrintLast Go.Proofs.YtgflhbfnhmofoaaW.PrintMore
attribute [local go_sem] max2_int min2_int max_two min_two max_three min_three max_four min_four   -- for this text's walks alone
set_option linter.unusedVariables false
set_option linter.unusedSimpArgs false

end Go.Proofs.Ytgflhbfnhmofoaa.PFnExactProfileBlocks

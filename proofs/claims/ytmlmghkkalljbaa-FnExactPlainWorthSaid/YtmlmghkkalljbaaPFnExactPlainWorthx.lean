-- PRINTED BY print.sh 35421559b90ae4d0a3588c463048766b98c2df88dd9212a6774a882060cdf62d: not written by this session
import Derived.Test.YtmlmghkkalljbaaPFnExactPlainWorthx0
import Derived.Test.YtmlmghkkalljbaaPFnExactPlainWorthx1
import Derived.Test.YtmlmghkkalljbaaPFnExactPlainWorthx2
import Derived.Test.YtmlmghkkalljbaaPFnExactPlainWorthx3
import Derived.Test.YtmlmghkkalljbaaPFnExactPlainWorthx4
import Derived.Test.YtmlmghkkalljbaaPFnExactPlainWorthx5
import Derived.Test.YtmlmghkkalljbaaPFnExactPlainWorthx6
import Derived.Test.YtmlmghkkalljbaaPFnExactPlainWorthx7
import Derived.Test.YtmlmghkkalljbaaPFnExactPlainWorthx8
namespace Go.Proofs.Ytmlmghkkalljbaa.PFnExactPlainWorth
open Go.RowKit Go.Proofs.YtmlmghkkalljbaaW.PrintWords Go.Proofs.YtmlmghkkalljbaaW.PrintLast Go.Proofs.YtmlmghkkalljbaaW.PrintMore
attribute [local go_sem] max2_int min2_int max_two min_two max_three min_three max_four min_four   -- for this text's walks alone
set_option linter.unusedVariables false
set_option linter.unusedSimpArgs false

end Go.Proofs.Ytmlmghkkalljbaa.PFnExactPlainWorth

-- Taken from a printed text: the imports but the law's own (wip/NOTES).
import Derived.Test.YtmlmghkkalljbaaPFnExactIsFeasiblex0
import Derived.Test.YtmlmghkkalljbaaPFnExactIsFeasiblex1
import Derived.Test.YtmlmghkkalljbaaPFnExactIsFeasiblex2
import Derived.Test.YtmlmghkkalljbaaPFnExactIsFeasiblex3
import Derived.Test.YtmlmghkkalljbaaPFnExactIsFeasiblex4
import Derived.Test.YtmlmghkkalljbaaPFnExactIsFeasiblex5
import Derived.Test.YtmlmghkkalljbaaPFnExactIsFeasiblex6
import Derived.Test.YtmlmghkkalljbaaPFnExactIsFeasiblex7
import Derived.Test.YtmlmghkkalljbaaPFnExactIsFeasiblex8
import Derived.Test.YtmlmghkkalljbaaPFnExactIsFeasiblex9
import Derived.Test.YtmlmghkkalljbaaPFnExactIsFeasiblex10
import Derived.Test.YtmlmghkkalljbaaPFnExactIsFeasiblex11
namespace Go.Proofs.Ytmlmghkkalljbaa.PFnExactIsFeasible
open Go.RowKit Go.Proofs.YtmlmghkkalljbaaW.PrintWords Go.Proofs.YtmlmghkkalljbaaW.PrintLast Go.Proofs.YtmlmghkkalljbaaW.PrintMore
attribute [local go_sem] max2_int min2_int max_two min_two max_three min_three max_four min_four   -- for this text's walks alone
set_option linter.unusedVariables false
set_option linter.unusedSimpArgs false

end Go.Proofs.Ytmlmghkkalljbaa.PFnExactIsFeasible

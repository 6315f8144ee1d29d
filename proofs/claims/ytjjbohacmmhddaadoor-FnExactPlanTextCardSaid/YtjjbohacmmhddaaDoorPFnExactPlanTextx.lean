-- Printed by a changed copy of the printer; strconv.Itoa by the shelf's contract
import Derived.Test.YtjjbohacmmhddaaDoorPFnExactPlanTextx0
import Derived.Test.YtjjbohacmmhddaaDoorPFnExactPlanTextx1
import Derived.Test.YtjjbohacmmhddaaDoorPFnExactPlanTextx2
import Derived.Test.YtjjbohacmmhddaaDoorPFnExactPlanTextx3
import Derived.Test.YtjjbohacmmhddaaDoorPFnExactPlanTextx4
import Derived.Test.YtjjbohacmmhddaaDoorPFnExactPlanTextx5
import Derived.Test.YtjjbohacmmhddaaDoorPFnExactPlanTextx6
import Derived.Test.YtjjbohacmmhddaaDoorPFnExactPlanTextx7
import Derived.Test.YtjjbohacmmhddaaDoorPFnExactPlanTextx8
import Derived.Test.YtjjbohacmmhddaaDoorPFnExactPlanTextx9
namespace Go.Proofs.YtjjbohacmmhddaaDoor.PFnExactPlanText
open Go.RowKit Go.Proofs.YtjjbohacmmhddaaDoorW.PrintWords Go.Proofs.YtjjbohacmmhddaaDoorW.PrintLast Go.Proofs.YtjjbohacmmhddaaDoorW.PrintMore
attribute [local go_sem] max2_int min2_int max_two min_two max_three min_three max_four min_four   -- for this text's walks alone
set_option linter.unusedVariables false
set_option linter.unusedSimpArgs false

end Go.Proofs.YtjjbohacmmhddaaDoor.PFnExactPlanText

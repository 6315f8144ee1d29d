-- PRINTED BY print.sh 35421559b90ae4d0a3588c463048766b98c2df88dd9212a6774a882060cdf62d: not written by this session
import Derived.Test.YtjjbohacmmhddaaPFnExactTrimPitx0
import Derived.Test.YtjjbohacmmhddaaPFnExactTrimPitx1
import Derived.Test.YtjjbohacmmhddaaPFnExactTrimPitx2
import Derived.Test.YtjjbohacmmhddaaPFnExactTrimPitx3
import Derived.Test.YtjjbohacmmhddaaPFnExactTrimPitx4
import Derived.Test.YtjjbohacmmhddaaPFnExactTrimPitx5
import Derived.Test.YtjjbohacmmhddaaPFnExactTrimPitx6
import Derived.Test.YtjjbohacmmhddaaPFnExactTrimPitx7
import Derived.Test.YtjjbohacmmhddaaPFnExactTrimPitx8
import Derived.Test.YtjjbohacmmhddaaPFnExactTrimPitx9
import Derived.Test.YtjjbohacmmhddaaPFnExactTrimPitx10
namespace Go.Proofs.Ytjjbohacmmhddaa.PFnExactTrimPit
open Go.RowKit Go.Proofs.YtjjbohacmmhddaaW.PrintWords Go.Proofs.YtjjbohacmmhddaaW.PrintLast Go.Proofs.YtjjbohacmmhddaaW.PrintMore
attribute [local go_sem] max2_int min2_int max_two min_two max_three min_three max_four min_four   -- for this text's walks alone
set_option linter.unusedVariables false
set_option linter.unusedSimpArgs false

end Go.Proofs.Ytjjbohacmmhddaa.PFnExactTrimPit

-- Written by a program of this session (wip/tools/hp.py) out of the translation.
import Derived.Test.YtlfhgednlljkoaaPx0
import Derived.Test.YtlfhgednlljkoaaPx1
import Derived.Test.YtlfhgednlljkoaaPx2
import Derived.Test.YtlfhgednlljkoaaPx3
import Derived.Test.YtlfhgednlljkoaaPx4
import Derived.Test.YtlfhgednlljkoaaPx5
import Derived.Test.YtlfhgednlljkoaaPx6
import Derived.Test.YtlfhgednlljkoaaPx7
namespace Go.Proofs.Ytlfhgednlljkoaa.P
open Go.RowKit Go.Proofs.YtlfhgednlljkoaaW.PrintWords Go.Proofs.YtlfhgednlljkoaaW.PrintLast Go.Proofs.YtlfhgednlljkoaaW.PrintMore
attribute [local go_sem] max2_int min2_int max_two min_two max_three min_three max_four min_four   -- for this text's walks alone
set_option linter.unusedVariables false
set_option linter.unusedSimpArgs false

end Go.Proofs.Ytlfhgednlljkoaa.P

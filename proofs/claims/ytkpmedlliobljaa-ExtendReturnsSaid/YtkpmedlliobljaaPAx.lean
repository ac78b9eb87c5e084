-- Written by wip/tools/wprint.py (the prover's own program over the kit's print) for this claim. Not trusted: Lean checks it.
import Derived.Test.YtkpmedlliobljaaPAx0
import Derived.Test.YtkpmedlliobljaaPAx1
import Derived.Test.YtkpmedlliobljaaPAx2
import Derived.Test.YtkpmedlliobljaaPAx3
import Derived.Test.YtkpmedlliobljaaPAx4
import Derived.Test.YtkpmedlliobljaaPAx5
import Derived.Test.YtkpmedlliobljaaPAx6
import Derived.Test.YtkpmedlliobljaaPAx7
namespace Go.Proofs.Ytkpmedlliobljaa.PA
open Go.RowKit Go.Proofs.YtkpmedlliobljaaW.PrintWords Go.Proofs.YtkpmedlliobljaaW.PrintLast Go.Proofs.YtkpmedlliobljaaW.PrintMore
attribute [local go_sem] max2_int min2_int max_two min_two max_three min_three max_four min_four   -- for this text's walks alone
set_option linter.unusedVariables false
set_option linter.unusedSimpArgs false

end Go.Proofs.Ytkpmedlliobljaa.PA

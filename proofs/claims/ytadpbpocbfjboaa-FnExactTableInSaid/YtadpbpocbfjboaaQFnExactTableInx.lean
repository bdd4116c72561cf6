/- What the Go functions of the law FnExactTableIn come to, as Lean functions, and that they do: by a program of the session, out of the kit's printer. Conditions: none. (squeezed). -/
import Derived.Test.YtadpbpocbfjboaaSq
import Derived.Test.YtadpbpocbfjboaaQFnExactTableInx0
import Derived.Test.YtadpbpocbfjboaaQFnExactTableInx1
import Derived.Test.YtadpbpocbfjboaaQFnExactTableInx2
import Derived.Test.YtadpbpocbfjboaaQFnExactTableInx3
import Derived.Test.YtadpbpocbfjboaaQFnExactTableInx4
import Derived.Test.YtadpbpocbfjboaaQFnExactTableInx5
import Derived.Test.YtadpbpocbfjboaaQFnExactTableInx6
import Derived.Test.YtadpbpocbfjboaaQFnExactTableInx7
namespace Go.Proofs.Ytadpbpocbfjboaa.QFnExactTableIn
open Go.RowKit Go.Proofs.YtadpbpocbfjboaaW.PrintWords Go.Proofs.YtadpbpocbfjboaaW.PrintLast Go.Proofs.YtadpbpocbfjboaaW.PrintMore Go.Proofs.Ytadpbpocbfjboaa.Open Go.Proofs.Ytadpbpocbfjboaa.Sq
attribute [local go_sem] max2_int min2_int max_two min_two max_three min_three max_four min_four   -- for this text's walks alone
attribute [local go_sem] isSome_set
set_option linter.unusedVariables false
set_option linter.unusedSimpArgs false

end Go.Proofs.Ytadpbpocbfjboaa.QFnExactTableIn

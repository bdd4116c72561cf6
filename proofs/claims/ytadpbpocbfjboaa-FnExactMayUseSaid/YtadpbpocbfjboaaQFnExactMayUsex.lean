/- What the Go functions of the law FnExactMayUse come to, as Lean functions, and that they do: by a program of the session, out of the kit's printer. Conditions: none. -/
import Derived.Test.YtadpbpocbfjboaaQFnExactMayUsex0
import Derived.Test.YtadpbpocbfjboaaQFnExactMayUsex1
import Derived.Test.YtadpbpocbfjboaaQFnExactMayUsex2
import Derived.Test.YtadpbpocbfjboaaQFnExactMayUsex3
import Derived.Test.YtadpbpocbfjboaaQFnExactMayUsex4
import Derived.Test.YtadpbpocbfjboaaQFnExactMayUsex5
import Derived.Test.YtadpbpocbfjboaaQFnExactMayUsex6
import Derived.Test.YtadpbpocbfjboaaQFnExactMayUsex7
namespace Go.Proofs.Ytadpbpocbfjboaa.QFnExactMayUse
open Go.RowKit Go.Proofs.YtadpbpocbfjboaaW.PrintWords Go.Proofs.YtadpbpocbfjboaaW.PrintLast Go.Proofs.YtadpbpocbfjboaaW.PrintMore Go.Proofs.Ytadpbpocbfjboaa.Open
attribute [local go_sem] max2_int min2_int max_two min_two max_three min_three max_four min_four   -- for this text's walks alone
attribute [local go_sem] isSome_set
set_option linter.unusedVariables false
set_option linter.unusedSimpArgs false

end Go.Proofs.Ytadpbpocbfjboaa.QFnExactMayUse

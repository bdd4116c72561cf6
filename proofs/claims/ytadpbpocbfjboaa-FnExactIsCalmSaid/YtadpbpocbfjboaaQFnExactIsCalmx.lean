/- What the Go functions of the law FnExactIsCalm come to, as Lean functions, and that they do: by a program of the session, out of the kit's printer. Conditions: none. -/
import Derived.Test.YtadpbpocbfjboaaQFnExactIsCalmx0
import Derived.Test.YtadpbpocbfjboaaQFnExactIsCalmx1
import Derived.Test.YtadpbpocbfjboaaQFnExactIsCalmx2
import Derived.Test.YtadpbpocbfjboaaQFnExactIsCalmx3
import Derived.Test.YtadpbpocbfjboaaQFnExactIsCalmx4
import Derived.Test.YtadpbpocbfjboaaQFnExactIsCalmx5
namespace Go.Proofs.Ytadpbpocbfjboaa.QFnExactIsCalm
open Go.RowKit Go.Proofs.YtadpbpocbfjboaaW.PrintWords Go.Proofs.YtadpbpocbfjboaaW.PrintLast Go.Proofs.YtadpbpocbfjboaaW.PrintMore Go.Proofs.Ytadpbpocbfjboaa.Open
attribute [local go_sem] max2_int min2_int max_two min_two max_three min_three max_four min_four   -- for this text's walks alone
attribute [local go_sem] isSome_set
set_option linter.unusedVariables false
set_option linter.unusedSimpArgs false

end Go.Proofs.Ytadpbpocbfjboaa.QFnExactIsCalm

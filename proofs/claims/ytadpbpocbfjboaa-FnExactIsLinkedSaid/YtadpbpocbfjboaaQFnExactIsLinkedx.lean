/- What the Go functions of the law FnExactIsLinked come to, as Lean functions, and that they do: by a program of the session, out of the kit's printer. Conditions: none. -/
import Derived.Test.YtadpbpocbfjboaaQFnExactIsLinkedx0
import Derived.Test.YtadpbpocbfjboaaQFnExactIsLinkedx1
import Derived.Test.YtadpbpocbfjboaaQFnExactIsLinkedx2
import Derived.Test.YtadpbpocbfjboaaQFnExactIsLinkedx3
import Derived.Test.YtadpbpocbfjboaaQFnExactIsLinkedx4
import Derived.Test.YtadpbpocbfjboaaQFnExactIsLinkedx5
import Derived.Test.YtadpbpocbfjboaaQFnExactIsLinkedx6
import Derived.Test.YtadpbpocbfjboaaQFnExactIsLinkedx7
namespace Go.Proofs.Ytadpbpocbfjboaa.QFnExactIsLinked
open Go.RowKit Go.Proofs.YtadpbpocbfjboaaW.PrintWords Go.Proofs.YtadpbpocbfjboaaW.PrintLast Go.Proofs.YtadpbpocbfjboaaW.PrintMore Go.Proofs.Ytadpbpocbfjboaa.Open
attribute [local go_sem] max2_int min2_int max_two min_two max_three min_three max_four min_four   -- for this text's walks alone
attribute [local go_sem] isSome_set
set_option linter.unusedVariables false
set_option linter.unusedSimpArgs false

end Go.Proofs.Ytadpbpocbfjboaa.QFnExactIsLinked

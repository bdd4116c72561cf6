/- What the Go functions of the law FnExactIsSafeMix come to, as Lean functions, and that they do: by a program of the session, out of the kit's printer. Conditions: none. -/
import Derived.Test.YtadpbpocbfjboaaVFnExactIsSafeMixQFnExactIsSafeMixx0
import Derived.Test.YtadpbpocbfjboaaVFnExactIsSafeMixQFnExactIsSafeMixx1
import Derived.Test.YtadpbpocbfjboaaVFnExactIsSafeMixQFnExactIsSafeMixx2
import Derived.Test.YtadpbpocbfjboaaVFnExactIsSafeMixQFnExactIsSafeMixx3
import Derived.Test.YtadpbpocbfjboaaVFnExactIsSafeMixQFnExactIsSafeMixx4
import Derived.Test.YtadpbpocbfjboaaVFnExactIsSafeMixQFnExactIsSafeMixx5
import Derived.Test.YtadpbpocbfjboaaVFnExactIsSafeMixQFnExactIsSafeMixx6
import Derived.Test.YtadpbpocbfjboaaVFnExactIsSafeMixQFnExactIsSafeMixx7
import Derived.Test.YtadpbpocbfjboaaVFnExactIsSafeMixQFnExactIsSafeMixx8
import Derived.Test.YtadpbpocbfjboaaVFnExactIsSafeMixQFnExactIsSafeMixx9
import Derived.Test.YtadpbpocbfjboaaVFnExactIsSafeMixQFnExactIsSafeMixx10
import Derived.Test.YtadpbpocbfjboaaVFnExactIsSafeMixQFnExactIsSafeMixx11
namespace Go.Proofs.Ytadpbpocbfjboaa.QFnExactIsSafeMix
open Go.RowKit Go.Proofs.YtadpbpocbfjboaaW.PrintWords Go.Proofs.YtadpbpocbfjboaaW.PrintLast Go.Proofs.YtadpbpocbfjboaaW.PrintMore Go.Proofs.Ytadpbpocbfjboaa.Open
attribute [local go_sem] max2_int min2_int max_two min_two max_three min_three max_four min_four   -- for this text's walks alone
attribute [local go_sem] isSome_set
set_option linter.unusedVariables false
set_option linter.unusedSimpArgs false

end Go.Proofs.Ytadpbpocbfjboaa.QFnExactIsSafeMix

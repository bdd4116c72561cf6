/- What the Go functions of the law FnExactLostToClocks come to, as Lean functions, and that they do: by a program of the session, out of the kit's printer. Conditions: none. (squeezed). -/
import Derived.Test.YtadpbpocbfjboaaSq
import Derived.Test.YtadpbpocbfjboaaQFnExactLostToClocksx0
import Derived.Test.YtadpbpocbfjboaaQFnExactLostToClocksx1
import Derived.Test.YtadpbpocbfjboaaQFnExactLostToClocksx2
import Derived.Test.YtadpbpocbfjboaaQFnExactLostToClocksx3
import Derived.Test.YtadpbpocbfjboaaQFnExactLostToClocksx4
import Derived.Test.YtadpbpocbfjboaaQFnExactLostToClocksx5
import Derived.Test.YtadpbpocbfjboaaQFnExactLostToClocksx6
import Derived.Test.YtadpbpocbfjboaaQFnExactLostToClocksx7
import Derived.Test.YtadpbpocbfjboaaQFnExactLostToClocksx8
import Derived.Test.YtadpbpocbfjboaaQFnExactLostToClocksx9
namespace Go.Proofs.Ytadpbpocbfjboaa.QFnExactLostToClocks
open Go.RowKit Go.Proofs.YtadpbpocbfjboaaW.PrintWords Go.Proofs.YtadpbpocbfjboaaW.PrintLast Go.Proofs.YtadpbpocbfjboaaW.PrintMore Go.Proofs.Ytadpbpocbfjboaa.Open Go.Proofs.Ytadpbpocbfjboaa.Sq
attribute [local go_sem] max2_int min2_int max_two min_two max_three min_three max_four min_four   -- for this text's walks alone
attribute [local go_sem] isSome_set
set_option linter.unusedVariables false
set_option linter.unusedSimpArgs false

end Go.Proofs.Ytadpbpocbfjboaa.QFnExactLostToClocks

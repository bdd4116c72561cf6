/- What the Go functions of the law FnExactMixOf come to, as Lean functions, and that they do: by a program of the session, out of the kit's printer. Conditions: none. (squeezed). -/
import Derived.Test.YtadpbpocbfjboaaSq
import Derived.Test.YtadpbpocbfjboaaQFnExactMixOfx0
import Derived.Test.YtadpbpocbfjboaaQFnExactMixOfx1
import Derived.Test.YtadpbpocbfjboaaQFnExactMixOfx2
import Derived.Test.YtadpbpocbfjboaaQFnExactMixOfx3
import Derived.Test.YtadpbpocbfjboaaQFnExactMixOfx4
import Derived.Test.YtadpbpocbfjboaaQFnExactMixOfx5
import Derived.Test.YtadpbpocbfjboaaQFnExactMixOfx6
import Derived.Test.YtadpbpocbfjboaaQFnExactMixOfx7
import Derived.Test.YtadpbpocbfjboaaQFnExactMixOfx8
namespace Go.Proofs.Ytadpbpocbfjboaa.QFnExactMixOf
open Go.RowKit Go.Proofs.YtadpbpocbfjboaaW.PrintWords Go.Proofs.YtadpbpocbfjboaaW.PrintLast Go.Proofs.YtadpbpocbfjboaaW.PrintMore Go.Proofs.Ytadpbpocbfjboaa.Open Go.Proofs.Ytadpbpocbfjboaa.Sq
attribute [local go_sem] max2_int min2_int max_two min_two max_three min_three max_four min_four   -- for this text's walks alone
attribute [local go_sem] isSome_set
set_option linter.unusedVariables false
set_option linter.unusedSimpArgs false

end Go.Proofs.Ytadpbpocbfjboaa.QFnExactMixOf

/- What the Go functions of the law FnExactIsHolding come to, as Lean functions, and that they do: by a program of the session, out of the kit's printer. Conditions: none. (squeezed). -/
import Derived.Test.YtlakjlolahjphaaSq
import Derived.Test.YtlakjlolahjphaaQFnExactIsHoldingx0
import Derived.Test.YtlakjlolahjphaaQFnExactIsHoldingx1
import Derived.Test.YtlakjlolahjphaaQFnExactIsHoldingx2
import Derived.Test.YtlakjlolahjphaaQFnExactIsHoldingx3
import Derived.Test.YtlakjlolahjphaaQFnExactIsHoldingx4
import Derived.Test.YtlakjlolahjphaaQFnExactIsHoldingx5
import Derived.Test.YtlakjlolahjphaaQFnExactIsHoldingx6
import Derived.Test.YtlakjlolahjphaaQFnExactIsHoldingx7
import Derived.Test.YtlakjlolahjphaaQFnExactIsHoldingx8
import Derived.Test.YtlakjlolahjphaaQFnExactIsHoldingx9
import Derived.Test.YtlakjlolahjphaaQFnExactIsHoldingx10
import Derived.Test.YtlakjlolahjphaaQFnExactIsHoldingx11
import Derived.Test.YtlakjlolahjphaaQFnExactIsHoldingx12
import Derived.Test.YtlakjlolahjphaaQFnExactIsHoldingx13
import Derived.Test.YtlakjlolahjphaaQFnExactIsHoldingx14
namespace Go.Proofs.Ytlakjlolahjphaa.QFnExactIsHolding
open Go.RowKit Go.Proofs.YtlakjlolahjphaaW.PrintWords Go.Proofs.YtlakjlolahjphaaW.PrintLast Go.Proofs.YtlakjlolahjphaaW.PrintMore Go.Proofs.Ytlakjlolahjphaa.Open Go.Proofs.Ytlakjlolahjphaa.Sq
attribute [local go_sem] max2_int min2_int max_two min_two max_three min_three max_four min_four   -- for this text's walks alone
attribute [local go_sem] isSome_set
set_option linter.unusedVariables false
set_option linter.unusedSimpArgs false

end Go.Proofs.Ytlakjlolahjphaa.QFnExactIsHolding

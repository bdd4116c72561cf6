/- What the Go functions of the law FnExactHeldAt come to, as Lean functions, and that they do: by a program of the session, out of the kit's printer. Conditions: none. (squeezed). -/
import Derived.Test.YtlakjlolahjphaaSq
import Derived.Test.YtlakjlolahjphaaQFnExactHeldAtx0
import Derived.Test.YtlakjlolahjphaaQFnExactHeldAtx1
import Derived.Test.YtlakjlolahjphaaQFnExactHeldAtx2
import Derived.Test.YtlakjlolahjphaaQFnExactHeldAtx3
import Derived.Test.YtlakjlolahjphaaQFnExactHeldAtx4
import Derived.Test.YtlakjlolahjphaaQFnExactHeldAtx5
import Derived.Test.YtlakjlolahjphaaQFnExactHeldAtx6
import Derived.Test.YtlakjlolahjphaaQFnExactHeldAtx7
import Derived.Test.YtlakjlolahjphaaQFnExactHeldAtx8
import Derived.Test.YtlakjlolahjphaaQFnExactHeldAtx9
import Derived.Test.YtlakjlolahjphaaQFnExactHeldAtx10
import Derived.Test.YtlakjlolahjphaaQFnExactHeldAtx11
import Derived.Test.YtlakjlolahjphaaQFnExactHeldAtx12
import Derived.Test.YtlakjlolahjphaaQFnExactHeldAtx13
import Derived.Test.YtlakjlolahjphaaQFnExactHeldAtx14
import Derived.Test.YtlakjlolahjphaaQFnExactHeldAtx15
import Derived.Test.YtlakjlolahjphaaQFnExactHeldAtx16
import Derived.Test.YtlakjlolahjphaaQFnExactHeldAtx17
namespace Go.Proofs.Ytlakjlolahjphaa.QFnExactHeldAt
open Go.RowKit Go.Proofs.YtlakjlolahjphaaW.PrintWords Go.Proofs.YtlakjlolahjphaaW.PrintLast Go.Proofs.YtlakjlolahjphaaW.PrintMore Go.Proofs.Ytlakjlolahjphaa.Open Go.Proofs.Ytlakjlolahjphaa.Sq
attribute [local go_sem] max2_int min2_int max_two min_two max_three min_three max_four min_four   -- for this text's walks alone
attribute [local go_sem] isSome_set
set_option linter.unusedVariables false
set_option linter.unusedSimpArgs false

end Go.Proofs.Ytlakjlolahjphaa.QFnExactHeldAt

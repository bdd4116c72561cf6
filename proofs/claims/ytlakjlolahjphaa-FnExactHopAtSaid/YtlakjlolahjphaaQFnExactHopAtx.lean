/- What the Go functions of the law FnExactHopAt come to, as Lean functions, and that they do: by a program of the session, out of the kit's printer. Conditions: none. (squeezed). -/
import Derived.Test.YtlakjlolahjphaaSq
import Derived.Test.YtlakjlolahjphaaQFnExactHopAtx0
import Derived.Test.YtlakjlolahjphaaQFnExactHopAtx1
import Derived.Test.YtlakjlolahjphaaQFnExactHopAtx2
import Derived.Test.YtlakjlolahjphaaQFnExactHopAtx3
import Derived.Test.YtlakjlolahjphaaQFnExactHopAtx4
import Derived.Test.YtlakjlolahjphaaQFnExactHopAtx5
import Derived.Test.YtlakjlolahjphaaQFnExactHopAtx6
import Derived.Test.YtlakjlolahjphaaQFnExactHopAtx7
import Derived.Test.YtlakjlolahjphaaQFnExactHopAtx8
import Derived.Test.YtlakjlolahjphaaQFnExactHopAtx9
import Derived.Test.YtlakjlolahjphaaQFnExactHopAtx10
import Derived.Test.YtlakjlolahjphaaQFnExactHopAtx11
import Derived.Test.YtlakjlolahjphaaQFnExactHopAtx12
import Derived.Test.YtlakjlolahjphaaQFnExactHopAtx13
import Derived.Test.YtlakjlolahjphaaQFnExactHopAtx14
namespace Go.Proofs.Ytlakjlolahjphaa.QFnExactHopAt
open Go.RowKit Go.Proofs.YtlakjlolahjphaaW.PrintWords Go.Proofs.YtlakjlolahjphaaW.PrintLast Go.Proofs.YtlakjlolahjphaaW.PrintMore Go.Proofs.Ytlakjlolahjphaa.Open Go.Proofs.Ytlakjlolahjphaa.Sq
attribute [local go_sem] max2_int min2_int max_two min_two max_three min_three max_four min_four   -- for this text's walks alone
attribute [local go_sem] isSome_set
set_option linter.unusedVariables false
set_option linter.unusedSimpArgs false

end Go.Proofs.Ytlakjlolahjphaa.QFnExactHopAt

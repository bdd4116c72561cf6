/- What the Go functions of the law FnExactUseSpans come to, as Lean functions, and that they do: by a program of the session, out of the kit's printer. Conditions: none. (squeezed). -/
import Derived.Test.YtlakjlolahjphaaSq
import Derived.Test.YtlakjlolahjphaaQFnExactUseSpansx0
import Derived.Test.YtlakjlolahjphaaQFnExactUseSpansx1
import Derived.Test.YtlakjlolahjphaaQFnExactUseSpansx2
import Derived.Test.YtlakjlolahjphaaQFnExactUseSpansx3
import Derived.Test.YtlakjlolahjphaaQFnExactUseSpansx4
import Derived.Test.YtlakjlolahjphaaQFnExactUseSpansx5
import Derived.Test.YtlakjlolahjphaaQFnExactUseSpansx6
import Derived.Test.YtlakjlolahjphaaQFnExactUseSpansx7
import Derived.Test.YtlakjlolahjphaaQFnExactUseSpansx8
import Derived.Test.YtlakjlolahjphaaQFnExactUseSpansx9
import Derived.Test.YtlakjlolahjphaaQFnExactUseSpansx10
namespace Go.Proofs.Ytlakjlolahjphaa.QFnExactUseSpans
open Go.RowKit Go.Proofs.YtlakjlolahjphaaW.PrintWords Go.Proofs.YtlakjlolahjphaaW.PrintLast Go.Proofs.YtlakjlolahjphaaW.PrintMore Go.Proofs.Ytlakjlolahjphaa.Open Go.Proofs.Ytlakjlolahjphaa.Sq
attribute [local go_sem] max2_int min2_int max_two min_two max_three min_three max_four min_four   -- for this text's walks alone
attribute [local go_sem] isSome_set
set_option linter.unusedVariables false
set_option linter.unusedSimpArgs false

end Go.Proofs.Ytlakjlolahjphaa.QFnExactUseSpans

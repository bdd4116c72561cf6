/- What the Go functions of the law FnExactIsSafeCourse come to, as Lean functions, and that they do: by a program of the session, out of the kit's printer. Conditions: none. -/
import Derived.Test.YtaciciobhfoglaaQFnExactIsSafeCoursex0
import Derived.Test.YtaciciobhfoglaaQFnExactIsSafeCoursex1
import Derived.Test.YtaciciobhfoglaaQFnExactIsSafeCoursex2
import Derived.Test.YtaciciobhfoglaaQFnExactIsSafeCoursex3
import Derived.Test.YtaciciobhfoglaaQFnExactIsSafeCoursex4
import Derived.Test.YtaciciobhfoglaaQFnExactIsSafeCoursex5
namespace Go.Proofs.Ytaciciobhfoglaa.QFnExactIsSafeCourse
open Go.RowKit Go.Proofs.YtaciciobhfoglaaW.PrintWords Go.Proofs.YtaciciobhfoglaaW.PrintLast Go.Proofs.YtaciciobhfoglaaW.PrintMore Go.Proofs.Ytaciciobhfoglaa.Open
attribute [local go_sem] max2_int min2_int max_two min_two max_three min_three max_four min_four   -- for this text's walks alone
attribute [local go_sem] isSome_set
set_option linter.unusedVariables false
set_option linter.unusedSimpArgs false

end Go.Proofs.Ytaciciobhfoglaa.QFnExactIsSafeCourse

/- What the Go functions of the law FnForecasts come to, as Lean functions, and that they do: by a program of the session, out of the kit's printer. Conditions: none. (squeezed). -/
import Derived.Test.YtaciciobhfoglaaSq
import Derived.Test.YtaciciobhfoglaaQFnForecastsx0
import Derived.Test.YtaciciobhfoglaaQFnForecastsx1
import Derived.Test.YtaciciobhfoglaaQFnForecastsx2
import Derived.Test.YtaciciobhfoglaaQFnForecastsx3
import Derived.Test.YtaciciobhfoglaaQFnForecastsx4
import Derived.Test.YtaciciobhfoglaaQFnForecastsx5
import Derived.Test.YtaciciobhfoglaaQFnForecastsx6
import Derived.Test.YtaciciobhfoglaaQFnForecastsx7
import Derived.Test.YtaciciobhfoglaaQFnForecastsx8
import Derived.Test.YtaciciobhfoglaaQFnForecastsx9
namespace Go.Proofs.Ytaciciobhfoglaa.QFnForecasts
open Go.RowKit Go.Proofs.YtaciciobhfoglaaW.PrintWords Go.Proofs.YtaciciobhfoglaaW.PrintLast Go.Proofs.YtaciciobhfoglaaW.PrintMore Go.Proofs.Ytaciciobhfoglaa.Open Go.Proofs.Ytaciciobhfoglaa.Sq
attribute [local go_sem] max2_int min2_int max_two min_two max_three min_three max_four min_four   -- for this text's walks alone
attribute [local go_sem] isSome_set
set_option linter.unusedVariables false
set_option linter.unusedSimpArgs false

end Go.Proofs.Ytaciciobhfoglaa.QFnForecasts

/- What the Go functions of the law FnPaths come to, as Lean functions, and that they do: by a program of the session, out of the kit's printer. Conditions: none. (squeezed). -/
import Derived.Test.YtiihaabhjphaeaaSq
import Derived.Test.YtiihaabhjphaeaaQFnPathsx0
import Derived.Test.YtiihaabhjphaeaaQFnPathsx1
import Derived.Test.YtiihaabhjphaeaaQFnPathsx2
import Derived.Test.YtiihaabhjphaeaaQFnPathsx3
import Derived.Test.YtiihaabhjphaeaaQFnPathsx4
import Derived.Test.YtiihaabhjphaeaaQFnPathsx5
import Derived.Test.YtiihaabhjphaeaaQFnPathsx6
import Derived.Test.YtiihaabhjphaeaaQFnPathsx7
import Derived.Test.YtiihaabhjphaeaaQFnPathsx8
namespace Go.Proofs.Ytiihaabhjphaeaa.QFnPaths
open Go.RowKit Go.Proofs.YtiihaabhjphaeaaW.PrintWords Go.Proofs.YtiihaabhjphaeaaW.PrintLast Go.Proofs.YtiihaabhjphaeaaW.PrintMore Go.Proofs.Ytiihaabhjphaeaa.Open Go.Proofs.Ytiihaabhjphaeaa.Sq
attribute [local go_sem] max2_int min2_int max_two min_two max_three min_three max_four min_four   -- for this text's walks alone
attribute [local go_sem] isSome_set
set_option linter.unusedVariables false
set_option linter.unusedSimpArgs false

end Go.Proofs.Ytiihaabhjphaeaa.QFnPaths

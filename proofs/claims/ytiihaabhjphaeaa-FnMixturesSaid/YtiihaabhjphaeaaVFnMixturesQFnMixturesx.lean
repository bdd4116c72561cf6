/- What the Go functions of the law FnMixtures come to, as Lean functions, and that they do: by a program of the session, out of the kit's printer. Conditions: none. (squeezed). -/
import Derived.Test.YtiihaabhjphaeaaVFnMixturesSq
import Derived.Test.YtiihaabhjphaeaaVFnMixturesQFnMixturesx0
import Derived.Test.YtiihaabhjphaeaaVFnMixturesQFnMixturesx1
import Derived.Test.YtiihaabhjphaeaaVFnMixturesQFnMixturesx2
import Derived.Test.YtiihaabhjphaeaaVFnMixturesQFnMixturesx3
import Derived.Test.YtiihaabhjphaeaaVFnMixturesQFnMixturesx4
import Derived.Test.YtiihaabhjphaeaaVFnMixturesQFnMixturesx5
import Derived.Test.YtiihaabhjphaeaaVFnMixturesQFnMixturesx6
import Derived.Test.YtiihaabhjphaeaaVFnMixturesQFnMixturesx7
import Derived.Test.YtiihaabhjphaeaaVFnMixturesQFnMixturesx8
import Derived.Test.YtiihaabhjphaeaaVFnMixturesQFnMixturesx9
import Derived.Test.YtiihaabhjphaeaaVFnMixturesQFnMixturesx10
import Derived.Test.YtiihaabhjphaeaaVFnMixturesQFnMixturesx11
import Derived.Test.YtiihaabhjphaeaaVFnMixturesQFnMixturesx12
import Derived.Test.YtiihaabhjphaeaaVFnMixturesQFnMixturesx13
import Derived.Test.YtiihaabhjphaeaaVFnMixturesQFnMixturesx14
import Derived.Test.YtiihaabhjphaeaaVFnMixturesQFnMixturesx15
import Derived.Test.YtiihaabhjphaeaaVFnMixturesQFnMixturesx16
import Derived.Test.YtiihaabhjphaeaaVFnMixturesQFnMixturesx17
namespace Go.Proofs.Ytiihaabhjphaeaa.QFnMixtures
open Go.RowKit Go.Proofs.YtiihaabhjphaeaaW.PrintWords Go.Proofs.YtiihaabhjphaeaaW.PrintLast Go.Proofs.YtiihaabhjphaeaaW.PrintMore Go.Proofs.Ytiihaabhjphaeaa.Open Go.Proofs.Ytiihaabhjphaeaa.Sq
attribute [local go_sem] max2_int min2_int max_two min_two max_three min_three max_four min_four   -- for this text's walks alone
attribute [local go_sem] isSome_set
set_option linter.unusedVariables false
set_option linter.unusedSimpArgs false

end Go.Proofs.Ytiihaabhjphaeaa.QFnMixtures

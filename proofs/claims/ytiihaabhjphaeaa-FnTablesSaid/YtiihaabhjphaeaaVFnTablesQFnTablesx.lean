/- What the Go functions of the law FnTables come to, as Lean functions, and that they do: by a program of the session, out of the kit's printer. Conditions: none. (squeezed). -/
import Derived.Test.YtiihaabhjphaeaaVFnTablesSq
import Derived.Test.YtiihaabhjphaeaaVFnTablesQFnTablesx0
import Derived.Test.YtiihaabhjphaeaaVFnTablesQFnTablesx1
import Derived.Test.YtiihaabhjphaeaaVFnTablesQFnTablesx2
import Derived.Test.YtiihaabhjphaeaaVFnTablesQFnTablesx3
import Derived.Test.YtiihaabhjphaeaaVFnTablesQFnTablesx4
import Derived.Test.YtiihaabhjphaeaaVFnTablesQFnTablesx5
import Derived.Test.YtiihaabhjphaeaaVFnTablesQFnTablesx6
import Derived.Test.YtiihaabhjphaeaaVFnTablesQFnTablesx7
import Derived.Test.YtiihaabhjphaeaaVFnTablesQFnTablesx8
import Derived.Test.YtiihaabhjphaeaaVFnTablesQFnTablesx9
import Derived.Test.YtiihaabhjphaeaaVFnTablesQFnTablesx10
import Derived.Test.YtiihaabhjphaeaaVFnTablesQFnTablesx11
import Derived.Test.YtiihaabhjphaeaaVFnTablesQFnTablesx12
import Derived.Test.YtiihaabhjphaeaaVFnTablesQFnTablesx13
namespace Go.Proofs.Ytiihaabhjphaeaa.QFnTables
open Go.RowKit Go.Proofs.YtiihaabhjphaeaaW.PrintWords Go.Proofs.YtiihaabhjphaeaaW.PrintLast Go.Proofs.YtiihaabhjphaeaaW.PrintMore Go.Proofs.Ytiihaabhjphaeaa.Open Go.Proofs.Ytiihaabhjphaeaa.Sq
attribute [local go_sem] max2_int min2_int max_two min_two max_three min_three max_four min_four   -- for this text's walks alone
attribute [local go_sem] isSome_set
set_option linter.unusedVariables false
set_option linter.unusedSimpArgs false

end Go.Proofs.Ytiihaabhjphaeaa.QFnTables

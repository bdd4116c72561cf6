/- What the Go functions of the law FnExactTakePacket come to, as Lean functions, and that they do: by a program of the session, out of the kit's printer. Conditions: none. (squeezed). -/
import Derived.Test.YtaciciobhfoglaaSq
import Derived.Test.YtaciciobhfoglaaQFnExactTakePacketx0
import Derived.Test.YtaciciobhfoglaaQFnExactTakePacketx1
import Derived.Test.YtaciciobhfoglaaQFnExactTakePacketx2
import Derived.Test.YtaciciobhfoglaaQFnExactTakePacketx3
import Derived.Test.YtaciciobhfoglaaQFnExactTakePacketx4
namespace Go.Proofs.Ytaciciobhfoglaa.QFnExactTakePacket
open Go.RowKit Go.Proofs.YtaciciobhfoglaaW.PrintWords Go.Proofs.YtaciciobhfoglaaW.PrintLast Go.Proofs.YtaciciobhfoglaaW.PrintMore Go.Proofs.Ytaciciobhfoglaa.Open Go.Proofs.Ytaciciobhfoglaa.Sq
attribute [local go_sem] max2_int min2_int max_two min_two max_three min_three max_four min_four   -- for this text's walks alone
attribute [local go_sem] isSome_set
set_option linter.unusedVariables false
set_option linter.unusedSimpArgs false

end Go.Proofs.Ytaciciobhfoglaa.QFnExactTakePacket

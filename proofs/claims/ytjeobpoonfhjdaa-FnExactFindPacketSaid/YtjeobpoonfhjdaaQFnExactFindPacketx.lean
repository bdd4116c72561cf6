/- What the Go functions of the law FnExactFindPacket come to, as Lean functions, and that they do: by a program of the session, out of the kit's printer. Conditions: none. -/
import Derived.Test.YtjeobpoonfhjdaaQFnExactFindPacketx0
import Derived.Test.YtjeobpoonfhjdaaQFnExactFindPacketx1
import Derived.Test.YtjeobpoonfhjdaaQFnExactFindPacketx2
namespace Go.Proofs.Ytjeobpoonfhjdaa.QFnExactFindPacket
open Go.RowKit Go.Proofs.YtjeobpoonfhjdaaW.PrintWords Go.Proofs.YtjeobpoonfhjdaaW.PrintLast Go.Proofs.YtjeobpoonfhjdaaW.PrintMore Go.Proofs.Ytjeobpoonfhjdaa.Open
attribute [local go_sem] max2_int min2_int max_two min_two max_three min_three max_four min_four   -- for this text's walks alone
attribute [local go_sem] isSome_set
set_option linter.unusedVariables false
set_option linter.unusedSimpArgs false

end Go.Proofs.Ytjeobpoonfhjdaa.QFnExactFindPacket

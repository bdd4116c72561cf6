/- Words of the kit's printer (or of the session's own), as far as the law FnExactSafeSends names them. Conditions: none. -/
import Derived.Test.YtaciciobhfoglaaVFnExactSafeSendsWInv
import Derived.Test.YtaciciobhfoglaaVFnExactSafeSendsWFootNe
namespace Go.Proofs.YtaciciobhfoglaaW.PrintWords
open Go.RowKit
end Go.Proofs.YtaciciobhfoglaaW.PrintWords
namespace Go.Proofs.YtaciciobhfoglaaW.PrintLast
section
variable {ops : Array Oper} {a : Act} {o og : Oper} {g : Nat} {t : Tmp} {u : Bool}
end
end Go.Proofs.YtaciciobhfoglaaW.PrintLast

/- Words of the kit's printer (or of the session's own), as far as the law FnExactCountUnsafe names them. Conditions: none. -/
import Derived.Test.YtadpbpocbfjboaaVFnExactCountUnsafeWInv
import Derived.Test.YtadpbpocbfjboaaVFnExactCountUnsafeWFootNe
namespace Go.Proofs.YtadpbpocbfjboaaW.PrintWords
open Go.RowKit
end Go.Proofs.YtadpbpocbfjboaaW.PrintWords
namespace Go.Proofs.YtadpbpocbfjboaaW.PrintLast
section
variable {ops : Array Oper} {a : Act} {o og : Oper} {g : Nat} {t : Tmp} {u : Bool}
end
end Go.Proofs.YtadpbpocbfjboaaW.PrintLast

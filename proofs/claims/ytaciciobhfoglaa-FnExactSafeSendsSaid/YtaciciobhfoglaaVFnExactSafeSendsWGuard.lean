/- Words of the kit's printer (or of the session's own), as far as the law FnExactSafeSends names them. Conditions: none. -/
import Derived.Test.YtaciciobhfoglaaVFnExactSafeSendsWWords
namespace Go.Proofs.YtaciciobhfoglaaW.PrintWords
open Go.RowKit
section
variable {P : Program} {ops : Array Oper} {rest : List Oper} {o : Oper} {a : Act} {Q : Exit → Act → World → Prop} {W : World}
end
end Go.Proofs.YtaciciobhfoglaaW.PrintWords

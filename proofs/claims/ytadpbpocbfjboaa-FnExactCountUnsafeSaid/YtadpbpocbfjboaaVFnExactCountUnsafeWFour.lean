/- Words of the kit's printer (or of the session's own), as far as the law FnExactCountUnsafe names them. Conditions: none. -/
import Derived.Test.YtadpbpocbfjboaaVFnExactCountUnsafeWTab
namespace Go.Proofs.YtadpbpocbfjboaaW.PrintLast
section
variable {P : Program} {ops : Array Oper} {Q : Exit → Act → World → Prop} {md : Region.Mode} {S : World → Prop} {ds : List Nat} {T : Bool × List (List Nat × List Nat)}
end
end Go.Proofs.YtadpbpocbfjboaaW.PrintLast

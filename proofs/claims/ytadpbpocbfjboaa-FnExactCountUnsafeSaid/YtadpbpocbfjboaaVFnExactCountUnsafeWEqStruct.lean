/- Words of the kit's printer (or of the session's own), as far as the law FnExactCountUnsafe names them. Conditions: none. -/
import Derived.Test.YtadpbpocbfjboaaVFnExactCountUnsafeWWords
import Derived.Laws.StructEq
namespace Go.Proofs.YtadpbpocbfjboaaW.PrintWords
open Go.RowKit
section
variable {P : Program} {d : Nat} {xs ys : Array Value} {f : Field} {fs : List Field} {a b : Value} {r s : Bool} {w : World}
end
end Go.Proofs.YtadpbpocbfjboaaW.PrintWords

/- Words of the kit's printer (or of the session's own), as far as the law FnExactCountUnsafe names them. Conditions: none. -/
import Derived.Test.YtadpbpocbfjboaaVFnExactCountUnsafeWN
namespace Go.Proofs.YtadpbpocbfjboaaW.PrintWords
open Go.RowKit
namespace Kd
section
variable {α : Type} {d : Kd α} {W : World} {g n : Nat} {S ok : Nat → Prop} {A : Option Addr} {ad : Addr} {xs : List α}
end
end Kd
end Go.Proofs.YtadpbpocbfjboaaW.PrintWords

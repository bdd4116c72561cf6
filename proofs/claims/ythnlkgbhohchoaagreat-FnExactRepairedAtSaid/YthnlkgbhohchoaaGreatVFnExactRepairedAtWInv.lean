/- Words of the kit's printer (or of the session's own), as far as the law FnExactRepairedAt names them. Conditions: none. (tight). -/
import Derived.Test.YthnlkgbhohchoaaGreatVFnExactRepairedAtWTab
namespace Go.Proofs.YthnlkgbhohchoaaGreatW.PrintLast
def up (b : Nat → Bool) (i : Nat) : Nat → Bool := fun j => if j = i then true else b j
section
variable {P : Program} {ops : Array Oper} {Q : Exit → Act → World → Prop} {md : Region.Mode} {T : Bool × List (List Nat × List Nat)} {B : List Nat} {O : List Nat} {b : Nat → Bool} {i j n : Nat}
end
end Go.Proofs.YthnlkgbhohchoaaGreatW.PrintLast

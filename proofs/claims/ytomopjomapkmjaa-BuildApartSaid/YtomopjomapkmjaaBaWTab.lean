/- A text of this claim, what is not used left out. -/
import Derived.Test.YtomopjomapkmjaaBaWLast
import Derived.Test.YtomopjomapkmjaaBaWWords
namespace Go.Proofs.YtomopjomapkmjaaW.PrintLast
open Go.Proofs.YtomopjomapkmjaaW.PrintWords (Aside0)
section
variable {md : Region.Mode} {ops : Array Oper} {T : Bool × List (List Nat × List Nat)} {l l' li lj lk : Array Bool} {ds : List Nat} {i j k : Nat}
end
end Go.Proofs.YtomopjomapkmjaaW.PrintLast

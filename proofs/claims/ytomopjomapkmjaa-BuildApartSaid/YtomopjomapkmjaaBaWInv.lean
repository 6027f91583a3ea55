/- A text of this claim, what is not used left out. -/
import Derived.Test.YtomopjomapkmjaaBaWTab
namespace Go.Proofs.YtomopjomapkmjaaW.PrintLast
section
variable {P : Program} {ops : Array Oper} {Q : Exit → Act → World → Prop} {md : Region.Mode} {T : Bool × List (List Nat × List Nat)} {B : List Nat} {O : List Nat} {b : Nat → Bool} {i j n : Nat}
end
end Go.Proofs.YtomopjomapkmjaaW.PrintLast

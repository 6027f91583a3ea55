/- A part of it. -/
import Derived.Test.YtgbpkbfghonllaaFcWLast
import Derived.Test.YtgbpkbfghonllaaFcWWords
namespace Go.Proofs.YtgbpkbfghonllaaW.PrintLast
open Go.Proofs.YtgbpkbfghonllaaW.PrintWords (Aside0)
section
variable {md : Region.Mode} {ops : Array Oper} {T : Bool × List (List Nat × List Nat)} {l l' li lj lk : Array Bool} {ds : List Nat} {i j k : Nat}
end
end Go.Proofs.YtgbpkbfghonllaaW.PrintLast

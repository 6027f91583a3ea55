/- A text of this claim, what is not used left out. -/
import Derived.Test.YtlhaopjdpkhogaaIwWLast
import Derived.Test.YtlhaopjdpkhogaaIwWWords
namespace Go.Proofs.YtlhaopjdpkhogaaW.PrintLast
open Go.Proofs.YtlhaopjdpkhogaaW.PrintWords (Aside0)
section
variable {md : Region.Mode} {ops : Array Oper} {T : Bool × List (List Nat × List Nat)} {l l' li lj lk : Array Bool} {ds : List Nat} {i j k : Nat}
end
end Go.Proofs.YtlhaopjdpkhogaaW.PrintLast

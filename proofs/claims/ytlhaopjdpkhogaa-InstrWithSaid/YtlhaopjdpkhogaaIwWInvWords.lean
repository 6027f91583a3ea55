/- A text of this claim, what is not used left out. -/
import Derived.Test.YtlhaopjdpkhogaaIwWInv
import Derived.Test.YtlhaopjdpkhogaaIwWFootNe
namespace Go.Proofs.YtlhaopjdpkhogaaW.PrintWords
open Go.RowKit
end Go.Proofs.YtlhaopjdpkhogaaW.PrintWords
namespace Go.Proofs.YtlhaopjdpkhogaaW.PrintLast
section
variable {ops : Array Oper} {a : Act} {o og : Oper} {g : Nat} {t : Tmp} {u : Bool}
end
end Go.Proofs.YtlhaopjdpkhogaaW.PrintLast

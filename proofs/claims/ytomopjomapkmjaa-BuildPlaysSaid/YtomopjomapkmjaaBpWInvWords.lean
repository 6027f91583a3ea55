/- A part of it. -/
import Derived.Test.YtomopjomapkmjaaBpWInv
import Derived.Test.YtomopjomapkmjaaBpWFootNe
namespace Go.Proofs.YtomopjomapkmjaaW.PrintWords
open Go.RowKit
end Go.Proofs.YtomopjomapkmjaaW.PrintWords
namespace Go.Proofs.YtomopjomapkmjaaW.PrintLast
section
variable {ops : Array Oper} {a : Act} {o og : Oper} {g : Nat} {t : Tmp} {u : Bool}
end
end Go.Proofs.YtomopjomapkmjaaW.PrintLast

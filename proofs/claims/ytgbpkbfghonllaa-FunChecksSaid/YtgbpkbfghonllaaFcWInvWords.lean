/- A part of it. -/
import Derived.Test.YtgbpkbfghonllaaFcWInv
import Derived.Test.YtgbpkbfghonllaaFcWFootNe
namespace Go.Proofs.YtgbpkbfghonllaaW.PrintWords
open Go.RowKit
end Go.Proofs.YtgbpkbfghonllaaW.PrintWords
namespace Go.Proofs.YtgbpkbfghonllaaW.PrintLast
section
variable {ops : Array Oper} {a : Act} {o og : Oper} {g : Nat} {t : Tmp} {u : Bool}
end
end Go.Proofs.YtgbpkbfghonllaaW.PrintLast

/- A part of it. -/
import Derived.Test.YtanpghbakbebiaaDoorFmWInv
import Derived.Test.YtanpghbakbebiaaDoorFmWFootNe
namespace Go.Proofs.YtanpghbakbebiaaDoorW.PrintWords
open Go.RowKit
end Go.Proofs.YtanpghbakbebiaaDoorW.PrintWords
namespace Go.Proofs.YtanpghbakbebiaaDoorW.PrintLast
section
variable {ops : Array Oper} {a : Act} {o og : Oper} {g : Nat} {t : Tmp} {u : Bool}
end
end Go.Proofs.YtanpghbakbebiaaDoorW.PrintLast

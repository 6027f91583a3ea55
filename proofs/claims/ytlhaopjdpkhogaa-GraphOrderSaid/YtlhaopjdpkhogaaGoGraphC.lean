/- A text of this claim, what is not used left out. -/
import Derived.Test.YtlhaopjdpkhogaaGoGraphB
import Derived.Test.YtlhaopjdpkhogaaGoP15
set_option linter.unusedVariables false
namespace Go.Proofs.Ytlhaopjdpkhogaa.Pure
open Go.RowKit Go.Proofs.Ytlhaopjdpkhogaa.P Go.Proofs.YtlhaopjdpkhogaaW.PrintWords Go.Proofs.YtlhaopjdpkhogaaW.PrintLast Go.Proofs.YtlhaopjdpkhogaaW.PrintMore
theorem works17_ev : Ev (fun k => balustradelaw17_works.f k) true := Ev.of (k := 100) balustradelaw17_works.mono (by decide +kernel)
end Go.Proofs.Ytlhaopjdpkhogaa.Pure

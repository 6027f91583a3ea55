/- A text of this claim, what is not used left out. -/
import Derived.Test.YtlhaopjdpkhogaaIwP0
import Derived.Test.YtlhaopjdpkhogaaIwP6
import Derived.Test.YtlhaopjdpkhogaaIwP7
namespace Go.Proofs.Ytlhaopjdpkhogaa.P
open Go.RowKit Go.Proofs.YtlhaopjdpkhogaaW.PrintWords Go.Proofs.YtlhaopjdpkhogaaW.PrintLast Go.Proofs.YtlhaopjdpkhogaaW.PrintMore
attribute [local go_sem] max2_int min2_int max_two min_two max_three min_three max_four min_four   
set_option linter.unusedVariables false
set_option linter.unusedSimpArgs false
end Go.Proofs.Ytlhaopjdpkhogaa.P

/- A text of this claim, what is not used left out. -/
import Derived.Test.YtomopjomapkmjaaBaB0
import Derived.Test.YtomopjomapkmjaaBaB7
import Derived.Test.YtomopjomapkmjaaBaB8
namespace Go.Proofs.Ytomopjomapkmjaa.B
open Go.RowKit Go.Proofs.YtomopjomapkmjaaW.PrintWords Go.Proofs.YtomopjomapkmjaaW.PrintLast Go.Proofs.YtomopjomapkmjaaW.PrintMore
attribute [local go_sem] max2_int min2_int max_two min_two max_three min_three max_four min_four   
set_option linter.unusedVariables false
set_option linter.unusedSimpArgs false
end Go.Proofs.Ytomopjomapkmjaa.B

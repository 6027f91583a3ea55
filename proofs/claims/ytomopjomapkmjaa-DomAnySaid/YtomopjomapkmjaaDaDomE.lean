/- A text of this claim, what is not used left out. -/
import Derived.Test.YtomopjomapkmjaaDaDomD
import Derived.Test.YtomopjomapkmjaaDaGraphE
import Derived.Test.YtomopjomapkmjaaDaP0
import Derived.Test.YtomopjomapkmjaaDaP1
import Derived.Test.YtomopjomapkmjaaDaP6
set_option linter.unusedVariables false
namespace Go.Proofs.Ytomopjomapkmjaa.Pure
open Go.RowKit Go.Proofs.Ytomopjomapkmjaa.P Go.Proofs.YtomopjomapkmjaaW.PrintWords Go.Proofs.YtomopjomapkmjaaW.PrintLast Go.Proofs.YtomopjomapkmjaaW.PrintMore
end Go.Proofs.Ytomopjomapkmjaa.Pure

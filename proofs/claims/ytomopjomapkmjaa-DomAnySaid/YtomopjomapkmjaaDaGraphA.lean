/- A text of this claim, what is not used left out. -/
import Derived.Test.YtomopjomapkmjaaDaBaseA
import Derived.Test.YtomopjomapkmjaaDaInstrB
import Derived.Test.YtomopjomapkmjaaDaP0
import Derived.Test.YtomopjomapkmjaaDaP4
import Derived.Test.YtomopjomapkmjaaDaP9
import Derived.Test.YtomopjomapkmjaaDaP10
import Derived.Test.YtomopjomapkmjaaDaP11
set_option linter.unusedVariables false
namespace Go.Proofs.Ytomopjomapkmjaa.Pure
open Go.RowKit Go.Proofs.Ytomopjomapkmjaa.P Go.Proofs.YtomopjomapkmjaaW.PrintWords Go.Proofs.YtomopjomapkmjaaW.PrintLast Go.Proofs.YtomopjomapkmjaaW.PrintMore
end Go.Proofs.Ytomopjomapkmjaa.Pure

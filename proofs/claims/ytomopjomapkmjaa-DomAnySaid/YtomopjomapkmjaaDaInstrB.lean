/- A text of this claim, what is not used left out. -/
import Derived.Test.YtomopjomapkmjaaDaInstrA
import Derived.Test.YtomopjomapkmjaaDaP1
import Derived.Test.YtomopjomapkmjaaDaP3
import Derived.Test.YtomopjomapkmjaaDaP4
import Derived.Test.YtomopjomapkmjaaDaP10
import Derived.Test.YtomopjomapkmjaaDaP11
namespace Go.Proofs.Ytomopjomapkmjaa.Pure
open Go.RowKit Go.Proofs.Ytomopjomapkmjaa.P Go.Proofs.YtomopjomapkmjaaW.PrintWords Go.Proofs.YtomopjomapkmjaaW.PrintLast Go.Proofs.YtomopjomapkmjaaW.PrintMore
end Go.Proofs.Ytomopjomapkmjaa.Pure

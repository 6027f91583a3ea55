/- A text of this claim, what is not used left out. -/
import Derived.Test.YtomopjomapkmjaaDrBaseA
import Derived.Test.YtomopjomapkmjaaDrP19
namespace Go.Proofs.Ytomopjomapkmjaa.Pure
open Go.RowKit Go.Proofs.Ytomopjomapkmjaa.P Go.Proofs.YtomopjomapkmjaaW.PrintWords Go.Proofs.YtomopjomapkmjaaW.PrintLast Go.Proofs.YtomopjomapkmjaaW.PrintMore
end Go.Proofs.Ytomopjomapkmjaa.Pure

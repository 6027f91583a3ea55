/- A text of this claim, what is not used left out. -/
import Derived.Test.YtomopjomapkmjaaBaBBdD
import Derived.Outline
set_option linter.unusedVariables false
set_option linter.unusedSimpArgs false
namespace Go.Proofs.Ytomopjomapkmjaa.B
open Go Go.RowKit Go.Proofs.YtomopjomapkmjaaW.PrintWords Go.Proofs.YtomopjomapkmjaaW.PrintLast Go.Proofs.YtomopjomapkmjaaW.PrintMore
section
variable {base g : Nat} {ok : Nat → Prop} {w w0 w1 w2 W : World} {V : BV} {nm : ByteArray} {pa rt at_ : Int} {vr vb vs : Value} {rg st : List Int} {bl : List (List S29)} {f : Nat → Nat}
end
end Go.Proofs.Ytomopjomapkmjaa.B

/- A text of this claim, what is not used left out. -/
import Derived.Test.YtomopjomapkmjaaDaDomB
import Derived.Test.YtomopjomapkmjaaDaP5
import Derived.Test.YtomopjomapkmjaaDaP6
set_option linter.unusedVariables false
namespace Go.Proofs.Ytomopjomapkmjaa.Pure
open Go.RowKit Go.Proofs.Ytomopjomapkmjaa.P Go.Proofs.YtomopjomapkmjaaW.PrintWords Go.Proofs.YtomopjomapkmjaaW.PrintLast Go.Proofs.YtomopjomapkmjaaW.PrintMore
def Dn (x10 : List Bool) (x : Nat) : Prop := x10.getD x false = true
structure Rp (s : List (List Int)) (x5 x6 : List Int) (x10 : List Bool) (T : Nat → Nat) : Prop where
  l5 : x5.length = s.length
  l6 : x6.length = s.length
  l10 : x10.length = s.length
  tree : ∀ x, Dn x10 x → x ≠ 0 → x5.getD x 0 = (T x : Int)
  place : ∀ x, Rch s (-1) x → x6.getD x 0 = (Pl s x : Int)
  out : ∀ x, x < s.length → ¬ Rch s (-1) x → x6.getD x 0 < 0
  none_ : ∀ x, x < s.length → (x = 0 ∨ ¬ Rch s (-1) x) → x5.getD x 0 = -1
end Go.Proofs.Ytomopjomapkmjaa.Pure

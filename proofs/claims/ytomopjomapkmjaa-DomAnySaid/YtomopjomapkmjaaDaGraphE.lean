/- A text of this claim, what is not used left out. -/
import Derived.Test.YtomopjomapkmjaaDaGraphD
import Derived.Test.YtomopjomapkmjaaDaP1
import Derived.Test.YtomopjomapkmjaaDaP5
set_option linter.unusedVariables false
namespace Go.Proofs.Ytomopjomapkmjaa.Pure
open Go.RowKit Go.Proofs.Ytomopjomapkmjaa.P Go.Proofs.YtomopjomapkmjaaW.PrintWords Go.Proofs.YtomopjomapkmjaaW.PrintLast Go.Proofs.YtomopjomapkmjaaW.PrintMore
theorem getD_setI (l : List Int) (a : Nat) (v : Int) (p : Nat) (ha : a < l.length) : (l.set a v).getD p 0 = if p = a then v else l.getD p 0 := by
  rw [List.getD_eq_getElem?_getD, List.getD_eq_getElem?_getD, List.getElem?_set]
  by_cases h : a = p
  · subst h; simp [ha]
  · simp [h, Ne.symm h]
theorem un_rep (n : Nat) : gtUn (List.replicate n false) = n := by unfold gtUn; simp
theorem gtAll_cnt (s : List (List Int)) (but : Int) (hv : ∀ l ∈ s, ∀ t ∈ l, 0 ≤ t ∧ t < (s.length : Int)) : (gtAll s but).2.length ≤ s.length := by
  unfold gtAll
  by_cases h : 0 < s.length
  · have := gtGo_cnt s but hv s.length 0 (List.replicate s.length false, []) (by omega) (by omega) (by simp)
    simp only [List.length_nil, un_rep] at this
    omega
  · have e : s = [] := List.eq_nil_of_length_eq_zero (by omega)
    subst e
    exact Nat.le_refl _
end Go.Proofs.Ytomopjomapkmjaa.Pure

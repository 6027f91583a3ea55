/- A text of this claim, what is not used left out. -/
import Derived.Test.YtomopjomapkmjaaDaGraphC
import Derived.Test.YtomopjomapkmjaaDaP0
import Derived.Test.YtomopjomapkmjaaDaP5
import Derived.Test.YtomopjomapkmjaaDaP12
set_option linter.unusedVariables false
namespace Go.Proofs.Ytomopjomapkmjaa.Pure
open Go.RowKit Go.Proofs.Ytomopjomapkmjaa.P Go.Proofs.YtomopjomapkmjaaW.PrintWords Go.Proofs.YtomopjomapkmjaaW.PrintLast Go.Proofs.YtomopjomapkmjaaW.PrintMore
def prRow (s : List (List Int)) (m t : Nat) : List Int := ((List.range m).filter (fun j => decide ((t : Int) ∈ s.getD j []))).map (fun j : Nat => (j : Int))
def prV (s : List (List Int)) (m : Nat) : List (List Int) := (List.range s.length).map (prRow s m)
theorem prRow_len (s : List (List Int)) (m t : Nat) : (prRow s m t).length ≤ m := by
  unfold prRow
  rw [List.length_map]
  exact Nat.le_trans (List.length_filter_le _ _) (by simp)
theorem gtPut_map (n : Nat) (F : Nat → List Int) (k t : Int) (h0 : 0 ≤ t) (h1 : t < (n : Int)) : gtPut k t ((List.range n).map F) = (List.range n).map (fun x => F x ++ if (x : Int) = t then [k] else []) := by
  unfold gtPut
  apply List.ext_getElem?
  intro i
  rw [List.getElem?_set, List.getElem?_map, List.getElem?_map]
  by_cases hi : i < n
  · rw [List.getElem?_range hi]
    by_cases ht : t.toNat = i
    · subst ht
      have e : ((t.toNat : Nat) : Int) = t := by omega
      simp [hi, e, List.getD_eq_getElem?_getD]
    · have e : ¬ ((i : Int) = t) := by omega
      simp [ht, e]
  · rw [show (List.range n)[i]? = none from List.getElem?_eq_none (by simp; omega)]
    have : t.toNat ≠ i := by omega
    simp [this]
end Go.Proofs.Ytomopjomapkmjaa.Pure

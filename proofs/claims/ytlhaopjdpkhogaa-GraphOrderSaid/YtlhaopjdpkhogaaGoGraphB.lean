/- A text of this claim, what is not used left out. -/
import Derived.Test.YtlhaopjdpkhogaaGoGraphA
import Derived.Test.YtlhaopjdpkhogaaGoP0
import Derived.Test.YtlhaopjdpkhogaaGoP14
import Derived.Test.YtlhaopjdpkhogaaGoP15
import Derived.Test.YtlhaopjdpkhogaaGoP17
set_option linter.unusedVariables false
namespace Go.Proofs.Ytlhaopjdpkhogaa.Pure
open Go.RowKit Go.Proofs.Ytlhaopjdpkhogaa.P Go.Proofs.YtlhaopjdpkhogaaW.PrintWords Go.Proofs.YtlhaopjdpkhogaaW.PrintLast Go.Proofs.YtlhaopjdpkhogaaW.PrintMore
theorem getD_set (l : List Bool) (i x : Nat) : (l.set i true).getD x false = true ↔ (x = i ∧ i < l.length) ∨ l.getD x false = true := by
  rw [List.getD_eq_getElem?_getD, List.getD_eq_getElem?_getD, List.getElem?_set]
  by_cases h : i = x
  · subst h
    by_cases hl : i < l.length
    · simp [hl]
    · simp [hl]
  · simp [h, Ne.symm h]
theorem rep_false (n x : Nat) : (List.replicate n false).getD x false = false := by
  rw [List.getD_eq_getElem?_getD, List.getElem?_replicate]; split <;> rfl
theorem rdOf_nat (l : List Bool) (i : Nat) : rdOf false l (i : Int) = l.getD i false := rfl
theorem gWithout_ev (bl : List (List S24)) (p0 : ByteArray) (p1 p2 : Int) (p3 : List Int) (but : Int) (hl : bl.length ≤ 40) (hg : GoodB bl) : Ev (fun k => graph_Without.f k p0 p1 p2 p3 bl but) (gtAll (succsV bl) but).1 := by
  unfold graph_Without.f
  refine Ev.bind (gSuccs_ev bl p0 p1 p2 p3 (by omega) hg) ?_
  exact Ev.congr (fun k => if_pos (succsV_ok bl hl)) (Ev.now _)
end Go.Proofs.Ytlhaopjdpkhogaa.Pure

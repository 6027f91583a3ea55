/- A part of it. -/
import Derived.Test.YtgbpkbfghonllaaFkP3
import Derived.Test.YtgbpkbfghonllaaFkM21
namespace Go.Proofs.Ytgbpkbfghonllaa.Pure
open Go.RowKit Go.Proofs.Ytgbpkbfghonllaa.P Go.Proofs.YtgbpkbfghonllaaW.PrintWords Go.Proofs.YtgbpkbfghonllaaW.PrintLast Go.Proofs.YtgbpkbfghonllaaW.PrintMore
theorem wrap_id {x : Int} (h0 : -9223372036854775808 ≤ x) (h1 : x ≤ 9223372036854775807) : wrap64 x = x := by unfold wrap64; omega
theorem wrap_succ (i : Nat) (h : i < 4611686018427387904) : wrap64 ((i : Int) + 1) = ((i + 1 : Nat) : Int) := by rw [wrap_id] <;> omega
theorem rd_nat (l : List Int) (i : Nat) (h : i < l.length) : rd l (i : Int) = l[i] := by simp [rd, List.getD_eq_getElem?_getD, h]
theorem ints_val (l : List Int) (h : l.length < 17592186044416) : balustradebase_Ints.f l = some l := by
 unfold balustradebase_Ints.f
 rw [Option.bind_some, if_pos (by simpa using h), List.nil_append]
end Go.Proofs.Ytgbpkbfghonllaa.Pure

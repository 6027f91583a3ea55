/- A part of it. -/
import Derived.Test.YtomopjomapkmjaaBpB6
import Derived.Test.YtomopjomapkmjaaBpB7
import Derived.Test.YtomopjomapkmjaaBpB12
namespace Go.Proofs.Ytomopjomapkmjaa.Pure
open Go.RowKit Go.Proofs.Ytomopjomapkmjaa.B Go.Proofs.YtomopjomapkmjaaW.PrintWords Go.Proofs.YtomopjomapkmjaaW.PrintLast Go.Proofs.YtomopjomapkmjaaW.PrintMore
theorem wrap_id {x : Int} (h0 : -9223372036854775808 ≤ x) (h1 : x ≤ 9223372036854775807) : wrap64 x = x := by unfold wrap64; omega
theorem wrap_succ (i : Nat) (h : i < 4611686018427387904) : wrap64 ((i : Int) + 1) = ((i + 1 : Nat) : Int) := by rw [wrap_id] <;> omega
theorem rd_nat (l : List Int) (i : Nat) (h : i < l.length) : rd l (i : Int) = l[i] := by simp [rd, List.getD_eq_getElem?_getD, h]
theorem dec_cons_eq {x y : Int} {xs ys : List Int} (h : x = y) : decide (x :: xs = y :: ys) = decide (xs = ys) := by subst h; simp
theorem dec_cons_ne {x y : Int} {xs ys : List Int} (h : x ≠ y) : decide (x :: xs = y :: ys) = false := by simp [h]
theorem sameInts_from (a b : List Int) (hab : a.length = b.length) (hl : a.length < 4611686018427387904) : ∀ d i, a.length - i = d → i ≤ a.length → Ev (fun k => balustradebase_SameInts.l0 k a b (i : Int)) (decide (a.drop i = b.drop i)) := by
 intro d
 induction d with
 | zero =>
  intro i hd hi
  obtain rfl : i = a.length := by omega
  apply Ev.step
  ·intro k
   rw [balustradebase_SameInts.l0, if_neg (by omega)]
  ·have e : decide (a.drop a.length = b.drop a.length) = true := by rw [hab]; simp [← hab]
   rw [e]
   exact Ev.now _
 | succ d ih =>
  intro i hd hi
  have hlt : i < a.length := by omega
  have hlt2 : i < b.length := by omega
  rw [List.drop_eq_getElem_cons hlt, List.drop_eq_getElem_cons hlt2]
  by_cases h : a[i] = b[i]
  ·apply Ev.step
   ·intro k
    rw [balustradebase_SameInts.l0, if_pos (by omega), if_pos (by omega), if_pos (by omega), if_pos (by rw [rd_nat a i hlt, rd_nat b i hlt2]; exact h), wrap_succ i (by omega)]
   ·rw [dec_cons_eq h]
    exact ih (i + 1) (by omega) (by omega)
  ·apply Ev.step
   ·intro k
    rw [balustradebase_SameInts.l0, if_pos (by omega), if_pos (by omega), if_pos (by omega), if_neg (by rw [rd_nat a i hlt, rd_nat b i hlt2]; exact h)]
   ·rw [dec_cons_ne h]
    exact Ev.now _
theorem sameInts_ev (a b : List Int) (hl : a.length < 4611686018427387904) : Ev (fun k => balustradebase_SameInts.f k a b) (decide (a = b)) := by
 unfold balustradebase_SameInts.f
 by_cases h : a.length = b.length
 ·have h' : (a.length : Int) = (b.length : Int) := by omega
  simp only [if_pos h']
  simpa using sameInts_from a b h hl a.length 0 (by omega) (by omega)
 ·have h' : ¬ (a.length : Int) = (b.length : Int) := by omega
  simp only [if_neg h']
  have e : decide (a = b) = false := by
   simp only [decide_eq_false_iff_not]
   intro e; exact h (by rw [e])
  rw [e]
  exact Ev.now _
end Go.Proofs.Ytomopjomapkmjaa.Pure

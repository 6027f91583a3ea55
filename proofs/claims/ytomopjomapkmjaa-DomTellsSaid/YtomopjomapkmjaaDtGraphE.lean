/- A part of it. -/
import Derived.Test.YtomopjomapkmjaaDtGraphD
import Derived.Test.YtomopjomapkmjaaDtP1
import Derived.Test.YtomopjomapkmjaaDtP5
set_option linter.unusedVariables false
namespace Go.Proofs.Ytomopjomapkmjaa.Pure
open Go.RowKit Go.Proofs.Ytomopjomapkmjaa.P Go.Proofs.YtomopjomapkmjaaW.PrintWords Go.Proofs.YtomopjomapkmjaaW.PrintLast Go.Proofs.YtomopjomapkmjaaW.PrintMore
def revW (x : List Int) (i j : Nat) : List Int := (List.range x.length).map (fun p => if i ≤ p ∧ p ≤ j then x.getD (i + j - p) 0 else x.getD p 0)
theorem getD_setI (l : List Int) (a : Nat) (v : Int) (p : Nat) (ha : a < l.length) : (l.set a v).getD p 0 = if p = a then v else l.getD p 0 := by
  rw [List.getD_eq_getElem?_getD, List.getD_eq_getElem?_getD, List.getElem?_set]
  by_cases h : a = p
  · subst h; simp [ha]
  · simp [h, Ne.symm h]
theorem range_self (x : List Int) : (List.range x.length).map (fun p => x.getD p 0) = x := by
  apply List.ext_getElem (by simp)
  intro i h1 h2
  simp [List.getD_eq_getElem?_getD, h2]
theorem rev_from : ∀ d (i j : Nat) (x : List Int), j - i ≤ d → j < x.length → x.length < 4611686018427387904 → Ev (fun k => slices_Reverse_int_int.l0 k x (i : Int) (j : Int)) (revW x i j) := by
  have stop : ∀ (i j : Nat) (x : List Int), ¬ i < j → Ev (fun k => slices_Reverse_int_int.l0 k x (i : Int) (j : Int)) (revW x i j) := fun i j x h => by
    have e : revW x i j = x := by
      conv => rhs; rw [← range_self x]
      unfold revW
      apply List.map_congr_left
      intro p _
      by_cases hp : i ≤ p ∧ p ≤ j
      · rw [if_pos hp, show i + j - p = p by omega]
      · rw [if_neg hp]
    rw [e]
    exact Ev.step (fun k => by rw [slices_Reverse_int_int.l0, if_neg (by omega)]) (Ev.now _)
  intro d
  induction d with
  | zero => intro i j x h _ _; exact stop i j x (by omega)
  | succ d ih =>
    intro i j x h hj hx
    by_cases hij : i < j
    · refine Ev.step (f := fun k => slices_Reverse_int_int.l0 k ((x.set i (rd x (j : Int))).set j (rd x (i : Int))) (((i + 1 : Nat) : Int)) (((j - 1 : Nat) : Int))) (fun k => by
        rw [slices_Reverse_int_int.l0, if_pos (by omega), if_pos (by omega), if_pos (by omega), if_pos (by omega), if_pos (by omega), wrap_succ i (by omega), wrap_id (by omega) (by omega), Int.toNat_natCast, Int.toNat_natCast, show (j : Int) - 1 = ((j - 1 : Nat) : Int) by omega]) ?_
      have e : revW x i j = revW ((x.set i (rd x (j : Int))).set j (rd x (i : Int))) (i + 1) (j - 1) := by
        unfold revW
        rw [List.length_set, List.length_set]
        apply List.map_congr_left
        intro p _
        have r1 : ∀ q, ((x.set i (rd x (j : Int))).set j (rd x (i : Int))).getD q 0 = if q = j then x.getD i 0 else if q = i then x.getD j 0 else x.getD q 0 := fun q => by
          rw [getD_setI _ _ _ _ (by simpa using hj), getD_setI _ _ _ _ (by omega)]; rfl
        rw [r1, r1]
        by_cases h1 : p = i
        · subst h1
          rw [if_pos ⟨Nat.le_refl _, by omega⟩, if_neg (by omega), if_neg (by omega), if_pos rfl, show p + j - p = j by omega]
        · by_cases h2 : p = j
          · subst h2
            rw [if_pos ⟨by omega, Nat.le_refl _⟩, if_neg (by omega), if_pos rfl, show i + p - p = i by omega]
          · by_cases h3 : i ≤ p ∧ p ≤ j
            · rw [if_pos h3, if_pos (by omega), if_neg (by omega), if_neg (by omega), show i + 1 + (j - 1) - p = i + j - p by omega]
            · rw [if_neg h3, if_neg (by omega), if_neg h2, if_neg h1]
      rw [e]
      exact ih (i + 1) (j - 1) _ (by omega) (by simp; omega) (by simpa using hx)
    · exact stop i j x hij
theorem reverse_ev (l : List Int) (hl : l.length < 4611686018427387904) : Ev (fun k => slices_Reverse_int_int.f k l) l.reverse := by
  unfold slices_Reverse_int_int.f
  by_cases h : l.length = 0
  · have e : l = [] := List.eq_nil_of_length_eq_zero h
    subst e
    have hw : wrap64 ((([] : List Int).length : Int) - 1) = -1 := by
      show wrap64 ((0 : Int) - 1) = -1
      rw [wrap_id (by omega) (by omega)]; rfl
    rw [hw]
    exact Ev.step (f := fun _ => some []) (fun k => by rw [slices_Reverse_int_int.l0, if_neg (by omega)]) (Ev.now _)
  · have hw : wrap64 ((l.length : Int) - 1) = ((l.length - 1 : Nat) : Int) := by rw [wrap_id (by omega) (by omega)]; omega
    rw [hw]
    have e : l.reverse = revW l 0 (l.length - 1) := by
      apply List.ext_getElem (by simp [revW])
      intro p h1 h2
      have hp : p < l.length := by simpa using h1
      simp only [revW, List.getElem_reverse, List.getElem_map, List.getElem_range]
      rw [if_pos (by omega), List.getD_eq_getElem?_getD, List.getElem?_eq_getElem (by omega)]
      simp
    rw [e]
    exact rev_from l.length 0 (l.length - 1) l (by omega) (by omega) hl
theorem un_rep (n : Nat) : gtUn (List.replicate n false) = n := by unfold gtUn; simp
theorem gtAll_cnt (s : List (List Int)) (but : Int) (hv : ∀ l ∈ s, ∀ t ∈ l, 0 ≤ t ∧ t < (s.length : Int)) : (gtAll s but).2.length ≤ s.length := by
  unfold gtAll
  by_cases h : 0 < s.length
  · have := gtGo_cnt s but hv s.length 0 (List.replicate s.length false, []) (by omega) (by omega) (by simp)
    simp only [List.length_nil, un_rep] at this
    omega
  · have e : s = [] := List.eq_nil_of_length_eq_zero (by omega)
    subst e
    exact Nat.le_refl _
theorem gOrder_ev (bl : List (List S29)) (p0 : ByteArray) (p1 p2 : Int) (p3 : List Int) (hl : bl.length ≤ 40) (hg : GoodB bl) : Ev (fun k => graph_Order.f k p0 p1 p2 p3 bl) (gtAll (succsV bl) (-1)).2.reverse := by
  unfold graph_Order.f
  refine Ev.bind (gSuccs_ev bl p0 p1 p2 p3 (by omega) hg) ?_
  refine Ev.congr (fun k => if_pos (succsV_ok bl hl)) (reverse_ev _ ?_)
  have := gtAll_cnt (succsV bl) (-1) (fun l h => (succsV_good bl l h).2)
  have hln := succsV_len bl
  omega
end Go.Proofs.Ytomopjomapkmjaa.Pure

/- A text of this claim, what is not used left out. -/
import Derived.Test.YtomopjomapkmjaaDaDomE
import Derived.Test.YtomopjomapkmjaaDaGraphD
import Derived.Test.YtomopjomapkmjaaDaP0
import Derived.Test.YtomopjomapkmjaaDaP5
import Derived.Test.YtomopjomapkmjaaDaP7
set_option linter.unusedVariables false
namespace Go.Proofs.Ytomopjomapkmjaa.Pure
open Go.RowKit Go.Proofs.Ytomopjomapkmjaa.P Go.Proofs.YtomopjomapkmjaaW.PrintWords Go.Proofs.YtomopjomapkmjaaW.PrintLast Go.Proofs.YtomopjomapkmjaaW.PrintMore
inductive Gd (l : List Int) : Int → Prop
  | zero : Gd l 0
  | go {b : Int} : 0 < b → b < (l.length : Int) → Gd l (rd l b) → Gd l b
theorem depth_any (l : List Int) (hl : l.length < 1000) : ∀ d n (b : Int), l.length + 1 - n = d → n ≤ l.length + 1 → ∃ v, Ev (fun k => dom_Depth.l0 k l b (n : Int)) v ∧ -1 ≤ v ∧ v ≤ (l.length : Int) + 1 ∧ (0 ≤ v → Gd l b) := by
  intro d
  induction d with
  | zero =>
    intro n b hd hn
    obtain rfl : n = l.length + 1 := by omega
    by_cases h0 : b = 0
    · subst h0
      by_cases hz : (l.length : Int) = 0
      · exact ⟨-1, Ev.step (fun k => by rw [dom_Depth.l0, if_neg (by omega), if_pos rfl, if_pos hz]) (Ev.now _), by omega, by omega, fun _ => .zero⟩
      · exact ⟨((l.length + 1 : Nat) : Int), Ev.step (fun k => by rw [dom_Depth.l0, if_neg (by omega), if_pos rfl, if_neg hz]) (Ev.now _), by omega, by omega, fun _ => .zero⟩
    · refine ⟨-1, Ev.step (f := fun _ => some (-1)) (fun k => ?_) (Ev.now _), by omega, by omega, fun h => by omega⟩
      rw [dom_Depth.l0]
      by_cases h1 : b > 0
      · rw [if_pos h1]
        by_cases h2 : b < (l.length : Int)
        · rw [if_pos h2, if_neg (by omega), if_neg h0]
        · rw [if_neg h2, if_neg h0]
      · rw [if_neg h1, if_neg h0]
  | succ d ih =>
    intro n b hd hn
    by_cases h1 : b > 0 ∧ b < (l.length : Int)
    · obtain ⟨v, hv, h2, h3, h4⟩ := ih (n + 1) (rd l b) (by omega) (by omega)
      exact ⟨v, Ev.step (fun k => by rw [dom_Depth.l0, if_pos h1.1, if_pos h1.2, if_pos (by omega), if_pos (by omega), wrap_succ n (by omega)]) hv, h2, h3, fun h => .go h1.1 h1.2 (h4 h)⟩
    · by_cases h0 : b = 0
      · subst h0
        by_cases hz : (l.length : Int) = 0
        · exact ⟨-1, Ev.step (fun k => by rw [dom_Depth.l0, if_neg (by omega), if_pos rfl, if_pos hz]) (Ev.now _), by omega, by omega, fun _ => .zero⟩
        · exact ⟨(n : Int), Ev.step (fun k => by rw [dom_Depth.l0, if_neg (by omega), if_pos rfl, if_neg hz]) (Ev.now _), by omega, by omega, fun _ => .zero⟩
      · refine ⟨-1, Ev.step (f := fun _ => some (-1)) (fun k => ?_) (Ev.now _), by omega, by omega, fun h => by omega⟩
        rw [dom_Depth.l0]
        by_cases h2 : b > 0
        · rw [if_pos h2, if_neg (by omega), if_neg h0]
        · rw [if_neg h2, if_neg h0]
theorem depthF_any (l : List Int) (hl : l.length < 1000) (b : Int) : ∃ v, Ev (fun k => dom_Depth.f k l b) v ∧ -1 ≤ v ∧ v ≤ (l.length : Int) + 1 ∧ (0 ≤ v → Gd l b) := depth_any l hl (l.length + 1) 0 b (by omega) (Nat.zero_le _)
theorem dominates_any (l : List Int) (hl : l.length < 1000) (a : Int) {b : Int} (h : Gd l b) : ∀ n : Nat, n ≤ l.length → ∃ v, Ev (fun k => dom_Dominates.l0 k l a b (n : Int)) v := by
  induction h with
  | zero => exact fun n _ => ⟨a == 0, Ev.step (fun k => by rw [dom_Dominates.l0, if_neg (by omega)]) (Ev.now _)⟩
  | @go b h0 h1 _ ih =>
    intro n hn
    by_cases e : b = a
    · exact ⟨a == b, Ev.step (fun k => by rw [dom_Dominates.l0, if_pos (by omega), if_pos e]) (Ev.now _)⟩
    · by_cases hlt : n < l.length
      · obtain ⟨v, hv⟩ := ih (n + 1) (by omega)
        exact ⟨v, Ev.step (fun k => by rw [dom_Dominates.l0, if_pos (by omega), if_neg e, if_pos (by omega), if_pos (by omega), if_pos h1, wrap_succ n (by omega)]) hv⟩
      · exact ⟨a == b, Ev.step (fun k => by rw [dom_Dominates.l0, if_pos (by omega), if_neg e, if_neg (by omega)]) (Ev.now _)⟩
theorem dominatesF_any (l : List Int) (hl : l.length < 1000) (a b : Int) : ∃ v, Ev (fun k => dom_Dominates.f k l a b) v := by
  unfold dom_Dominates.f
  obtain ⟨v, hv, _, _, _⟩ := depthF_any l hl a
  obtain ⟨u, hu, _, _, hg⟩ := depthF_any l hl b
  by_cases h1 : v < 0
  · exact ⟨false, Ev.bind hv (Ev.congr (fun k => if_pos h1) (Ev.step (fun k => by rw [dom_Dominates.j0, if_pos rfl]) (Ev.now _)))⟩
  · by_cases h2 : u < 0
    · exact ⟨false, Ev.bind hv (Ev.congr (fun k => if_neg h1) (Ev.bind hu (Ev.step (fun k => by rw [dom_Dominates.j0, if_pos (decide_eq_true h2)]) (Ev.now _))))⟩
    · obtain ⟨r, hr⟩ := dominates_any l hl a (hg (by omega)) 0 (Nat.zero_le _)
      exact ⟨r, Ev.bind hv (Ev.congr (fun k => if_neg h1) (Ev.bind hu (Ev.step (fun k => by rw [dom_Dominates.j0, if_neg (by simp [h2])]; rfl) hr)))⟩
def kidRow (l : List Int) (i a : Nat) : List Int := ((List.range i).filter (fun b => decide (l.getD b 0 = (a : Int)))).map (fun b : Nat => (b : Int))
theorem kidRow_len (l : List Int) (i a : Nat) : (kidRow l i a).length ≤ i := by
  unfold kidRow
  rw [List.length_map]
  exact Nat.le_trans (List.length_filter_le _ _) (by simp)
theorem kidRow_succ (l : List Int) (i a : Nat) : kidRow l (i + 1) a = kidRow l i a ++ if (a : Int) = l.getD i 0 then [(i : Int)] else [] := by
  unfold kidRow
  rw [List.range_succ, List.filter_append, List.map_append]
  congr 1
  by_cases h : l.getD i 0 = (a : Int)
  · rw [if_pos h.symm, List.filter_cons_of_pos (by simp only [decide_eq_true_eq]; exact h)]
    rfl
  · rw [if_neg (fun e => h e.symm), List.filter_cons_of_neg (by simp only [decide_eq_true_eq]; exact h)]
    rfl
theorem kids_l0 (l : List Int) (hl : l.length < 1000) : ∀ d i, l.length - i = d → i ≤ l.length → Ev (fun k => dom_Kids.l0 k l ((List.range l.length).map (kidRow l i)) l (l.length : Int) (i : Int)) ((List.range l.length).map (kidRow l l.length)) := by
  intro d
  induction d with
  | zero =>
    intro i hd hi
    obtain rfl : i = l.length := by omega
    exact Ev.step (fun k => by rw [dom_Kids.l0, if_neg (by omega)]) (Ev.now _)
  | succ d ih =>
    intro i hd hi
    have hlt : i < l.length := by omega
    have hE := ih (i + 1) (by omega) (by omega)
    have hrd : rd l (i : Int) = l.getD i 0 := rfl
    by_cases h : 0 ≤ l.getD i 0 ∧ l.getD i 0 < (l.length : Int)
    · have hm := gtPut_map l.length (kidRow l i) (i : Int) (l.getD i 0) h.1 h.2
      have e : (List.range l.length).map (fun x => kidRow l i x ++ if (x : Int) = l.getD i 0 then [(i : Int)] else []) = (List.range l.length).map (kidRow l (i + 1)) := List.map_congr_left fun x _ => (kidRow_succ l i x).symm
      rw [e] at hm
      have hrow : (rd_L2 ((List.range l.length).map (kidRow l i)) (l.getD i 0)).length ≤ i := by
        unfold rd_L2
        rw [List.getD_eq_getElem?_getD, List.getElem?_map, List.getElem?_range (by omega)]
        exact kidRow_len l i _
      refine Ev.step (fun k => ?_) hE
      rw [dom_Kids.l0, if_pos (by omega), if_pos (by omega), if_pos (by omega), hrd, if_pos h.1, if_pos h.2, if_pos h.1, if_pos (by simpa using h.2), if_pos (by omega), wrap_succ i (by omega)]
      unfold gtPut at hm
      rw [← hm]
      rfl
    · have e : (List.range l.length).map (kidRow l i) = (List.range l.length).map (kidRow l (i + 1)) := List.map_congr_left fun x hx => by
        have hx := List.mem_range.1 hx
        rw [kidRow_succ, if_neg (by omega), List.append_nil]
      rw [← e] at hE
      refine Ev.step (fun k => ?_) hE
      rw [dom_Kids.l0, if_pos (by omega), if_pos (by omega), if_pos (by omega), hrd, wrap_succ i (by omega)]
      by_cases h1 : l.getD i 0 ≥ 0
      · rw [if_pos h1, if_neg (by omega)]
      · rw [if_neg h1]
theorem kids_ev (l : List Int) (hl : l.length < 1000) : Ev (fun k => dom_Kids.f k l) ((List.range l.length).map (kidRow l l.length)) := by
  have h := kids_l0 l hl l.length 0 (by omega) (Nat.zero_le _)
  have e : (List.range l.length).map (kidRow l 0) = List.replicate ((l.length : Int)).toNat [] := by
    rw [Int.toNat_natCast]
    apply List.ext_getElem
    · simp
    · intro i h1 h2; simp [kidRow]
  rw [e] at h
  refine Ev.congr (fun k => ?_) h
  rw [dom_Kids.f, if_pos (by omega), if_pos (by omega)]
  rfl
theorem works28_ev : Ev (fun k => balustradelaw28_works.f k) true := Ev.of (k := 200) balustradelaw28_works.mono (by decide +kernel)
end Go.Proofs.Ytomopjomapkmjaa.Pure

/- A part of it. -/
import Derived.Test.YtomopjomapkmjaaDtGraphC
import Derived.Test.YtomopjomapkmjaaDtP0
import Derived.Test.YtomopjomapkmjaaDtP5
import Derived.Test.YtomopjomapkmjaaDtP12
set_option linter.unusedVariables false
namespace Go.Proofs.Ytomopjomapkmjaa.Pure
open Go.RowKit Go.Proofs.Ytomopjomapkmjaa.P Go.Proofs.YtomopjomapkmjaaW.PrintWords Go.Proofs.YtomopjomapkmjaaW.PrintLast Go.Proofs.YtomopjomapkmjaaW.PrintMore
def prRow (s : List (List Int)) (m t : Nat) : List Int := ((List.range m).filter (fun j => decide ((t : Int) ∈ s.getD j []))).map (fun j : Nat => (j : Int))
def prV (s : List (List Int)) (m : Nat) : List (List Int) := (List.range s.length).map (prRow s m)
theorem prRow_succ (s : List (List Int)) (m t : Nat) : prRow s (m + 1) t = prRow s m t ++ (if (t : Int) ∈ s.getD m [] then [(m : Int)] else []) := by
  unfold prRow
  rw [List.range_succ, List.filter_append, List.map_append]
  congr 1
  by_cases h : (t : Int) ∈ s.getD m []
  · rw [if_pos h, List.filter_cons, if_pos (by simpa using h)]; rfl
  · rw [if_neg h, List.filter_cons, if_neg (by simpa using h)]; rfl
theorem prRow_len (s : List (List Int)) (m t : Nat) : (prRow s m t).length ≤ m := by
  unfold prRow
  rw [List.length_map]
  exact Nat.le_trans (List.length_filter_le _ _) (by simp)
theorem gtPut_map (n : Nat) (F : Nat → List Int) (k t : Int) (h0 : 0 ≤ t) (h1 : t < (n : Int)) : gtPut k t ((List.range n).map F) = (List.range n).map (fun x => F x ++ if (x : Int) = t then [k] else []) := by
  unfold gtPut
  apply List.ext_getElem?
  intro i
  rw [List.getElem?_set, List.getElem?_map, List.getElem?_map]
  by_cases hi : i < n
  · rw [List.getElem?_range hi]
    by_cases ht : t.toNat = i
    · subst ht
      have e : ((t.toNat : Nat) : Int) = t := by omega
      simp [hi, e, List.getD_eq_getElem?_getD]
    · have e : ¬ ((i : Int) = t) := by omega
      simp [ht, e]
  · rw [show (List.range n)[i]? = none from List.getElem?_eq_none (by simp; omega)]
    have : t.toNat ≠ i := by omega
    simp [this]
theorem gtFold_map (n : Nat) (k : Int) (l : List Int) : ∀ (F : Nat → List Int), l.Nodup → (∀ t ∈ l, 0 ≤ t ∧ t < (n : Int)) → l.foldl (fun o t => gtPut k t o) ((List.range n).map F) = (List.range n).map (fun x => F x ++ if (x : Int) ∈ l then [k] else []) := by
  induction l with
  | nil => intro F _ _; simp
  | cons t l ih =>
    intro F hn hv
    rw [List.foldl_cons, gtPut_map n F k t (hv t (by simp)).1 (hv t (by simp)).2, ih _ (List.nodup_cons.1 hn).2 (fun u hu => hv u (by simp [hu]))]
    apply List.map_congr_left
    intro x _
    have hnm := (List.nodup_cons.1 hn).1
    by_cases h1 : (x : Int) = t
    · rw [if_pos h1, if_neg (by rw [h1]; exact hnm), if_pos (by simp [h1]), List.append_nil]
    · rw [if_neg h1, List.append_nil]
      by_cases h2 : (x : Int) ∈ l
      · rw [if_pos h2, if_pos (by simp [h2])]
      · rw [if_neg h2, if_neg (by simp [h1, h2])]
theorem gtPr_val (s : List (List Int)) (hg : ∀ l ∈ s, l.Nodup ∧ ∀ t ∈ l, 0 ≤ t ∧ t < (s.length : Int)) : ∀ k, k ≤ s.length → gtPr s s.length k = prV s k
  | 0, _ => by
    unfold gtPr prV prRow
    apply List.ext_getElem (by simp)
    intro i h1 h2
    simp
  | k + 1, h => by
    rw [gtPr, gtPr_val s hg k (by omega)]
    have hm : s.getD k [] ∈ s := by rw [List.getD_eq_getElem?_getD, List.getElem?_eq_getElem (by omega)]; exact List.getElem_mem _
    unfold prV
    rw [gtFold_map s.length (k : Int) _ _ (hg _ hm).1 (hg _ hm).2]
    apply List.map_congr_left
    intro x _
    rw [prRow_succ]
theorem gtTot_le (s : List (List Int)) (m : Nat) (h : ∀ l ∈ s, l.length ≤ m) : ∀ k, gtTot s k ≤ m * k
  | 0 => Nat.zero_le _
  | k + 1 => by
    have h1 : (s.getD k []).length ≤ m := by
      rw [List.getD_eq_getElem?_getD]
      cases hk : s[k]? with
      | none => simp
      | some l => exact h l (List.mem_of_getElem? hk)
    have := gtTot_le s m h k
    rw [gtTot, Nat.mul_succ]
    omega
theorem succsV_row (bl : List (List S29)) : ∀ l ∈ succsV bl, l.length ≤ 1000 := by
  intro l hl
  obtain ⟨b, _, rfl⟩ := List.mem_map.1 hl
  have h1 := keep_len bl.length (lastT b)
  have h2 : (lastT b).length < 1000 := by
    unfold lastT
    split
    · simp
    · exact tgt_len _
  show (keep bl.length (lastT b)).length ≤ _
  omega
theorem gPreds_ev (bl : List (List S29)) (p0 : ByteArray) (p1 p2 : Int) (p3 : List Int) (hl : bl.length ≤ 40) (hg : GoodB bl) : Ev (fun k => graph_Preds.f k p0 p1 p2 p3 bl) (prV (succsV bl) (succsV bl).length) := by
  unfold graph_Preds.f
  refine Ev.bind (gSuccs_ev bl p0 p1 p2 p3 (by omega) hg) ?_
  have hok : gtPok (succsV bl) bl.length = true := by
    unfold gtPok
    simp only [Bool.and_eq_true, decide_eq_true_eq]
    have := gtTot_le (succsV bl) 1000 (succsV_row bl) (succsV bl).length
    have hln := succsV_len bl
    exact ⟨⟨succsV_ok bl hl, hln⟩, by omega⟩
  refine Ev.congr (fun k => if_pos hok) ?_
  rw [gtPr_val _ (succsV_good bl) _ (Nat.le_refl _)]
  exact Ev.now _
end Go.Proofs.Ytomopjomapkmjaa.Pure

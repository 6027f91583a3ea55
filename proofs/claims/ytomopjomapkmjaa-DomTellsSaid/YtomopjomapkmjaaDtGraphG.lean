/- A part of it. -/
import Derived.Test.YtomopjomapkmjaaDtGraphF
import Derived.Test.YtomopjomapkmjaaDtP0
import Derived.Test.YtomopjomapkmjaaDtP1
set_option linter.unusedVariables false
namespace Go.Proofs.Ytomopjomapkmjaa.Pure
open Go.RowKit Go.Proofs.Ytomopjomapkmjaa.P Go.Proofs.YtomopjomapkmjaaW.PrintWords Go.Proofs.YtomopjomapkmjaaW.PrintLast Go.Proofs.YtomopjomapkmjaaW.PrintMore
theorem nodup_le {L : List Int} (hn : L.Nodup) : ∀ {r : List Int}, (∀ x ∈ L, x ∈ r) → L.length ≤ r.length := by
  induction L with
  | nil => intro r _; exact Nat.zero_le _
  | cons x L ih =>
    intro r h
    have hx := h x (by simp)
    have h2 := ih (List.nodup_cons.1 hn).2 (r := r.erase x) (fun y hy => by
      have hne : y ≠ x := fun e => (List.nodup_cons.1 hn).1 (e ▸ hy)
      exact (List.mem_erase_of_ne hne).2 (h y (by simp [hy])))
    have h3 := List.length_erase_of_mem hx
    have h4 := List.length_pos_of_mem hx
    rw [List.length_cons]
    omega
theorem count_tf (l : List Bool) : l.count true + gtUn l = l.length := by
  unfold gtUn
  induction l with
  | nil => rfl
  | cons b l ih => cases b <;> simp <;> omega
structure Ordered (L : List Int) (P : List (List Int)) (R : List Bool) : Prop where
  short : L.length < 1000 ∧ R.length < 1000 ∧ P.length = R.length
  once : L.Nodup
  num : R.count true = L.length
  in_ : ∀ x ∈ L, 0 ≤ x ∧ x < (R.length : Int) ∧ R.getD x.toNat false = true
  zero : ∀ i, (h : i < L.length) → (i = 0 ↔ L[i] = 0)
  led : ∀ i, (h : i < L.length) → i ≠ 0 → ∃ y ∈ rd_L2 P L[i], y ∈ L.take i
  row : ∀ x, (rd_L2 P x).length < 1000
theorem gtGo_eq (s : List (List Int)) (but : Int) (hv : ∀ l ∈ s, ∀ t ∈ l, 0 ≤ t ∧ t < (s.length : Int)) : ∀ n (k : Int) st, 0 ≤ k → k < (s.length : Int) → st.1.length = s.length → (gtGo s but n k st).2.length + gtUn (gtGo s but n k st).1 = st.2.length + gtUn st.1 := by
  intro n
  induction n with
  | zero => intro k st _ _ _; rfl
  | succ n ih =>
    intro k st h0 h1 hs
    have fold : ∀ (l : List Int), (∀ t ∈ l, 0 ≤ t ∧ t < (s.length : Int)) → ∀ (q : List Bool × List Int), q.1.length = s.length → (l.foldl (fun q t => gtGo s but n t q) q).2.length + gtUn (l.foldl (fun q t => gtGo s but n t q) q).1 = q.2.length + gtUn q.1 := by
      intro l
      induction l with
      | nil => intro _ q _; rfl
      | cons t l ihl =>
        intro hl q hq
        have a1 := ih t q (hl t (by simp)).1 (hl t (by simp)).2 hq
        have a2 := ihl (fun t ht => hl t (by simp [ht])) (gtGo s but n t q) ((gtGo_len s but n t q).1.trans hq)
        simp only [List.foldl_cons]
        omega
    unfold gtGo
    split
    · rfl
    · rename_i hn
      have hk : k.toNat < st.1.length := by omega
      have hf : st.1.getD k.toNat false = false := by
        cases hx : st.1.getD k.toNat false with
        | false => rfl
        | true => exact absurd (.inr hx) hn
      have hu := gtUn_set_lt st.1 k.toNat hk hf
      have hr : ∀ t ∈ s.getD k.toNat [], 0 ≤ t ∧ t < (s.length : Int) := by
        rw [List.getD_eq_getElem?_getD, List.getElem?_eq_getElem (by omega)]
        exact hv _ (List.getElem_mem _)
      have := fold _ hr (st.1.set k.toNat true, st.2) (by simpa using hs)
      simp only [List.length_append, List.length_singleton]
      simp only at this
      omega
theorem prRow_mem (s : List (List Int)) (m t : Nat) (y : Int) : y ∈ prRow s m t ↔ 0 ≤ y ∧ y < (m : Int) ∧ (t : Int) ∈ s.getD y.toNat [] := by
  unfold prRow
  rw [List.mem_map]
  constructor
  · rintro ⟨j, hj, rfl⟩
    rw [List.mem_filter, List.mem_range] at hj
    exact ⟨by omega, by omega, by simpa using hj.2⟩
  · rintro ⟨h0, h1, h2⟩
    exact ⟨y.toNat, List.mem_filter.2 ⟨List.mem_range.2 (by omega), by simpa using h2⟩, by omega⟩
theorem prV_at (s : List (List Int)) (x : Int) (h0 : 0 ≤ x) (h1 : x < (s.length : Int)) : rd_L2 (prV s s.length) x = prRow s s.length x.toNat := by
  unfold rd_L2 prV
  rw [List.getD_eq_getElem?_getD, List.getElem?_map, List.getElem?_range (by omega)]
  rfl
theorem ordered_of (s : List (List Int)) (hs : s.length ≤ 40) (hv : ∀ l ∈ s, ∀ t ∈ l, 0 ≤ t ∧ t < (s.length : Int)) : Ordered (gtAll s (-1)).2.reverse (prV s s.length) (gtAll s (-1)).1 := by
  have hRl := gtAll_len s (-1)
  have hLl := gtAll_cnt s (-1) hv
  have hPl : (prV s s.length).length = s.length := by simp [prV]
  have hrow : ∀ x, (rd_L2 (prV s s.length) x).length < 1000 := fun x => by
    unfold rd_L2
    rw [List.getD_eq_getElem?_getD]
    cases hx : (prV s s.length)[x.toNat]? with
    | none => simp
    | some l =>
      obtain ⟨t, _, rfl⟩ := List.mem_map.1 (List.mem_of_getElem? hx)
      have := prRow_len s s.length t
      show (prRow s s.length t).length < 1000
      omega
  by_cases hz : s.length = 0
  · have e : s = [] := List.eq_nil_of_length_eq_zero hz
    subst e
    exact { short := ⟨by simp [gtAll, gtGo], by simp [gtAll, gtGo], by simp [gtAll, gtGo, prV]⟩, once := by simp [gtAll, gtGo], num := by simp [gtAll, gtGo], in_ := fun x hx => by simp [gtAll, gtGo] at hx, zero := fun i h => by simp [gtAll, gtGo] at h, led := fun i h => by simp [gtAll, gtGo] at h, row := hrow }
  have hl0 : ((List.replicate s.length false, ([] : List Int)) : List Bool × List Int).1.length = s.length := by simp
  have hf : ∀ x : Nat, ((List.replicate s.length false, ([] : List Int)) : List Bool × List Int).1.getD x false = false := fun x => rep_false _ x
  obtain ⟨new, a1, ⟨d1, d2, d3⟩, a3, a4⟩ := go_new s hv s.length 0 (List.replicate s.length false, []) (by omega) (by omega) hl0 (by rw [show ((List.replicate s.length false, ([] : List Int)) : List Bool × List Int).1 = List.replicate s.length false from rfl, un_rep]; exact Nat.le_refl _)
  have hq := gtGo_eq s (-1) hv s.length 0 (List.replicate s.length false, []) (by omega) (by omega) hl0
  obtain ⟨init, hi⟩ := a4 (hf _)
  have hnew : (gtAll s (-1)).2 = new := by unfold gtAll; rw [a1]; rfl
  have hR : (gtAll s (-1)).1 = (gtGo s (-1) s.length 0 (List.replicate s.length false, [])).1 := rfl
  have hcount : (gtAll s (-1)).1.count true = new.length := by
    have h1 := count_tf (gtAll s (-1)).1
    rw [show (gtGo s (-1) s.length 0 (List.replicate s.length false, [])).2 = new from hnew, show (gtGo s (-1) s.length 0 (List.replicate s.length false, [])).1 = (gtAll s (-1)).1 from rfl] at hq
    simp only [List.length_nil, un_rep] at hq
    omega
  rw [hnew] at hLl ⊢
  have hrev : new.reverse = 0 :: init.reverse := by rw [hi]; simp
  have hnd : new.reverse.Nodup := List.pairwise_reverse.2 (d1.imp (fun h => Ne.symm h))
  have hzero : ∀ i, (h : i < new.reverse.length) → (i = 0 ↔ new.reverse[i] = 0) := by
    intro i h
    have h0 : new.reverse[0]'(by omega) = 0 := by simp [hrev]
    constructor
    · rintro rfl; exact h0
    · intro h2
      by_cases hi0 : i = 0
      · exact hi0
      · exact absurd (h0.trans h2.symm) ((List.pairwise_iff_getElem.1 hnd) 0 i (by omega) h (by omega))
  refine { short := ⟨by rw [List.length_reverse]; omega, by omega, by omega⟩, once := hnd, num := by rw [hcount, List.length_reverse], in_ := fun x hx => ?_, zero := hzero, led := fun i h hne => ?_, row := hrow }
  · rw [List.mem_reverse] at hx
    refine ⟨(d2 x hx).1, by rw [hRl]; exact (d2 x hx).2.1, ?_⟩
    rw [hR]
    refine (d3 x.toNat).2 (.inr ?_)
    rw [show ((x.toNat : Nat) : Int) = x by have := (d2 x hx).1; omega]
    exact hx
  · have hsp : new = (new.reverse.drop (i + 1)).reverse ++ new.reverse[i] :: (new.reverse.take i).reverse := by
      have h1 : new.reverse = new.reverse.take i ++ new.reverse[i] :: new.reverse.drop (i + 1) := by
        rw [← List.drop_eq_getElem_cons h, List.take_append_drop]
      have h2 := congrArg List.reverse h1
      rw [List.reverse_reverse, List.reverse_append, List.reverse_cons, List.append_assoc] at h2
      exact h2
    have hxm : new.reverse[i] ∈ new := by rw [← List.mem_reverse]; exact List.getElem_mem h
    rcases a3 _ _ _ hsp with h3 | ⟨y, hy, hx⟩
    · simp at h3
      exact absurd ((hzero i h).2 (by simpa using h3)) hne
    · rw [List.mem_reverse] at hy
      have hyn : y ∈ new := by rw [← List.mem_reverse]; exact List.mem_of_mem_take hy
      refine ⟨y, ?_, hy⟩
      rw [prV_at s _ (d2 _ hxm).1 (d2 _ hxm).2.1, prRow_mem]
      refine ⟨(d2 y hyn).1, (d2 y hyn).2.1, ?_⟩
      rw [show (((new.reverse[i]).toNat : Nat) : Int) = new.reverse[i] by have := (d2 _ hxm).1; omega]
      exact hx
end Go.Proofs.Ytomopjomapkmjaa.Pure

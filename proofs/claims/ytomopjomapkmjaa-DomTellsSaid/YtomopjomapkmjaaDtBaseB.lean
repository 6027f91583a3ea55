/- A part of it. -/
import Derived.Test.YtomopjomapkmjaaDtBaseA
import Derived.Test.YtomopjomapkmjaaDtP19
namespace Go.Proofs.Ytomopjomapkmjaa.Pure
open Go.RowKit Go.Proofs.Ytomopjomapkmjaa.P Go.Proofs.YtomopjomapkmjaaW.PrintWords Go.Proofs.YtomopjomapkmjaaW.PrintLast Go.Proofs.YtomopjomapkmjaaW.PrintMore
theorem sorted_l1 (l : List Int) (i : Nat) (hi : i < l.length) (hl : l.length < 1099511627776) (out : List Int) (hp : out.Pairwise (· < ·)) (hv : rd l (i : Int) ∉ out) (ho : out.length ≤ i) : ∀ d j, out.length - j = d → j ≤ out.length → (∀ x, x ∈ out.take j → x < rd l (i : Int)) →
    ∃ out', (∀ r, Ev (fun k => balustradebase_Sorted.l0 k l out' ((i + 1 : Nat) : Int)) r → Ev (fun k => balustradebase_Sorted.l1 k l out (i : Int) (out.take j) (j : Int)) r) ∧ out'.Pairwise (· < ·) ∧ (∀ x, x ∈ out' ↔ x = rd l (i : Int) ∨ x ∈ out) ∧ out'.length = out.length + 1 := by
  have fin : ∀ j, j ≤ out.length → (∀ x, x ∈ out.take j → x < rd l (i : Int)) → (∀ x, x ∈ out.drop j → rd l (i : Int) < x) →
      (out.take j ++ [rd l (i : Int)] ++ out.drop j).Pairwise (· < ·) ∧ (∀ x, x ∈ (out.take j ++ [rd l (i : Int)] ++ out.drop j) ↔ x = rd l (i : Int) ∨ x ∈ out) ∧ (out.take j ++ [rd l (i : Int)] ++ out.drop j).length = out.length + 1 := by
    intro j hj h1 h2
    have hsplit : out = out.take j ++ out.drop j := (List.take_append_drop j out).symm
    have hp' := hp
    rw [hsplit, List.pairwise_append] at hp'
    refine ⟨?_, ?_, ?_⟩
    · rw [List.append_assoc, List.pairwise_append]
      refine ⟨hp'.1, ?_, ?_⟩
      · rw [List.singleton_append, List.pairwise_cons]
        exact ⟨h2, hp'.2.1⟩
      · intro x hx y hy
        rw [List.singleton_append, List.mem_cons] at hy
        rcases hy with rfl | hy
        · exact h1 x hx
        · exact hp'.2.2 x hx y hy
    · intro x
      have : x ∈ out ↔ x ∈ out.take j ∨ x ∈ out.drop j := by
        constructor
        · intro h; rw [hsplit] at h; exact List.mem_append.1 h
        · intro h; rw [hsplit]; exact List.mem_append.2 h
      rw [this]
      simp only [List.mem_append, List.mem_singleton]
      constructor
      · rintro ((h | h) | h)
        · exact .inr (.inl h)
        · exact .inl h
        · exact .inr (.inr h)
      · rintro (h | h | h)
        · exact .inl (.inr h)
        · exact .inl (.inl h)
        · exact .inr h
    · simp; omega
  intro d
  induction d with
  | zero =>
    intro j hd hj h
    obtain rfl : j = out.length := by omega
    obtain ⟨f1, f2, f3⟩ := fin out.length (by omega) h (by simp)
    refine ⟨_, ?_, f1, f2, f3⟩
    intro r hr
    apply Ev.step
    · intro k
      have e1 : ((out.take out.length).length : Int) = (out.length : Int) := by simp
      rw [balustradebase_Sorted.l1, if_neg (by omega), if_pos (by omega), if_pos (by omega), if_pos (by simp; omega), Option.bind_some, e1, if_pos (by omega), if_pos (by omega), Option.bind_some, Int.toNat_natCast, if_pos (by simp; omega), wrap_succ i (by omega)]
    · exact hr
  | succ d ih =>
    intro j hd hj h
    have hlt : j < out.length := by omega
    have e0 := rd_nat out j hlt
    have hne : out[j] ≠ rd l (i : Int) := fun he => hv (by rw [← he]; exact List.getElem_mem hlt)
    by_cases hc : rd out (j : Int) < rd l (i : Int)
    · have ht : out.take (j + 1) = out.take j ++ [rd out (j : Int)] := by rw [e0, List.take_succ_eq_append_getElem hlt]
      obtain ⟨out', f0, f1, f2, f3⟩ := ih (j + 1) (by omega) (by omega) (by
        intro x hx
        rw [ht, List.mem_append, List.mem_singleton] at hx
        rcases hx with hx | rfl
        · exact h x hx
        · exact hc)
      refine ⟨out', fun r hr => ?_, f1, f2, f3⟩
      have := f0 r hr
      rw [ht] at this
      apply Ev.step
      · intro k
        rw [balustradebase_Sorted.l1, if_pos (by omega), if_pos (by omega), if_pos (by omega), if_pos (by omega), if_pos hc, if_pos (by simp; omega), wrap_succ j (by omega)]
      · exact this
    · obtain ⟨f1, f2, f3⟩ := fin j (by omega) h (by
        intro x hx
        rw [List.drop_eq_getElem_cons hlt, List.mem_cons] at hx
        have hsplit : out = out.take j ++ out.drop j := (List.take_append_drop j out).symm
        have hp' := hp
        rw [hsplit, List.pairwise_append, List.drop_eq_getElem_cons hlt, List.pairwise_cons] at hp'
        rcases hx with rfl | hx
        · omega
        · have := hp'.2.1.1 x hx; omega)
      refine ⟨_, ?_, f1, f2, f3⟩
      intro r hr
      apply Ev.step
      · intro k
        have e1 : ((out.take j).length : Int) = (j : Int) := by rw [List.length_take]; omega
        have e2 : (out.take j).length = j := by rw [List.length_take]; omega
        rw [balustradebase_Sorted.l1, if_pos (by omega), if_pos (by omega), if_pos (by omega), if_pos (by omega), if_neg hc, if_pos (by omega), Option.bind_some, e1, if_pos (by omega), if_pos (by omega), Option.bind_some, Int.toNat_natCast, if_pos (by simp; omega), wrap_succ i (by omega)]
      · exact hr
theorem sorted_from (l : List Int) (hl : l.length < 1099511627776) : ∀ d i (out : List Int), l.length - i = d → i ≤ l.length → out.Pairwise (· < ·) → out.length ≤ i →
    ∃ r, Ev (fun k => balustradebase_Sorted.l0 k l out (i : Int)) r ∧ r.Pairwise (· < ·) ∧ (∀ x, x ∈ r ↔ x ∈ out ∨ x ∈ l.drop i) ∧ r.length ≤ l.length := by
  intro d
  induction d with
  | zero =>
    intro i out hd hi hp ho
    obtain rfl : i = l.length := by omega
    refine ⟨out, ?_, hp, by simp, ho⟩
    apply Ev.step
    · intro k
      rw [balustradebase_Sorted.l0, if_neg (by omega)]
    · exact Ev.now _
  | succ d ih =>
    intro i out hd hi hp ho
    have hlt : i < l.length := by omega
    have hH := hasInt_ev out (rd l (i : Int)) (by omega)
    have e0 := rd_nat l i hlt
    by_cases hm : rd l (i : Int) ∈ out
    · obtain ⟨r, h1, h2, h3, h4⟩ := ih (i + 1) out (by omega) (by omega) hp (by omega)
      have e2 : decide (rd l (i : Int) ∈ out) = true := by simp [hm]
      rw [e2] at hH
      refine ⟨r, ?_, h2, fun x => ?_, h4⟩
      · apply Ev.step
        · intro k
          rw [balustradebase_Sorted.l0, if_pos (by omega), if_pos (by omega), wrap_succ i (by omega)]
        · refine hH.bind ?_
          simp only [if_true]
          exact h1
      · rw [h3, List.drop_eq_getElem_cons hlt, List.mem_cons, ← e0]
        constructor
        · rintro (h | h)
          · exact .inl h
          · exact .inr (.inr h)
        · rintro (h | rfl | h)
          · exact .inl h
          · exact .inl hm
          · exact .inr h
    · obtain ⟨out', f0, f1, f2, f3⟩ := sorted_l1 l i hlt hl out hp hm ho out.length 0 (by omega) (by omega) (by simp)
      obtain ⟨r, h1, h2, h3, h4⟩ := ih (i + 1) out' (by omega) (by omega) f1 (by omega)
      have e2 : decide (rd l (i : Int) ∈ out) = false := by simp [hm]
      rw [e2] at hH
      refine ⟨r, ?_, h2, fun x => ?_, h4⟩
      · apply Ev.step
        · intro k
          rw [balustradebase_Sorted.l0, if_pos (by omega), if_pos (by omega)]
        · refine hH.bind ?_
          refine Ev.congr (fun k => ?_) (f0 r h1)
          rw [if_neg (by decide)]
          rfl
      · rw [h3, f2, List.drop_eq_getElem_cons hlt, List.mem_cons, ← e0]
        constructor
        · rintro ((h | h) | h)
          · exact .inr (.inl h)
          · exact .inl h
          · exact .inr (.inr h)
        · rintro (h | h | h)
          · exact .inl (.inr h)
          · exact .inl (.inl h)
          · exact .inr h
theorem sorted_ev (l : List Int) (hl : l.length < 1099511627776) : ∃ r, Ev (fun k => balustradebase_Sorted.f k l) r ∧ r.Pairwise (· < ·) ∧ (∀ x, x ∈ r ↔ x ∈ l) ∧ r.length ≤ l.length := by
  obtain ⟨r, h1, h2, h3, h4⟩ := sorted_from l hl l.length 0 [] (by omega) (by omega) List.Pairwise.nil (by simp)
  exact ⟨r, h1, h2, fun x => by rw [h3]; simp, h4⟩
end Go.Proofs.Ytomopjomapkmjaa.Pure

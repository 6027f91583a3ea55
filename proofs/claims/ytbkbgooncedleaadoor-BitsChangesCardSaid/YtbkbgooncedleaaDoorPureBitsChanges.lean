/- For any set of words and any list of numbers, the law BitsChanges answers true: Has, Put, Drop, List and Count are as the document says, number by number; no condition beside those of the row. -/
import Derived.Test.YtbkbgooncedleaaDoorP10
import Derived.Test.YtbkbgooncedleaaDoorBits
namespace Go.Proofs.YtbkbgooncedleaaDoor.Pure
open Go.RowKit Go.Proofs.YtbkbgooncedleaaDoor.P Go.Proofs.YtbkbgooncedleaaDoorW.PrintWords Go.Proofs.YtbkbgooncedleaaDoorW.PrintLast Go.Proofs.YtbkbgooncedleaaDoorW.PrintMore
/-! ### BitsChanges -/
theorem changes_j4 (a l s : List Int) (hs : wfL s) (h1 : s.length ≤ 6) (i : Nat) (hi : i < 4611686018427387904)
    (h : Ev (fun k => balustradelaw02_BitsChanges.l0 k a l s (listN (64 * s.length) (bitL s)) ((i + 1 : Nat) : Int)) true) : Ev (fun k => balustradelaw02_BitsChanges.j4 k a l s (listN (64 * s.length) (bitL s)) (i : Int)) true := by
  have hL := list_ev s hs (by omega)
  have hC := count_ev s hs (by omega)
  have hn := listN_len (64 * s.length) (bitL s)
  have hS := sameInts_ev (listN (64 * s.length) (bitL s)) (listN (64 * s.length) (bitL s)) (by omega)
  rw [decide_eq_true rfl] at hS
  apply Ev.step
  · intro k
    rw [balustradelaw02_BitsChanges.j4, wrap_succ i hi]
  · refine hL.bind (hS.bind ?_)
    simp only [if_true]
    refine hC.bind ?_
    simp only [if_true]
    exact h
theorem changes_from (a l : List Int) (h1 : a.length ≤ 6) (h2 : l.length ≤ 20) (hl : ∀ x ∈ l, -9223372036854775808 ≤ x ∧ x ≤ 9223372036854775807) : ∀ d i (s : List Int), l.length - i = d → i ≤ l.length → wfL s → s.length = a.length →
    Ev (fun k => balustradelaw02_BitsChanges.l0 k a l s (listN (64 * s.length) (bitL s)) (i : Int)) true := by
  intro d
  induction d with
  | zero =>
    intro i s hd hi hs he
    obtain rfl : i = l.length := by omega
    have hn := listN_len (64 * s.length) (bitL s)
    obtain ⟨q, hq, l1, v1, c1⟩ := refwords_ev a.length (listN (64 * s.length) (bitL s)) (by omega) (by omega)
    have e : s = q := by
      apply ext_bits hs v1 (by omega)
      intro i hi
      rw [c1]
      apply bool_iff
      simp only [Bool.and_eq_true, decide_eq_true_eq, mem_listN]
      exact ⟨fun h => ⟨by omega, h⟩, fun h => h.2⟩
    subst e
    have hW := words_ev s s (by omega)
    rw [decide_eq_true rfl] at hW
    apply Ev.step
    · intro k
      rw [balustradelaw02_BitsChanges.l0, if_neg (by omega)]
    · refine hq.bind (hW.bind ?_)
      simp only [if_true]
      exact works_ev.bind (Ev.now _)
  | succ d ih =>
    intro i s hd hi hs he
    have hlt : i < l.length := by omega
    have hx := hl (l[i]) (List.getElem_mem hlt)
    rw [← rd_nat l i hlt] at hx
    have hn := listN_len (64 * s.length) (bitL s)
    have hH := hasInt_ev (listN (64 * s.length) (bitL s)) (rd l (i : Int)) (by omega)
    have hhas := has_val hs hx.2
    obtain ⟨s1, p1, p2, p3, p4⟩ := put_val hs hx.2
    obtain ⟨s2, d1, d2, d3, d4⟩ := drop_val hs hx.2
    have hlen : wrap64 (64 * (a.length : Int)) = 64 * (a.length : Int) := wrap_id (by omega) (by omega)
    have key : Ev (fun k => balustradelaw02_BitsChanges.j2 k a l s (listN (64 * s.length) (bitL s)) (i : Int) (rd l (i : Int)) (Int.tmod (rd l (i : Int)) 2 == 0) (decide (0 ≤ rd l (i : Int)) && decide (rd l (i : Int) < 64 * (a.length : Int)))) true := by
      generalize rd l (i : Int) = n at *
      have ehas : decide (n ∈ listN (64 * s.length) (bitL s)) = (decide (0 ≤ n) && bitL s n.toNat) := by
        apply bool_iff
        rw [decide_eq_true_eq, Bool.and_eq_true, decide_eq_true_eq]
        by_cases h0 : 0 ≤ n
        · obtain ⟨m, rfl⟩ : ∃ m : Nat, n = (m : Int) := ⟨n.toNat, by omega⟩
          rw [mem_listN, Int.toNat_natCast]
          simp
        · rw [listN_mem]
          constructor
          · rintro ⟨j, rfl, _⟩; omega
          · intro h; omega
      rw [ehas] at hH
      have ih1 := changes_j4 a l s1 p3 (by omega) i (by omega) (ih (i + 1) s1 (by omega) (by omega) p3 (by omega))
      have ih2 := changes_j4 a l s2 d3 (by omega) i (by omega) (ih (i + 1) s2 (by omega) (by omega) d3 (by omega))
      by_cases hc : (Int.tmod n 2 == 0) = true
      · have hO := out_ev (listN (64 * s.length) (bitL s)) [n] (by omega) (by simp)
        have eO : (listN (64 * s.length) (bitL s)).filter (fun x => !decide (x ∈ [n])) = listN (64 * s2.length) (bitL s2) := by
          apply sorted_ext _ _ (List.Pairwise.filter _ (listN_sorted _ _)) (listN_sorted _ _)
          intro x
          rw [List.mem_filter, listN_mem, listN_mem, d2]
          simp only [List.mem_singleton, Bool.not_eq_true', decide_eq_false_iff_not]
          constructor
          · rintro ⟨⟨j, rfl, h1, h2⟩, h3⟩
            exact ⟨j, rfl, h1, by rw [d4, h2]; simp; omega⟩
          · rintro ⟨j, rfl, h1, h2⟩
            rw [d4] at h2
            simp at h2
            exact ⟨⟨j, rfl, h1, h2.1⟩, by omega⟩
        rw [eO] at hO
        rw [hc]
        apply Ev.step
        · intro k
          rw [balustradelaw02_BitsChanges.j2]
        · refine hH.bind ?_
          simp only [hhas, Option.bind_some, bne_self_eq_false, Bool.false_eq_true, if_false, if_true, d1]
          exact hO.bind ih2
      · have hc' : (Int.tmod n 2 == 0) = false := by simpa using hc
        rw [hc']
        by_cases hm : (decide (0 ≤ n) && decide (n < 64 * (a.length : Int))) = true
        · have hm2 : 0 ≤ n ∧ n < 64 * (a.length : Int) := by simpa using hm
          obtain ⟨o, ho, o1, o2, o3⟩ := sorted_ev (listN (64 * s.length) (bitL s) ++ [n]) (by simp; omega)
          have eo : o = listN (64 * s1.length) (bitL s1) := by
            apply sorted_ext _ _ o1 (listN_sorted _ _)
            intro x
            rw [o2, List.mem_append, List.mem_singleton, listN_mem, listN_mem, p2]
            constructor
            · rintro (⟨j, rfl, h1, h2⟩ | rfl)
              · exact ⟨j, rfl, h1, by rw [p4, h2]; simp⟩
              · exact ⟨x.toNat, by omega, by omega, by rw [p4]; simp; right; omega⟩
            · rintro ⟨j, rfl, h1, h2⟩
              rw [p4] at h2
              simp at h2
              rcases h2 with h2 | h2
              · exact .inl ⟨j, rfl, h1, h2⟩
              · exact .inr h2.1
          rw [eo] at ho
          have ep : (decide (0 ≤ n ∧ n < 64 * (s.length : Int)) && !bitL s n.toNat) = !(decide (0 ≤ n) && bitL s n.toNat) := by
            have e1 : decide (0 ≤ n ∧ n < 64 * (s.length : Int)) = true := by rw [decide_eq_true_eq]; omega
            have e2 : decide (0 ≤ n) = true := by rw [decide_eq_true_eq]; omega
            rw [e1, e2]; simp
          rw [ep] at p1
          rw [hm]
          apply Ev.step
          · intro k
            rw [balustradelaw02_BitsChanges.j2]
          · refine hH.bind ?_
            simp only [hhas, Option.bind_some, bne_self_eq_false, Bool.false_eq_true, if_false, if_true, p1]
            apply Ev.step
            · intro k
              rw [balustradelaw02_BitsChanges.j3, if_neg (by decide), if_pos rfl, ints_val _ (by omega), Option.bind_some, if_pos (by omega)]
            · exact ho.bind ih1
        · have hm' : (decide (0 ≤ n) && decide (n < 64 * (a.length : Int))) = false := by simpa using hm
          have hm2 : ¬ (0 ≤ n ∧ n < 64 * (s.length : Int)) := by
            intro h; apply hm
            rw [Bool.and_eq_true, decide_eq_true_eq, decide_eq_true_eq]; omega
          have ep : (decide (0 ≤ n ∧ n < 64 * (s.length : Int)) && !bitL s n.toNat) = false := by
            rw [decide_eq_false hm2]; rfl
          rw [ep] at p1
          have es : s1 = s := by
            apply ext_bits p3 hs p2
            intro j hj
            rw [p4]
            have : (decide ((j : Int) = n) && decide (j < 64 * s.length)) = false := by
              rw [Bool.and_eq_false_iff, decide_eq_false_iff_not, decide_eq_false_iff_not]
              by_cases hjn : (j : Int) = n
              · right; omega
              · left; exact hjn
            rw [this]; simp
          subst es
          rw [hm']
          apply Ev.step
          · intro k
            rw [balustradelaw02_BitsChanges.j2]
          · refine hH.bind ?_
            simp only [hhas, Option.bind_some, bne_self_eq_false, Bool.false_eq_true, if_false, p1]
            apply Ev.step
            · intro k
              rw [balustradelaw02_BitsChanges.j3, if_neg (by decide), if_neg (by decide)]
            · exact ih1
    apply Ev.step (f := fun k => balustradelaw02_BitsChanges.j2 k a l s (listN (64 * s.length) (bitL s)) (i : Int) (rd l (i : Int)) (Int.tmod (rd l (i : Int)) 2 == 0) (decide (0 ≤ rd l (i : Int)) && decide (rd l (i : Int) < 64 * (a.length : Int))))
    · intro k
      rw [balustradelaw02_BitsChanges.l0, if_pos (by omega), if_pos (by omega), hlen]
      by_cases h0 : 0 ≤ rd l (i : Int)
      · rw [if_pos h0, decide_eq_true h0]; rfl
      · rw [if_neg h0, decide_eq_false h0]; rfl
    · exact key
theorem BitsChanges : balustradelaw02_BitsChanges.Pure := by
  intro a l _ _ ha _ _ hl
  have ha' : wfL a := fun x hx => w64_wf (ha x hx)
  apply Ev.rounds (g := fun k => balustradelaw02_BitsChanges.f k a l)
  have hw : Ev (fun k => balustradelaw02_BitsChanges.j0 k a l true) true := by
    apply Ev.step
    · intro k
      rw [balustradelaw02_BitsChanges.j0, if_pos rfl]
    · exact works_ev.bind (Ev.now _)
  by_cases h1 : a.length ≤ 6
  · by_cases h2 : l.length ≤ 20
    · have hm : Ev (fun k => balustradelaw02_BitsChanges.j0 k a l false) true := by
        apply Ev.step
        · intro k
          rw [balustradelaw02_BitsChanges.j0, if_neg (by decide), copied_val a (by omega), Option.bind_some]
        · exact (reflist_ev a ha' (by omega)).bind (changes_from a l h1 h2 (fun x hx => i64_wf (hl x hx)) l.length 0 a (by omega) (by omega) ha' rfl)
      refine Ev.congr (fun k => ?_) hm
      rw [balustradelaw02_BitsChanges.f, if_neg (by omega), decide_eq_false (by omega)]
    · refine Ev.congr (fun k => ?_) hw
      rw [balustradelaw02_BitsChanges.f, if_neg (by omega), decide_eq_true (by omega)]
  · refine Ev.congr (fun k => ?_) hw
    rw [balustradelaw02_BitsChanges.f, if_pos (by omega)]
end Go.Proofs.YtbkbgooncedleaaDoor.Pure

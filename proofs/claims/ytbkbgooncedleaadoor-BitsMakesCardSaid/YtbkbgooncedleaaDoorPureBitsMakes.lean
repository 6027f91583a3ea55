/- For any width, list of numbers and words, the law BitsMakes answers true: New, Full, Of and Right are as the document says; no condition beside those of the row. -/
import Derived.Test.YtbkbgooncedleaaDoorP6
import Derived.Test.YtbkbgooncedleaaDoorBits
namespace Go.Proofs.YtbkbgooncedleaaDoor.Pure
open Go.RowKit Go.Proofs.YtbkbgooncedleaaDoor.P Go.Proofs.YtbkbgooncedleaaDoorW.PrintWords Go.Proofs.YtbkbgooncedleaaDoorW.PrintLast Go.Proofs.YtbkbgooncedleaaDoorW.PrintMore
/-! ### BitsMakes -/
theorem may_val (w : Int) : balustraderef02_May.f w = some (decide (0 ≤ w ∧ w ≤ 65536)) := by
  unfold balustraderef02_May.f
  by_cases h : w ≥ 0
  · rw [if_pos h]; congr 1; rw [decide_eq_decide]; omega
  · rw [if_neg h, decide_eq_false (by omega)]
theorem many_val {w : Int} (h0 : 0 ≤ w) (h1 : w ≤ 65536) : balustraderef02_Many.f w = some ((w + 63) / 64) := by
  unfold balustraderef02_Many.f
  rw [wrap_id (x := w + 63) (by omega) (by omega), Int.tdiv_eq_ediv_of_nonneg (by omega), wrap_id (by omega) (by omega)]
def upN (n : Nat) : List Int := List.map (fun (i : Nat) => (i : Int)) (List.range n)
theorem upN_mem (n : Nat) (x : Int) : x ∈ upN n ↔ 0 ≤ x ∧ x < (n : Int) := by
  unfold upN
  simp only [List.mem_map, List.mem_range]
  constructor
  · rintro ⟨i, h, rfl⟩; omega
  · intro h; exact ⟨x.toNat, by omega, by omega⟩
theorem makes_j2 (w : Nat) (hw : w ≤ 512) (l : List Int) (hl : l.length ≤ 30) (s : List Int) (hs : wfL s) (h8 : s.length ≤ 8) (q : Bool) (hq : q = true ↔ s.length = (w + 63) / 64 ∧ ∀ i : Nat, bitL s i = true → i < w) :
    Ev (fun k => balustradelaw02_BitsMakes.j2 k (w : Int) l s (((w + 63) / 64 : Nat) : Int) (upN w) q) true := by
  have e : (((w : Int) + 63) / 64).toNat = (w + 63) / 64 := by omega
  obtain ⟨z, hz, z1, z2, z3⟩ := refwords_ev ((w + 63) / 64) [] (by simp) (by omega)
  have ez : List.replicate ((w + 63) / 64) 0 = z := by
    apply ext_bits (wf_zeros _) z2 (by rw [z1]; simp)
    intro i _
    rw [bitL_zeros, z3]; simp
  obtain ⟨f, hf, f1, f2, f3⟩ := full_ev w (by omega)
  have hup : (upN w).length = w := by unfold upN; simp
  obtain ⟨g, hg, g1, g2, g3⟩ := refwords_ev ((w + 63) / 64) (upN w) (by omega) (by omega)
  have eg : f = g := by
    apply ext_bits f2 g2 (by omega)
    intro i _
    rw [f3, g3]
    apply bool_iff
    rw [Bool.and_eq_true, decide_eq_true_eq, decide_eq_true_eq, decide_eq_true_eq, upN_mem]
    omega
  obtain ⟨o, ho, o1, o2, o3⟩ := of_ev w (by omega) l (by omega)
  obtain ⟨b, hb, b1, b2⟩ := below_ev l (w : Int) (by omega)
  obtain ⟨m, hm, m1, m2, m3⟩ := refwords_ev ((w + 63) / 64) b (by omega) (by omega)
  have em : o = m := by
    apply ext_bits o2 m2 (by omega)
    intro i _
    rw [o3, m3]
    apply bool_iff
    rw [Bool.and_eq_true, Bool.and_eq_true, decide_eq_true_eq, decide_eq_true_eq, decide_eq_true_eq, decide_eq_true_eq, b1]
    constructor
    · rintro ⟨h1, h2⟩; exact ⟨by omega, h1, by omega, by omega⟩
    · rintro ⟨_, h1, _, h2⟩; exact ⟨h1, by omega⟩
  subst ez eg em
  have k1 := words_ev (List.replicate ((w + 63) / 64) 0) (List.replicate ((w + 63) / 64) 0) (by simp; omega)
  have k2 := words_ev f f (by omega)
  have k3 := words_ev o o (by omega)
  rw [decide_eq_true rfl] at k1 k2 k3
  obtain ⟨r, hr, hr'⟩ := right_ev s hs (by omega) (w : Int)
  have er : r = q := bool_iff (by
    rw [hr', hq, e]
    constructor
    · rintro ⟨_, _, h1, h2⟩; exact ⟨h1, fun i hi => by have := h2 i hi; omega⟩
    · rintro ⟨h1, h2⟩; exact ⟨by omega, by omega, h1, fun i hi => by have := h2 i hi; omega⟩)
  subst er
  apply Ev.step
  · intro k
    rw [balustradelaw02_BitsMakes.j2, new_val (by omega) (by omega), Option.bind_some, e]
  · refine hz.bind (k1.bind ?_)
    simp only [if_true]
    refine hf.bind (hg.bind (k2.bind ?_))
    simp only [if_true]
    refine ho.bind (hb.bind (hm.bind (k3.bind ?_)))
    simp only [if_true, copied_val s (by omega), Option.bind_some]
    refine hr.bind ?_
    simp only [beq_self_eq_true, if_true]
    exact works_ev.bind (Ev.now _)
theorem makes_l0 (w : Nat) (hw : w ≤ 512) (l : List Int) (hl : l.length ≤ 30) (s : List Int) (hs : wfL s) (h8 : s.length ≤ 8) : ∀ d i, w - i = d → i ≤ w →
    Ev (fun k => balustradelaw02_BitsMakes.l0 k (w : Int) l s (((w + 63) / 64 : Nat) : Int) (upN i) (i : Int)) true := by
  intro d
  induction d with
  | zero =>
    intro i hd hi
    obtain rfl : i = w := by omega
    have hup : (upN i).length = i := by unfold upN; simp
    by_cases hn : s.length = (i + 63) / 64
    · have hR := reflist_ev s hs (by omega)
      have hL := listN_len (64 * s.length) (bitL s)
      have hO := out_ev (listN (64 * s.length) (bitL s)) (upN i) (by omega) (by omega)
      apply Ev.step
      · intro k
        rw [balustradelaw02_BitsMakes.l0, if_neg (by omega), if_pos (by omega)]
      · refine hR.bind (hO.bind ?_)
        apply makes_j2 i hw l hl s hs h8
        rw [beq_iff_eq]
        have e0 : (((listN (64 * s.length) (bitL s)).filter (fun x => !decide (x ∈ upN i))).length : Int) = 0 ↔ (listN (64 * s.length) (bitL s)).filter (fun x => !decide (x ∈ upN i)) = [] := by
          rw [← List.length_eq_zero_iff]; omega
        rw [e0, List.filter_eq_nil_iff]
        constructor
        · intro h
          refine ⟨hn, fun j hj => ?_⟩
          have := h (j : Int) ((mem_listN s j).2 hj)
          simp only [Bool.not_eq_true', decide_eq_false_iff_not, Classical.not_not, upN_mem] at this
          omega
        · rintro ⟨_, h⟩ x hx
          rw [listN_mem] at hx
          obtain ⟨j, rfl, _, hj⟩ := hx
          simp only [Bool.not_eq_true', decide_eq_false_iff_not, Classical.not_not, upN_mem]
          have := h j hj
          omega
    · apply Ev.step
      · intro k
        rw [balustradelaw02_BitsMakes.l0, if_neg (by omega), if_neg (by omega)]
      · exact makes_j2 i hw l hl s hs h8 false ⟨(fun h => by cases h), fun h => absurd h.1 hn⟩
  | succ d ih =>
    intro i hd hi
    have hup : (upN i).length = i := by unfold upN; simp
    have e : upN (i + 1) = upN i ++ [(i : Int)] := by unfold upN; rw [List.range_succ, List.map_append]; rfl
    have := ih (i + 1) (by omega) (by omega)
    rw [e] at this
    apply Ev.step
    · intro k
      rw [balustradelaw02_BitsMakes.l0, if_pos (by omega), if_pos (by omega), wrap_succ i (by omega)]
    · exact this
theorem BitsMakes : balustradelaw02_BitsMakes.Pure := by
  intro w l s hw _ _ hl _ _ hs
  have hw' := i64_wf hw
  have hl' : ∀ x ∈ l, x ≤ 9223372036854775807 := fun x hx => (i64_wf (hl x hx)).2
  have hs' : wfL s := fun x hx => w64_wf (hs x hx)
  apply Ev.rounds (g := fun k => balustradelaw02_BitsMakes.f k w l s)
  have hwk : Ev (fun k => balustradelaw02_BitsMakes.j0 k w l s true) true := by
    apply Ev.step
    · intro k
      rw [balustradelaw02_BitsMakes.j0, if_pos rfl]
    · exact works_ev.bind (Ev.now _)
  by_cases h1 : l.length > 30
  · refine Ev.congr (fun k => ?_) hwk
    rw [balustradelaw02_BitsMakes.f, if_pos (by omega)]
  by_cases h2 : s.length > 8
  · refine Ev.congr (fun k => ?_) hwk
    rw [balustradelaw02_BitsMakes.f, if_neg (by omega), if_pos (by omega)]
  by_cases h3 : w > 512 ∧ w ≤ 65536
  · refine Ev.congr (fun k => ?_) hwk
    rw [balustradelaw02_BitsMakes.f, if_neg (by omega), if_neg (by omega), if_pos h3.1, decide_eq_true h3.2]
  have hm : Ev (fun k => balustradelaw02_BitsMakes.j0 k w l s false) true := by
    by_cases h4 : 0 ≤ w ∧ w ≤ 65536
    · obtain ⟨n, rfl⟩ : ∃ n : Nat, w = (n : Int) := ⟨w.toNat, by omega⟩
      have e : ((n : Int) + 63) / 64 = (((n + 63) / 64 : Nat) : Int) := by omega
      apply Ev.step
      · intro k
        rw [balustradelaw02_BitsMakes.j0, if_neg (by decide), may_val, Option.bind_some, decide_eq_true h4, if_pos rfl, many_val h4.1 h4.2, Option.bind_some, e]
      · exact makes_l0 n (by omega) l (by omega) s hs' (by omega) n 0 (by omega) (by omega)
    · obtain ⟨r, hr, hr'⟩ := right_ev s hs' (by omega) w
      obtain rfl : r = false := by
        cases hh : r with
        | false => rfl
        | true => have := hr'.1 hh; omega
      have n1 : bits_New_nil.f w = some () := by unfold bits_New_nil.f; rw [if_pos (by omega)]
      have n2 : bits_Full_nil.f w = some () := by unfold bits_Full_nil.f; rw [if_pos (by omega)]
      have n3 : bits_Of_nil.f w l = some () := by
        unfold bits_Of_nil.f
        rw [if_pos (by omega), if_pos ⟨by omega, by rw [List.all_eq_true]; intro x hx; simpa using hl' x hx⟩]
      have key : Ev (fun k => (bits_Right.f k s w).bind fun t241 => (if t241 = true then (some false) else ((balustradelaw02_works.f k).bind fun t242 => (some t242)))) true := by
        refine hr.bind ?_
        simp only [Bool.false_eq_true, if_false]
        exact works_ev.bind (Ev.now _)
      by_cases h5 : w < 0
      · apply Ev.step
        · intro k
          rw [balustradelaw02_BitsMakes.j0, if_neg (by decide), may_val, Option.bind_some, decide_eq_false h4, if_neg (by decide), if_pos h5, n1, Option.bind_some, n2, Option.bind_some, n3, Option.bind_some, copied_val s (by omega), Option.bind_some]
        · exact key
      · apply Ev.step
        · intro k
          rw [balustradelaw02_BitsMakes.j0, if_neg (by decide), may_val, Option.bind_some, decide_eq_false h4, if_neg (by decide), if_neg h5, if_pos (by omega), n1, Option.bind_some, n2, Option.bind_some, n3, Option.bind_some, copied_val s (by omega), Option.bind_some]
        · exact key
  refine Ev.congr (fun k => ?_) hm
  rw [balustradelaw02_BitsMakes.f, if_neg (by omega), if_neg (by omega)]
  by_cases h5 : w > 512
  · rw [if_pos h5, decide_eq_false (by omega)]
  · rw [if_neg h5]
end Go.Proofs.YtbkbgooncedleaaDoor.Pure

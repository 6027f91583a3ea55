/- For any two sets of words a and b, the law BitsJoins answers true: Or, And, Less and Same are as the document says, and neither set is changed; no condition beside those of the row. -/
import Derived.Test.YtbkbgooncedleaaDoorP8
import Derived.Test.YtbkbgooncedleaaDoorBits
namespace Go.Proofs.YtbkbgooncedleaaDoor.Pure
open Go.RowKit Go.Proofs.YtbkbgooncedleaaDoor.P Go.Proofs.YtbkbgooncedleaaDoorW.PrintWords Go.Proofs.YtbkbgooncedleaaDoorW.PrintLast Go.Proofs.YtbkbgooncedleaaDoorW.PrintMore
theorem joins_main (a b : List Int) (ha : wfL a) (hb : wfL b) (h1 : a.length ≤ 6) (h2 : b.length ≤ 6) : Ev (fun k => balustradelaw02_BitsJoins.j0 k a b false) true := by
  have hx := reflist_ev a ha (by omega)
  have hy := reflist_ev b hb (by omega)
  have mx_ := mem_listN a
  have my_ := mem_listN b
  have lx := listN_len (64 * a.length) (bitL a)
  have ly := listN_len (64 * b.length) (bitL b)
  have hSI := sameInts_ev (listN (64 * a.length) (bitL a)) (listN (64 * b.length) (bitL b)) (by omega)
  have hSE := listN_eq (a := a) (b := b)
  generalize listN (64 * a.length) (bitL a) = x at *
  generalize listN (64 * b.length) (bitL b) = y at *
  obtain ⟨o, ho, _, o2, o3⟩ := sorted_ev (x ++ y) (by simp; omega)
  rw [List.length_append] at o3
  obtain ⟨r1, hr1, f1⟩ := or_ev a b (by omega)
  obtain ⟨r2, hr2, f2⟩ := and_ev a b (by omega)
  obtain ⟨r3, hr3, f3⟩ := less_ev a b (by omega)
  obtain ⟨w1, b1⟩ := or_bit ha hb f1
  obtain ⟨w2, b2⟩ := and_bit ha hb f2
  obtain ⟨w3, b3⟩ := less_bit ha hb f3
  have hin := in_ev x y (by omega) (by omega)
  have hout := out_ev x y (by omega) (by omega)
  have lin := List.length_filter_le (fun z => decide (z ∈ y)) x
  have lout := List.length_filter_le (fun z => !decide (z ∈ y)) x
  obtain ⟨q1, hq1, l1, v1, c1⟩ := refwords_ev (max a.length b.length) o (by omega) (by omega)
  obtain ⟨q2, hq2, l2, v2, c2⟩ := refwords_ev (min a.length b.length) (x.filter (fun z => decide (z ∈ y))) (by omega) (by omega)
  obtain ⟨q3, hq3, l3, v3, c3⟩ := refwords_ev a.length (x.filter (fun z => !decide (z ∈ y))) (by omega) (by omega)
  have e1 : r1 = q1 := by
    apply ext_bits w1 v1 (by rw [f1.1, l1])
    intro i hi
    rw [f1.1] at hi
    rw [b1, c1]
    apply bool_iff
    have := o2 (i : Int)
    rw [List.mem_append, mx_, my_] at this
    simp only [Bool.or_eq_true, Bool.and_eq_true, decide_eq_true_eq, this]
    exact ⟨fun h => ⟨hi, h⟩, fun h => h.2⟩
  have e2 : r2 = q2 := by
    apply ext_bits w2 v2 (by rw [f2.1, l2])
    intro i hi
    rw [f2.1] at hi
    rw [b2, c2]
    apply bool_iff
    simp only [Bool.and_eq_true, decide_eq_true_eq, List.mem_filter, mx_, my_]
    exact ⟨fun h => ⟨hi, h⟩, fun h => h.2⟩
  have e3 : r3 = q3 := by
    apply ext_bits w3 v3 (by rw [f3.1, l3])
    intro i hi
    rw [f3.1] at hi
    rw [b3, c3]
    apply bool_iff
    simp only [Bool.and_eq_true, decide_eq_true_eq, List.mem_filter, mx_, my_, Bool.not_eq_true', decide_eq_false_iff_not, Bool.not_eq_true]
    exact ⟨fun h => ⟨hi, h⟩, fun h => h.2⟩
  subst e1 e2 e3
  have k1 := words_ev r1 r1 (by rw [l1]; omega)
  have k2 := words_ev r2 r2 (by rw [l2]; omega)
  have k3 := words_ev r3 r3 (by rw [l3]; omega)
  have k4 := words_ev a a (by omega)
  have k5 := words_ev b b (by omega)
  simp only [decide_true] at k1 k2 k3 k4 k5
  obtain ⟨t, ht, ht'⟩ := same_ev a b ha hb (by omega)
  have et : t = decide (x = y) := bool_iff (by rw [ht', decide_eq_true_eq, hSE])
  subst et
  apply Ev.step
  · intro k
    rw [balustradelaw02_BitsJoins.j0, if_neg (by decide), copied_val a (by omega), Option.bind_some, copied_val b (by omega), Option.bind_some, mx_nat, mn_nat]
  · refine hx.bind (hy.bind ?_)
    simp only [ints_val x (by omega), Option.bind_some]
    have hlen : x.length + y.length < 17592186044416 := by omega
    simp only [if_pos hlen]
    refine ho.bind (hr1.bind (hq1.bind (k1.bind ?_)))
    simp only [if_true]
    refine hr2.bind (hin.bind (hq2.bind (k2.bind ?_)))
    simp only [if_true]
    refine hr3.bind (hout.bind (hq3.bind (k3.bind ?_)))
    simp only [if_true]
    refine ht.bind (hSI.bind ?_)
    simp only [beq_self_eq_true, if_true]
    refine k4.bind ?_
    simp only [if_true]
    refine k5.bind ?_
    simp only [if_true]
    exact works_ev.bind (Ev.now _)
theorem BitsJoins : balustradelaw02_BitsJoins.Pure := by
  intro a b _ _ ha _ _ hb
  have ha' : wfL a := fun x hx => w64_wf (ha x hx)
  have hb' : wfL b := fun x hx => w64_wf (hb x hx)
  apply Ev.rounds (g := fun k => balustradelaw02_BitsJoins.f k a b)
  have hw : Ev (fun k => balustradelaw02_BitsJoins.j0 k a b true) true := by
    apply Ev.step
    · intro k
      rw [balustradelaw02_BitsJoins.j0, if_pos rfl]
    · exact works_ev.bind (Ev.now _)
  by_cases h1 : a.length ≤ 6
  · by_cases h2 : b.length ≤ 6
    · refine Ev.congr (fun k => ?_) (joins_main a b ha' hb' h1 h2)
      rw [balustradelaw02_BitsJoins.f, if_neg (by omega), decide_eq_false (by omega)]
    · refine Ev.congr (fun k => ?_) hw
      rw [balustradelaw02_BitsJoins.f, if_neg (by omega), decide_eq_true (by omega)]
  · refine Ev.congr (fun k => ?_) hw
    rw [balustradelaw02_BitsJoins.f, if_pos (by omega)]
end Go.Proofs.YtbkbgooncedleaaDoor.Pure

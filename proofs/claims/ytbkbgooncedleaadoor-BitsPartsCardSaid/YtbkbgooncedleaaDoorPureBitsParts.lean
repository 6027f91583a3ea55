/- For any two sets of words and any number, the law BitsParts answers true: what is in a set is in just one of what it has in common with another one, and what it has alone; no condition beside those of the row. -/
import Derived.Test.YtbkbgooncedleaaDoorP11
import Derived.Test.YtbkbgooncedleaaDoorBits
namespace Go.Proofs.YtbkbgooncedleaaDoor.Pure
open Go.RowKit Go.Proofs.YtbkbgooncedleaaDoor.P Go.Proofs.YtbkbgooncedleaaDoorW.PrintWords Go.Proofs.YtbkbgooncedleaaDoorW.PrintLast Go.Proofs.YtbkbgooncedleaaDoorW.PrintMore
/-! ### BitsParts -/
theorem filter_parts (n : Nat) (p q : Nat → Bool) : (listN n (fun i => p i && q i)).length + (listN n (fun i => p i && !q i)).length = (listN n p).length := by
  induction n with
  | zero => rfl
  | succ n ih =>
    rw [listN_snoc, listN_snoc, listN_snoc]
    simp only [List.length_append]
    cases hp : p n <;> cases hq : q n <;> simp <;> omega
theorem listN_ext {n m : Nat} {p q : Nat → Bool} (h : ∀ i : Nat, (i < n ∧ p i = true) ↔ (i < m ∧ q i = true)) : listN n p = listN m q := by
  apply sorted_ext _ _ (listN_sorted _ _) (listN_sorted _ _)
  intro x
  rw [listN_mem, listN_mem]
  constructor
  · rintro ⟨j, rfl, h2⟩; exact ⟨j, rfl, (h j).1 h2⟩
  · rintro ⟨j, rfl, h2⟩; exact ⟨j, rfl, (h j).2 h2⟩
theorem bit_lt {s : List Int} {i : Nat} (h : bitL s i = true) : i < 64 * s.length := by
  by_cases hi : i < 64 * s.length
  · exact hi
  · rw [bitL_out s i (by omega)] at h; cases h
theorem parts_main (a b : List Int) (ha : wfL a) (hb : wfL b) (h1 : a.length ≤ 6) (h2 : b.length ≤ 6) (v : Int) (hv : v ≤ 9223372036854775807) : Ev (fun k => balustradelaw02_BitsParts.j0 k a b v false) true := by
  obtain ⟨r2, hr2, f2⟩ := and_ev a b (by omega)
  obtain ⟨r3, hr3, f3⟩ := less_ev a b (by omega)
  obtain ⟨w2, b2⟩ := and_bit ha hb f2
  obtain ⟨w3, b3⟩ := less_bit ha hb f3
  have l2 := f2.1
  have l3 := f3.1
  obtain ⟨r1, hr1, f1⟩ := or_ev r2 r3 (by omega)
  obtain ⟨w1, b1⟩ := or_bit w2 w3 f1
  have l1 := f1.1
  obtain ⟨t, ht, ht'⟩ := same_ev r1 a w1 ha (by omega)
  obtain rfl : t = true := ht'.2 (fun i => by
    rw [b1, b2, b3]
    cases bitL a i <;> cases bitL b i <;> rfl)
  have c2 := count_ev r2 w2 (by omega)
  have c3 := count_ev r3 w3 (by omega)
  have ca := count_ev a ha (by omega)
  have hsum : (listN (64 * r2.length) (bitL r2)).length + (listN (64 * r3.length) (bitL r3)).length = (listN (64 * a.length) (bitL a)).length := by
    rw [← filter_parts (64 * a.length) (bitL a) (bitL b)]
    congr 1
    · congr 1
      apply listN_ext
      intro i
      constructor
      · rintro ⟨h, h2⟩
        rw [b2] at h2
        have := bit_lt (s := a) (i := i) (by cases hh : bitL a i with | true => rfl | false => rw [hh] at h2; cases h2)
        exact ⟨this, h2⟩
      · rintro ⟨h, h2⟩
        have h3 : bitL r2 i = true := by rw [b2]; exact h2
        exact ⟨bit_lt h3, h3⟩
    · congr 1
      apply listN_ext
      intro i
      constructor
      · rintro ⟨h, h2⟩
        rw [b3] at h2
        exact ⟨by omega, h2⟩
      · rintro ⟨h, h2⟩
        have h3 : bitL r3 i = true := by rw [b3]; exact h2
        exact ⟨bit_lt h3, h3⟩
  have la := listN_len (64 * a.length) (bitL a)
  have key : Ev (fun k => (bits_Or.f k r2 r3).bind fun t429 => ((bits_Same.f k t429 a).bind fun t432 => (if t432 = true then ((bits_Set_Count.f k r2).bind fun t433 => ((bits_Set_Count.f k r3).bind fun t434 => ((bits_Set_Count.f k a).bind fun t435 => (if (wrap64 (t433 + t434)) = t435 then ((balustradelaw02_works.f k).bind fun t436 => (some t436)) else (some false))))) else (some false)))) true := by
    refine hr1.bind (ht.bind ?_)
    simp only [if_true]
    refine c2.bind (c3.bind (ca.bind ?_))
    have e : wrap64 (((listN (64 * r2.length) (bitL r2)).length : Int) + ((listN (64 * r3.length) (bitL r3)).length : Int)) = ((listN (64 * a.length) (bitL a)).length : Int) := by
      rw [wrap_id (by omega) (by omega)]; omega
    simp only [if_pos e]
    exact works_ev.bind (Ev.now _)
  have hb2 := has_val w2 hv
  have hb3 := has_val w3 hv
  have hba := has_val ha hv
  rw [b2] at hb2
  rw [b3] at hb3
  apply Ev.step
  · intro k
    rw [balustradelaw02_BitsParts.j0, if_neg (by decide), copied_val a (by omega), Option.bind_some, copied_val b (by omega), Option.bind_some]
  · refine hr2.bind (hr3.bind ?_)
    simp only [hb2, hb3, hba, Option.bind_some]
    cases h0 : decide (0 ≤ v) <;> cases hA : bitL a v.toNat <;> cases hB : bitL b v.toNat <;> simpa using key
theorem BitsParts : balustradelaw02_BitsParts.Pure := by
  intro a b v _ _ ha _ _ hb hv
  have ha' : wfL a := fun x hx => w64_wf (ha x hx)
  have hb' : wfL b := fun x hx => w64_wf (hb x hx)
  apply Ev.rounds (g := fun k => balustradelaw02_BitsParts.f k a b v)
  have hw : Ev (fun k => balustradelaw02_BitsParts.j0 k a b v true) true := by
    apply Ev.step
    · intro k
      rw [balustradelaw02_BitsParts.j0, if_pos rfl]
    · exact works_ev.bind (Ev.now _)
  by_cases h1 : a.length ≤ 6
  · by_cases h2 : b.length ≤ 6
    · refine Ev.congr (fun k => ?_) (parts_main a b ha' hb' h1 h2 v (i64_wf hv).2)
      rw [balustradelaw02_BitsParts.f, if_neg (by omega), decide_eq_false (by omega)]
    · refine Ev.congr (fun k => ?_) hw
      rw [balustradelaw02_BitsParts.f, if_neg (by omega), decide_eq_true (by omega)]
  · refine Ev.congr (fun k => ?_) hw
    rw [balustradelaw02_BitsParts.f, if_pos (by omega)]
end Go.Proofs.YtbkbgooncedleaaDoor.Pure

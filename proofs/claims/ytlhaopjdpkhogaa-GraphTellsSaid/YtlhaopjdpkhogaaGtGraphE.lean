/- A text of this claim, what is not used left out. -/
import Derived.Test.YtlhaopjdpkhogaaGtGraphD
import Derived.Test.YtlhaopjdpkhogaaGtP0
import Derived.Test.YtlhaopjdpkhogaaGtP14
import Derived.Test.YtlhaopjdpkhogaaGtP15
import Derived.Test.YtlhaopjdpkhogaaGtP19
set_option linter.unusedVariables false
namespace Go.Proofs.Ytlhaopjdpkhogaa.Pure
open Go.RowKit Go.Proofs.Ytlhaopjdpkhogaa.P Go.Proofs.YtlhaopjdpkhogaaW.PrintWords Go.Proofs.YtlhaopjdpkhogaaW.PrintLast Go.Proofs.YtlhaopjdpkhogaaW.PrintMore
def revW (x : List Int) (i j : Nat) : List Int := (List.range x.length).map (fun p => if i ≤ p ∧ p ≤ j then x.getD (i + j - p) 0 else x.getD p 0)
theorem getD_setI (l : List Int) (a : Nat) (v : Int) (p : Nat) (ha : a < l.length) : (l.set a v).getD p 0 = if p = a then v else l.getD p 0 := by
  rw [List.getD_eq_getElem?_getD, List.getD_eq_getElem?_getD, List.getElem?_set]
  by_cases h : a = p
  · subst h; simp [ha]
  · simp [h, Ne.symm h]
theorem range_self (x : List Int) : (List.range x.length).map (fun p => x.getD p 0) = x := by
  apply List.ext_getElem (by simp)
  intro i h1 h2
  simp [List.getD_eq_getElem?_getD, h2]
theorem rev_from : ∀ d (i j : Nat) (x : List Int), j - i ≤ d → j < x.length → x.length < 4611686018427387904 → Ev (fun k => slices_Reverse_int_int.l0 k x (i : Int) (j : Int)) (revW x i j) := by
  have stop : ∀ (i j : Nat) (x : List Int), ¬ i < j → Ev (fun k => slices_Reverse_int_int.l0 k x (i : Int) (j : Int)) (revW x i j) := fun i j x h => by
    have e : revW x i j = x := by
      conv => rhs; rw [← range_self x]
      unfold revW
      apply List.map_congr_left
      intro p _
      by_cases hp : i ≤ p ∧ p ≤ j
      · rw [if_pos hp, show i + j - p = p by omega]
      · rw [if_neg hp]
    rw [e]
    exact Ev.step (fun k => by rw [slices_Reverse_int_int.l0, if_neg (by omega)]) (Ev.now _)
  intro d
  induction d with
  | zero => intro i j x h _ _; exact stop i j x (by omega)
  | succ d ih =>
    intro i j x h hj hx
    by_cases hij : i < j
    · refine Ev.step (f := fun k => slices_Reverse_int_int.l0 k ((x.set i (rd x (j : Int))).set j (rd x (i : Int))) (((i + 1 : Nat) : Int)) (((j - 1 : Nat) : Int))) (fun k => by
        rw [slices_Reverse_int_int.l0, if_pos (by omega), if_pos (by omega), if_pos (by omega), if_pos (by omega), if_pos (by omega), wrap_succ i (by omega), wrap_id (by omega) (by omega), Int.toNat_natCast, Int.toNat_natCast, show (j : Int) - 1 = ((j - 1 : Nat) : Int) by omega]) ?_
      have e : revW x i j = revW ((x.set i (rd x (j : Int))).set j (rd x (i : Int))) (i + 1) (j - 1) := by
        unfold revW
        rw [List.length_set, List.length_set]
        apply List.map_congr_left
        intro p _
        have r1 : ∀ q, ((x.set i (rd x (j : Int))).set j (rd x (i : Int))).getD q 0 = if q = j then x.getD i 0 else if q = i then x.getD j 0 else x.getD q 0 := fun q => by
          rw [getD_setI _ _ _ _ (by simpa using hj), getD_setI _ _ _ _ (by omega)]; rfl
        rw [r1, r1]
        by_cases h1 : p = i
        · subst h1
          rw [if_pos ⟨Nat.le_refl _, by omega⟩, if_neg (by omega), if_neg (by omega), if_pos rfl, show p + j - p = j by omega]
        · by_cases h2 : p = j
          · subst h2
            rw [if_pos ⟨by omega, Nat.le_refl _⟩, if_neg (by omega), if_pos rfl, show i + p - p = i by omega]
          · by_cases h3 : i ≤ p ∧ p ≤ j
            · rw [if_pos h3, if_pos (by omega), if_neg (by omega), if_neg (by omega), show i + 1 + (j - 1) - p = i + j - p by omega]
            · rw [if_neg h3, if_neg (by omega), if_neg h2, if_neg h1]
      rw [e]
      exact ih (i + 1) (j - 1) _ (by omega) (by simp; omega) (by simpa using hx)
    · exact stop i j x hij
theorem reverse_ev (l : List Int) (hl : l.length < 4611686018427387904) : Ev (fun k => slices_Reverse_int_int.f k l) l.reverse := by
  unfold slices_Reverse_int_int.f
  by_cases h : l.length = 0
  · have e : l = [] := List.eq_nil_of_length_eq_zero h
    subst e
    have hw : wrap64 ((([] : List Int).length : Int) - 1) = -1 := by
      show wrap64 ((0 : Int) - 1) = -1
      rw [wrap_id (by omega) (by omega)]; rfl
    rw [hw]
    exact Ev.step (f := fun _ => some []) (fun k => by rw [slices_Reverse_int_int.l0, if_neg (by omega)]) (Ev.now _)
  · have hw : wrap64 ((l.length : Int) - 1) = ((l.length - 1 : Nat) : Int) := by rw [wrap_id (by omega) (by omega)]; omega
    rw [hw]
    have e : l.reverse = revW l 0 (l.length - 1) := by
      apply List.ext_getElem (by simp [revW])
      intro p h1 h2
      have hp : p < l.length := by simpa using h1
      simp only [revW, List.getElem_reverse, List.getElem_map, List.getElem_range]
      rw [if_pos (by omega), List.getD_eq_getElem?_getD, List.getElem?_eq_getElem (by omega)]
      simp
    rw [e]
    exact rev_from l.length 0 (l.length - 1) l (by omega) (by omega) hl
theorem rOrder_l0 (l : List Int) (hl : l.length < 1000) : ∀ m, m ≤ l.length → Ev (fun k => balustraderef17_Order.l0 k l ((l.drop m).reverse) ((m : Int) - 1)) l.reverse := by
  intro m
  induction m with
  | zero =>
    intro _
    rw [List.drop_zero]
    exact Ev.step (fun k => by rw [balustraderef17_Order.l0, if_neg (by omega)]) (Ev.now _)
  | succ m ih =>
    intro hm
    have e : ((m + 1 : Nat) : Int) - 1 = (m : Int) := by omega
    rw [e]
    have h := ih (by omega)
    rw [List.drop_eq_getElem_cons (by omega : m < l.length), List.reverse_cons] at h
    exact Ev.step (fun k => by rw [balustraderef17_Order.l0, if_pos (by omega), if_pos (by omega), if_pos (by omega), if_pos (by simp; omega), rd_nat l m (by omega), wrap_id (by omega) (by omega)]) h
def Rl (inn : List Int) (seen : List Bool) : Prop := (∀ x : Nat, x < seen.length → (seen.getD x false = true ↔ (x : Int) ∈ inn)) ∧ inn.length + gtUn seen ≤ seen.length
theorem left_ev (s : List (List Int)) (hs : s.length ≤ 40) (hr : ∀ l ∈ s, l.length ≤ 1000) (hv : ∀ l ∈ s, ∀ t ∈ l, 0 ≤ t ∧ t < (s.length : Int)) : ∀ n (k : Int) (st : List Bool × List Int) (inn : List Int), 0 ≤ k → k < (s.length : Int) → st.1.length = s.length → gtUn st.1 ≤ n → Rl inn st.1 → st.2.length + gtUn st.1 ≤ s.length →
    ∃ inn', Ev (fun m => balustraderef17_left.f m s inn st.2 k) (inn', (gtGo s (-1) n k st).2) ∧ Rl inn' (gtGo s (-1) n k st).1 := by
  intro n
  induction n with
  | zero =>
    intro k st inn h0 h1 hl hu hR hb
    show ∃ inn', Ev (fun m => balustraderef17_left.f m s inn st.2 k) (inn', st.2) ∧ Rl inn' st.1
    have hz := gt_zero st.1 (by omega) k.toNat (by omega)
    have hm : k ∈ inn := by have := (hR.1 k.toNat (by omega)).1 hz; rwa [show ((k.toNat : Nat) : Int) = k by omega] at this
    refine ⟨inn, Ev.step (fun m => by rw [balustraderef17_left.f]) (Ev.bind (hasInt_ev inn k (by have := hR.2; omega)) ?_), hR⟩
    exact Ev.congr (fun m => by rw [if_pos (decide_eq_true hm)]) (Ev.now _)
  | succ n ih =>
    intro k st inn h0 h1 hl hu hR hb
    have hkk : ((k.toNat : Nat) : Int) = k := by omega
    have hiff := hR.1 k.toNat (by omega)
    rw [hkk] at hiff
    by_cases hm : k ∈ inn
    · have e : gtGo s (-1) (n + 1) k st = st := by unfold gtGo; rw [if_pos (.inr (hiff.2 hm))]
      rw [e]
      refine ⟨inn, Ev.step (fun m => by rw [balustraderef17_left.f]) (Ev.bind (hasInt_ev inn k (by have := hR.2; omega)) ?_), hR⟩
      exact Ev.congr (fun m => by rw [if_pos (decide_eq_true hm)]) (Ev.now _)
    · have hkf : st.1.getD k.toNat false = false := by
        cases hx : st.1.getD k.toNat false with
        | false => rfl
        | true => exact absurd (hiff.1 hx) hm
      obtain ⟨r, hrr⟩ : ∃ r, s.getD k.toNat [] = r := ⟨_, rfl⟩
      have hmem : r ∈ s := by rw [← hrr, List.getD_eq_getElem?_getD, List.getElem?_eq_getElem (by omega)]; exact List.getElem_mem _
      have hrv := hv r hmem
      have hrl := hr r hmem
      have hrd : rd_L2 s k = r := hrr
      have hlt : k.toNat < st.1.length := by omega
      have hu2 := gtUn_set_lt st.1 k.toNat hlt hkf
      have e : gtGo s (-1) (n + 1) k st = ((r.foldl (fun q t => gtGo s (-1) n t q) (st.1.set k.toNat true, st.2)).1, (r.foldl (fun q t => gtGo s (-1) n t q) (st.1.set k.toNat true, st.2)).2 ++ [k]) := by
        conv => lhs; unfold gtGo
        rw [if_neg (by rintro (h | h); · omega
                       · rw [hkf] at h; cases h), hrr]
      have loop : ∀ d j, r.length - j = d → j ≤ r.length → ∀ (q : List Bool × List Int) (inn : List Int), q.1.length = s.length → gtUn q.1 ≤ n → Rl inn q.1 → q.2.length + gtUn q.1 ≤ s.length →
          ∃ inn', Ev (fun m => balustraderef17_left.l0 m s inn q.2 k (j : Int)) (inn', ((r.drop j).foldl (fun q t => gtGo s (-1) n t q) q).2 ++ [k]) ∧ Rl inn' ((r.drop j).foldl (fun q t => gtGo s (-1) n t q) q).1 := by
        intro d
        induction d with
        | zero =>
          intro j hd hj q inn hq hun hR hb
          rw [List.drop_of_length_le (by omega), List.foldl_nil]
          exact ⟨inn, Ev.step (fun m => by rw [balustraderef17_left.l0, if_pos h0, if_pos h1, hrd, if_neg (by omega), if_pos (by omega)]) (Ev.now _), hR⟩
        | succ d ihd =>
          intro j hd hj q inn hq hun hR hb
          have hjl : j < r.length := by omega
          have htv := hrv r[j] (List.getElem_mem hjl)
          obtain ⟨inn1, hE1, hR1⟩ := ih r[j] q inn htv.1 htv.2 hq hun hR hb
          have hlen := gtGo_len s (-1) n r[j] q
          have hcnt := gtGo_cnt s (-1) hv n r[j] q htv.1 htv.2 hq
          obtain ⟨inn2, hE2, hR2⟩ := ihd (j + 1) (by omega) (by omega) (gtGo s (-1) n r[j] q) inn1 (hlen.1.trans hq) (Nat.le_trans hlen.2 hun) hR1 (by omega)
          rw [List.drop_eq_getElem_cons hjl, List.foldl_cons]
          refine ⟨inn2, Ev.step (fun m => by rw [balustraderef17_left.l0, if_pos h0, if_pos h1, hrd, if_pos (by omega), if_pos (by omega), rd_nat r j hjl, wrap_succ j (by omega)]) (Ev.bind hE1 hE2), hR2⟩
      have hR2 : Rl (inn ++ [k]) (st.1.set k.toNat true) := by
        refine ⟨fun x hx => ?_, ?_⟩
        · rw [getD_set, List.mem_append, List.mem_singleton, hR.1 x (by simpa using hx)]
          constructor
          · rintro (⟨h, _⟩ | h)
            · right; omega
            · exact .inl h
          · rintro (h | h)
            · exact .inr h
            · left; exact ⟨by omega, hlt⟩
        · have := hR.2
          simp only [List.length_append, List.length_singleton, List.length_set]
          omega
      obtain ⟨inn', hE, hR'⟩ := loop r.length 0 (by omega) (Nat.zero_le _) (st.1.set k.toNat true, st.2) (inn ++ [k]) (by simpa using hl) (by show gtUn (st.1.set k.toNat true) ≤ n; omega) hR2 (by show st.2.length + gtUn (st.1.set k.toNat true) ≤ s.length; omega)
      rw [List.drop_zero] at hE hR'
      rw [e]
      refine ⟨inn', Ev.step (fun m => by rw [balustraderef17_left.f]) (Ev.bind (hasInt_ev inn k (by have := hR.2; omega)) ?_), hR'⟩
      exact Ev.congr (fun m => by rw [if_neg (by rw [decide_eq_false hm]; simp), if_pos (by have := hR.2; omega)]; rfl) hE
theorem un_rep (n : Nat) : gtUn (List.replicate n false) = n := by unfold gtUn; simp
theorem gtAll_cnt (s : List (List Int)) (but : Int) (hv : ∀ l ∈ s, ∀ t ∈ l, 0 ≤ t ∧ t < (s.length : Int)) : (gtAll s but).2.length ≤ s.length := by
  unfold gtAll
  by_cases h : 0 < s.length
  · have := gtGo_cnt s but hv s.length 0 (List.replicate s.length false, []) (by omega) (by omega) (by simp)
    simp only [List.length_nil, un_rep] at this
    omega
  · have e : s = [] := List.eq_nil_of_length_eq_zero (by omega)
    subst e
    exact Nat.le_refl _
theorem gOrder_ev (bl : List (List S24)) (p0 : ByteArray) (p1 p2 : Int) (p3 : List Int) (hl : bl.length ≤ 40) (hg : GoodB bl) : Ev (fun k => graph_Order.f k p0 p1 p2 p3 bl) (gtAll (succsV bl) (-1)).2.reverse := by
  unfold graph_Order.f
  refine Ev.bind (gSuccs_ev bl p0 p1 p2 p3 (by omega) hg) ?_
  refine Ev.congr (fun k => if_pos (succsV_ok bl hl)) (reverse_ev _ ?_)
  have := gtAll_cnt (succsV bl) (-1) (fun l h => (succsV_good bl l h).2)
  have hln := succsV_len bl
  omega
theorem rOrder_ev (bl : List (List S24)) (p0 : ByteArray) (p1 p2 : Int) (p3 : List Int) (hl : bl.length ≤ 40) (hg : GoodB bl) : Ev (fun k => balustraderef17_Order.f k p0 p1 p2 p3 bl) (gtAll (succsV bl) (-1)).2.reverse := by
  unfold balustraderef17_Order.f
  have hln := succsV_len bl
  by_cases h0 : bl.length = 0
  · have e : bl = [] := List.eq_nil_of_length_eq_zero h0
    subst e
    exact Ev.congr (f := fun _ => some []) (fun k => if_pos rfl) (Ev.now _)
  · refine Ev.congr (fun k => if_neg (by omega)) ?_
    refine Ev.bind (rSuccs_ev bl p0 p1 p2 p3 (by omega) hg) ?_
    have hv : ∀ l ∈ succsV bl, ∀ t ∈ l, 0 ≤ t ∧ t < ((succsV bl).length : Int) := fun l h => (succsV_good bl l h).2
    obtain ⟨inn, hE, _⟩ := left_ev (succsV bl) (by omega) (succsV_row bl) hv (succsV bl).length 0 (List.replicate (succsV bl).length false, []) [] (by omega) (by omega) (by simp) (by rw [show ((List.replicate (succsV bl).length false, ([] : List Int)) : List Bool × List Int).1 = List.replicate (succsV bl).length false from rfl, un_rep]; exact Nat.le_refl _)
      ⟨fun x _ => by rw [show ((List.replicate (succsV bl).length false, ([] : List Int)) : List Bool × List Int).1 = List.replicate (succsV bl).length false from rfl, rep_false]; simp, by simp [un_rep]⟩ (by simp [un_rep])
    refine Ev.bind hE ?_
    have hc := gtAll_cnt (succsV bl) (-1) hv
    obtain ⟨l, hl2⟩ : ∃ l, (gtAll (succsV bl) (-1)).2 = l := ⟨_, rfl⟩
    have h2 : (gtGo (succsV bl) (-1) (succsV bl).length 0 (List.replicate (succsV bl).length false, [])).2 = l := hl2
    rw [hl2] at hc ⊢
    rw [h2]
    have := rOrder_l0 l (by omega) l.length (Nat.le_refl _)
    rw [List.drop_length] at this
    refine Ev.congr (fun k => ?_) this
    show balustraderef17_Order.l0 k l [] (wrap64 ((l.length : Int) - 1)) = _
    rw [wrap_id (by omega) (by omega)]
    rfl
end Go.Proofs.Ytlhaopjdpkhogaa.Pure

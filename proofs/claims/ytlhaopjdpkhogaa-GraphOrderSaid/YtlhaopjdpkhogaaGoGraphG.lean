/- A text of this claim, what is not used left out. -/
import Derived.Test.YtlhaopjdpkhogaaGoGraphF
import Derived.Test.YtlhaopjdpkhogaaGoP0
import Derived.Test.YtlhaopjdpkhogaaGoP14
import Derived.Test.YtlhaopjdpkhogaaGoP15
import Derived.Test.YtlhaopjdpkhogaaGoP19
import Derived.Test.YtlhaopjdpkhogaaGoP22
set_option linter.unusedVariables false
namespace Go.Proofs.Ytlhaopjdpkhogaa.Pure
open Go.RowKit Go.Proofs.Ytlhaopjdpkhogaa.P Go.Proofs.YtlhaopjdpkhogaaW.PrintWords Go.Proofs.YtlhaopjdpkhogaaW.PrintLast Go.Proofs.YtlhaopjdpkhogaaW.PrintMore
theorem nodup_le {L : List Int} (hn : L.Nodup) : ∀ {r : List Int}, (∀ x ∈ L, x ∈ r) → L.length ≤ r.length := by
  induction L with
  | nil => intro r _; exact Nat.zero_le _
  | cons x L ih =>
    intro r h
    have hx := h x (by simp)
    have h2 := ih (List.nodup_cons.1 hn).2 (r := r.erase x) (fun y hy => by
      have hne : y ≠ x := fun e => (List.nodup_cons.1 hn).1 (e ▸ hy)
      exact (List.mem_erase_of_ne hne).2 (h y (by simp [hy])))
    have h3 := List.length_erase_of_mem hx
    have h4 := List.length_pos_of_mem hx
    rw [List.length_cons]
    omega
theorem count_tf (l : List Bool) : l.count true + gtUn l = l.length := by
  unfold gtUn
  induction l with
  | nil => rfl
  | cons b l ih => cases b <;> simp <;> omega
structure Ordered (L : List Int) (P : List (List Int)) (R : List Bool) : Prop where
  short : L.length < 1000 ∧ R.length < 1000 ∧ P.length = R.length
  once : L.Nodup
  num : R.count true = L.length
  in_ : ∀ x ∈ L, 0 ≤ x ∧ x < (R.length : Int) ∧ R.getD x.toNat false = true
  zero : ∀ i, (h : i < L.length) → (i = 0 ↔ L[i] = 0)
  led : ∀ i, (h : i < L.length) → i ≠ 0 → ∃ y ∈ rd_L2 P L[i], y ∈ L.take i
  row : ∀ x, (rd_L2 P x).length < 1000
theorem gO_l2 {L : List Int} {P : List (List Int)} {R : List Bool} (O : Ordered L P R) (c : Int) (i : Nat) (hi : i < L.length) (r : Bool) (h : Ev (fun k => balustradelaw17_GraphOrder.l1 k L P R c (((i + 1 : Nat) : Int))) r) :
    ∀ d j, (rd_L2 P L[i]).length - j = d → j ≤ (rd_L2 P L[i]).length → ∀ ahead : Bool, (ahead = true ∨ ∃ y ∈ (rd_L2 P L[i]).drop j, y ∈ L.take i) → Ev (fun k => balustradelaw17_GraphOrder.l2 k L P R c (i : Int) ahead (j : Int)) r := by
  have hx := rd_nat L i hi
  obtain ⟨h0, h1, _⟩ := O.in_ L[i] (List.getElem_mem hi)
  have hsh := O.short
  have hrow := O.row L[i]
  intro d
  induction d with
  | zero =>
    intro j hd hj ahead ha
    have ha2 : ahead = true := by
      rcases ha with ha | ⟨y, hy, _⟩
      · exact ha
      · rw [List.drop_of_length_le (by omega)] at hy; simp at hy
    subst ha2
    exact Ev.step (fun k => by rw [balustradelaw17_GraphOrder.l2, hx, if_pos (by omega), if_pos (by omega), if_pos h0, if_pos (by omega), if_neg (by omega), if_pos rfl, wrap_succ i (by omega)]) h
  | succ d ih =>
    intro j hd hj ahead ha
    have hjl : j < (rd_L2 P L[i]).length := by omega
    cases ahead with
    | true =>
      exact Ev.step (fun k => by rw [balustradelaw17_GraphOrder.l2, hx, if_pos (by omega), if_pos (by omega), if_pos h0, if_pos (by omega), if_pos (by omega), if_pos rfl, wrap_succ j (by omega)]) (ih (j + 1) (by omega) (by omega) true (.inl rfl))
    | false =>
      obtain ⟨y, hy, hyt⟩ := ha.resolve_left (by simp)
      rw [List.drop_eq_getElem_cons hjl] at hy
      refine Ev.step (fun k => by rw [balustradelaw17_GraphOrder.l2, hx, if_pos (by omega), if_pos (by omega), if_pos h0, if_pos (by omega), if_pos (by omega), if_neg (by simp), if_pos (by omega), if_pos (by omega), Int.toNat_natCast, rd_nat _ j hjl, wrap_succ j (by omega)]) ?_
      refine Ev.bind (hasInt_ev (L.take i) (rd_L2 P L[i])[j] (by rw [List.length_take]; omega)) ?_
      refine ih (j + 1) (by omega) (by omega) _ ?_
      rcases List.mem_cons.1 hy with rfl | hy
      · left; simpa using hyt
      · exact .inr ⟨y, hy, hyt⟩
theorem gO_l1 {L : List Int} {P : List (List Int)} {R : List Bool} (O : Ordered L P R) : ∀ d i, L.length - i = d → i ≤ L.length → Ev (fun k => balustradelaw17_GraphOrder.l1 k L P R (L.length : Int) (i : Int)) true := by
  have hsh := O.short
  intro d
  induction d with
  | zero =>
    intro i hd hi
    exact Ev.step (fun k => by rw [balustradelaw17_GraphOrder.l1, if_neg (by omega), if_pos rfl]) (Ev.bind works17_ev (Ev.now _))
  | succ d ih =>
    intro i hd hi
    have hlt : i < L.length := by omega
    have hx := rd_nat L i hlt
    obtain ⟨h0, h1, h2⟩ := O.in_ L[i] (List.getElem_mem hlt)
    have hz := O.zero i hlt
    have hb : (((i : Int) == 0) != (L[i] == 0)) = false := by
      by_cases h : i = 0
      · have h5 := hz.1 h
        have h6 : (i : Int) = 0 := by omega
        rw [beq_iff_eq.mpr h6, beq_iff_eq.mpr h5]; rfl
      · have h3 : L[i] ≠ 0 := fun e => h (hz.2 e)
        have h4 : (i : Int) ≠ 0 := by omega
        rw [beq_eq_false_iff_ne.mpr h4, beq_eq_false_iff_ne.mpr h3]; rfl
    refine Ev.step (fun k => by rw [balustradelaw17_GraphOrder.l1, hx, if_pos (by omega), if_pos (by omega), if_neg (by omega), if_neg (by omega), if_pos (by omega), if_pos (by omega), if_pos (show rdOf false R L[i] = true from h2), hb]) ?_
    refine Ev.step (fun k => by rw [balustradelaw17_GraphOrder.j3, if_neg (by simp)]) ?_
    refine gO_l2 O _ i hlt true (ih (i + 1) (by omega) (by omega)) _ 0 rfl (Nat.zero_le _) _ ?_
    by_cases h : i = 0
    · left; subst h; rfl
    · right; rw [List.drop_zero]; exact O.led i hlt h
theorem gO_l0 {L : List Int} {P : List (List Int)} {R : List Bool} (O : Ordered L P R) : ∀ d i, R.length - i = d → i ≤ R.length → Ev (fun k => balustradelaw17_GraphOrder.l0 k L P R (((R.take i).count true : Nat) : Int) (i : Int)) true := by
  have hsh := O.short
  intro d
  induction d with
  | zero =>
    intro i hd hi
    obtain rfl : i = R.length := by omega
    rw [List.take_length, O.num]
    exact Ev.step (fun k => by rw [balustradelaw17_GraphOrder.l0, if_neg (by omega)]; rfl) (gO_l1 O L.length 0 (by omega) (Nat.zero_le _))
  | succ d ih =>
    intro i hd hi
    have hlt : i < R.length := by omega
    have hg : R.getD i false = R[i] := by rw [List.getD_eq_getElem?_getD, List.getElem?_eq_getElem hlt]; rfl
    have hc : (R.take i).count true ≤ R.length := Nat.le_trans List.count_le_length (by rw [List.length_take]; omega)
    have h := ih (i + 1) (by omega) (by omega)
    rw [List.take_succ_eq_append_getElem hlt, List.count_append] at h
    cases hb : R[i] with
    | true =>
      rw [hb] at h hg
      refine Ev.step (fun k => by rw [balustradelaw17_GraphOrder.l0, if_pos (by omega), if_pos (by omega), if_pos (by rw [rdOf_nat]; exact hg), wrap_succ i (by omega), wrap_succ _ (by omega)]) ?_
      simpa using h
    | false =>
      rw [hb] at h hg
      refine Ev.step (fun k => by rw [balustradelaw17_GraphOrder.l0, if_pos (by omega), if_pos (by omega), if_neg (by rw [rdOf_nat, hg]; simp), wrap_succ i (by omega)]) ?_
      simpa using h
theorem gtGo_eq (s : List (List Int)) (but : Int) (hv : ∀ l ∈ s, ∀ t ∈ l, 0 ≤ t ∧ t < (s.length : Int)) : ∀ n (k : Int) st, 0 ≤ k → k < (s.length : Int) → st.1.length = s.length → (gtGo s but n k st).2.length + gtUn (gtGo s but n k st).1 = st.2.length + gtUn st.1 := by
  intro n
  induction n with
  | zero => intro k st _ _ _; rfl
  | succ n ih =>
    intro k st h0 h1 hs
    have fold : ∀ (l : List Int), (∀ t ∈ l, 0 ≤ t ∧ t < (s.length : Int)) → ∀ (q : List Bool × List Int), q.1.length = s.length → (l.foldl (fun q t => gtGo s but n t q) q).2.length + gtUn (l.foldl (fun q t => gtGo s but n t q) q).1 = q.2.length + gtUn q.1 := by
      intro l
      induction l with
      | nil => intro _ q _; rfl
      | cons t l ihl =>
        intro hl q hq
        have a1 := ih t q (hl t (by simp)).1 (hl t (by simp)).2 hq
        have a2 := ihl (fun t ht => hl t (by simp [ht])) (gtGo s but n t q) ((gtGo_len s but n t q).1.trans hq)
        simp only [List.foldl_cons]
        omega
    unfold gtGo
    split
    · rfl
    · rename_i hn
      have hk : k.toNat < st.1.length := by omega
      have hf : st.1.getD k.toNat false = false := by
        cases hx : st.1.getD k.toNat false with
        | false => rfl
        | true => exact absurd (.inr hx) hn
      have hu := gtUn_set_lt st.1 k.toNat hk hf
      have hr : ∀ t ∈ s.getD k.toNat [], 0 ≤ t ∧ t < (s.length : Int) := by
        rw [List.getD_eq_getElem?_getD, List.getElem?_eq_getElem (by omega)]
        exact hv _ (List.getElem_mem _)
      have := fold _ hr (st.1.set k.toNat true, st.2) (by simpa using hs)
      simp only [List.length_append, List.length_singleton]
      simp only at this
      omega
theorem prRow_mem (s : List (List Int)) (m t : Nat) (y : Int) : y ∈ prRow s m t ↔ 0 ≤ y ∧ y < (m : Int) ∧ (t : Int) ∈ s.getD y.toNat [] := by
  unfold prRow
  rw [List.mem_map]
  constructor
  · rintro ⟨j, hj, rfl⟩
    rw [List.mem_filter, List.mem_range] at hj
    exact ⟨by omega, by omega, by simpa using hj.2⟩
  · rintro ⟨h0, h1, h2⟩
    exact ⟨y.toNat, List.mem_filter.2 ⟨List.mem_range.2 (by omega), by simpa using h2⟩, by omega⟩
theorem prV_at (s : List (List Int)) (x : Int) (h0 : 0 ≤ x) (h1 : x < (s.length : Int)) : rd_L2 (prV s s.length) x = prRow s s.length x.toNat := by
  unfold rd_L2 prV
  rw [List.getD_eq_getElem?_getD, List.getElem?_map, List.getElem?_range (by omega)]
  rfl
theorem ordered_of (s : List (List Int)) (hs : s.length ≤ 40) (hv : ∀ l ∈ s, ∀ t ∈ l, 0 ≤ t ∧ t < (s.length : Int)) : Ordered (gtAll s (-1)).2.reverse (prV s s.length) (gtAll s (-1)).1 := by
  have hRl := gtAll_len s (-1)
  have hLl := gtAll_cnt s (-1) hv
  have hPl : (prV s s.length).length = s.length := by simp [prV]
  have hrow : ∀ x, (rd_L2 (prV s s.length) x).length < 1000 := fun x => by
    unfold rd_L2
    rw [List.getD_eq_getElem?_getD]
    cases hx : (prV s s.length)[x.toNat]? with
    | none => simp
    | some l =>
      obtain ⟨t, _, rfl⟩ := List.mem_map.1 (List.mem_of_getElem? hx)
      have := prRow_len s s.length t
      show (prRow s s.length t).length < 1000
      omega
  by_cases hz : s.length = 0
  · have e : s = [] := List.eq_nil_of_length_eq_zero hz
    subst e
    exact { short := ⟨by simp [gtAll, gtGo], by simp [gtAll, gtGo], by simp [gtAll, gtGo, prV]⟩, once := by simp [gtAll, gtGo], num := by simp [gtAll, gtGo], in_ := fun x hx => by simp [gtAll, gtGo] at hx, zero := fun i h => by simp [gtAll, gtGo] at h, led := fun i h => by simp [gtAll, gtGo] at h, row := hrow }
  have hl0 : ((List.replicate s.length false, ([] : List Int)) : List Bool × List Int).1.length = s.length := by simp
  have hf : ∀ x : Nat, ((List.replicate s.length false, ([] : List Int)) : List Bool × List Int).1.getD x false = false := fun x => rep_false _ x
  obtain ⟨new, a1, ⟨d1, d2, d3⟩, a3, a4⟩ := go_new s hv s.length 0 (List.replicate s.length false, []) (by omega) (by omega) hl0 (by rw [show ((List.replicate s.length false, ([] : List Int)) : List Bool × List Int).1 = List.replicate s.length false from rfl, un_rep]; exact Nat.le_refl _)
  have hq := gtGo_eq s (-1) hv s.length 0 (List.replicate s.length false, []) (by omega) (by omega) hl0
  obtain ⟨init, hi⟩ := a4 (hf _)
  have hnew : (gtAll s (-1)).2 = new := by unfold gtAll; rw [a1]; rfl
  have hR : (gtAll s (-1)).1 = (gtGo s (-1) s.length 0 (List.replicate s.length false, [])).1 := rfl
  have hcount : (gtAll s (-1)).1.count true = new.length := by
    have h1 := count_tf (gtAll s (-1)).1
    rw [show (gtGo s (-1) s.length 0 (List.replicate s.length false, [])).2 = new from hnew, show (gtGo s (-1) s.length 0 (List.replicate s.length false, [])).1 = (gtAll s (-1)).1 from rfl] at hq
    simp only [List.length_nil, un_rep] at hq
    omega
  rw [hnew] at hLl ⊢
  have hrev : new.reverse = 0 :: init.reverse := by rw [hi]; simp
  have hnd : new.reverse.Nodup := List.pairwise_reverse.2 (d1.imp (fun h => Ne.symm h))
  have hzero : ∀ i, (h : i < new.reverse.length) → (i = 0 ↔ new.reverse[i] = 0) := by
    intro i h
    have h0 : new.reverse[0]'(by omega) = 0 := by simp [hrev]
    constructor
    · rintro rfl; exact h0
    · intro h2
      by_cases hi0 : i = 0
      · exact hi0
      · exact absurd (h0.trans h2.symm) ((List.pairwise_iff_getElem.1 hnd) 0 i (by omega) h (by omega))
  refine { short := ⟨by rw [List.length_reverse]; omega, by omega, by omega⟩, once := hnd, num := by rw [hcount, List.length_reverse], in_ := fun x hx => ?_, zero := hzero, led := fun i h hne => ?_, row := hrow }
  · rw [List.mem_reverse] at hx
    refine ⟨(d2 x hx).1, by rw [hRl]; exact (d2 x hx).2.1, ?_⟩
    rw [hR]
    refine (d3 x.toNat).2 (.inr ?_)
    rw [show ((x.toNat : Nat) : Int) = x by have := (d2 x hx).1; omega]
    exact hx
  · have hsp : new = (new.reverse.drop (i + 1)).reverse ++ new.reverse[i] :: (new.reverse.take i).reverse := by
      have h1 : new.reverse = new.reverse.take i ++ new.reverse[i] :: new.reverse.drop (i + 1) := by
        rw [← List.drop_eq_getElem_cons h, List.take_append_drop]
      have h2 := congrArg List.reverse h1
      rw [List.reverse_reverse, List.reverse_append, List.reverse_cons, List.append_assoc] at h2
      exact h2
    have hxm : new.reverse[i] ∈ new := by rw [← List.mem_reverse]; exact List.getElem_mem h
    rcases a3 _ _ _ hsp with h3 | ⟨y, hy, hx⟩
    · simp at h3
      exact absurd ((hzero i h).2 (by simpa using h3)) hne
    · rw [List.mem_reverse] at hy
      have hyn : y ∈ new := by rw [← List.mem_reverse]; exact List.mem_of_mem_take hy
      refine ⟨y, ?_, hy⟩
      rw [prV_at s _ (d2 _ hxm).1 (d2 _ hxm).2.1, prRow_mem]
      refine ⟨(d2 y hyn).1, (d2 y hyn).2.1, ?_⟩
      rw [show (((new.reverse[i]).toNat : Nat) : Int) = new.reverse[i] by have := (d2 _ hxm).1; omega]
      exact hx
theorem graphOrder_ev (bl : List (List S24)) (p0 : ByteArray) (p1 p2 : Int) (p3 : List Int) (hl : bl.length < 4611686018427387904) (hg : GoodB bl) : Ev (fun k => balustradelaw17_GraphOrder.f k p0 p1 p2 p3 bl) true := by
  unfold balustradelaw17_GraphOrder.f
  obtain ⟨v, hv, hv2⟩ := few_ev bl p0 p1 p2 p3 hl
  have wk : Ev (fun k => (balustradelaw17_works.f k).bind fun t => some t) true := Ev.bind works17_ev (Ev.now _)
  refine Ev.bind hv ?_
  cases v with
  | false => exact Ev.congr (fun k => if_neg (by simp)) wk
  | true =>
    have h40 := hv2 rfl
    have hln := succsV_len bl
    have O := ordered_of (succsV bl) (by omega) (fun l h => (succsV_good bl l h).2)
    refine Ev.congr (fun k => if_pos rfl) ?_
    have hgr : Ev (fun k => graph_Reach.f k p0 p1 p2 p3 bl) (gtAll (succsV bl) (-1)).1 := Ev.bind (gWithout_ev bl p0 p1 p2 p3 (-1) h40 hg) (Ev.now _)
    refine Ev.bind (gOrder_ev bl p0 p1 p2 p3 h40 hg) (Ev.bind (gPreds_ev bl p0 p1 p2 p3 h40 hg) (Ev.bind hgr ?_))
    have hPl : (prV (succsV bl) (succsV bl).length).length = bl.length := by simp [prV, hln]
    have hRl : (gtAll (succsV bl) (-1)).1.length = bl.length := by rw [gtAll_len, hln]
    refine Ev.congr (fun k => by rw [if_pos (by omega), if_pos (by omega)]) ?_
    have hsh := O.short
    obtain ⟨r, hr, _, hm, hle⟩ := sorted_ev (gtAll (succsV bl) (-1)).2.reverse (by omega)
    have hge := nodup_le O.once (r := r) (fun x hx => (hm x).2 hx)
    refine Ev.bind hr ?_
    have e : ((r.length : Int) != ((gtAll (succsV bl) (-1)).2.reverse.length : Int)) = false := by
      have : (r.length : Int) = ((gtAll (succsV bl) (-1)).2.reverse.length : Int) := by omega
      rw [this]; simp
    rw [e]
    refine Ev.step (fun k => by rw [balustradelaw17_GraphOrder.j0, if_neg (by simp)]) ?_
    have := gO_l0 O (gtAll (succsV bl) (-1)).1.length 0 (by omega) (Nat.zero_le _)
    simpa using this
end Go.Proofs.Ytlhaopjdpkhogaa.Pure

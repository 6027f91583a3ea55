/- A part of it. -/
import Derived.Test.YtomopjomapkmjaaDtBaseA
import Derived.Test.YtomopjomapkmjaaDtInstrB
import Derived.Test.YtomopjomapkmjaaDtP0
import Derived.Test.YtomopjomapkmjaaDtP4
import Derived.Test.YtomopjomapkmjaaDtP9
import Derived.Test.YtomopjomapkmjaaDtP10
import Derived.Test.YtomopjomapkmjaaDtP11
set_option linter.unusedVariables false
namespace Go.Proofs.Ytomopjomapkmjaa.Pure
open Go.RowKit Go.Proofs.Ytomopjomapkmjaa.P Go.Proofs.YtomopjomapkmjaaW.PrintWords Go.Proofs.YtomopjomapkmjaaW.PrintLast Go.Proofs.YtomopjomapkmjaaW.PrintMore
def tgt (i : S29) : List Int := targetsV i.f0 i.f1 i.f2 i.f3 i.f4 i.f5 i.f6 i.f7 i.f8
def lastT (b : List S29) : List Int := if b.length = 0 then [] else tgt (rd_T29 b ((b.length : Int) - 1))
def keep (n : Nat) (l : List Int) : List Int := l.filter (fun x => decide (x < (n : Int)))
def sucV (n : Nat) (b : List S29) : List Int := keep n (lastT b)
def succsV (bl : List (List S29)) : List (List Int) := bl.map (sucV bl.length)
def GoodB (bl : List (List S29)) : Prop := ∀ b ∈ bl, b.length ≤ 9223372036854775807 ∧ ∀ i ∈ b, i.f8.length < 4611686018427387904
theorem keep_len (n : Nat) (l : List Int) : (keep n l).length ≤ l.length := List.length_filter_le _ _
theorem tgt_len (i : S29) : (tgt i).length < 1000 := targetsV_len _ _ _ _ _ _ _ _ _
theorem rdL2_nat (o : List (List Int)) (i : Nat) (h : i < o.length) : rd_L2 o (i : Int) = o[i] := by simp [rd_L2, List.getD_eq_getElem?_getD, h]
theorem rdL4_nat (o : List (List S29)) (i : Nat) (h : i < o.length) : rd_L4 o (i : Int) = o[i] := by simp [rd_L4, List.getD_eq_getElem?_getD, h]
theorem rdT_last (b : List S29) (h : b.length ≠ 0) : rd_T29 b ((b.length : Int) - 1) ∈ b := by
  have e : ((b.length : Int) - 1).toNat = b.length - 1 := by omega
  unfold rd_T29
  rw [e, List.getD_eq_getElem?_getD, List.getElem?_eq_getElem (by omega)]
  exact List.getElem_mem _
theorem gSuccs_l1 (bl : List (List S29)) (x13 : List (List S29)) (x14 : Int) (q : Nat) (t : List Int) (p0 : ByteArray) (p1 p2 : Int) (p3 : List Int) (hq : q < 4611686018427387904) (ht : t.length < 1000) (r : List (List Int)) :
    ∀ d j, t.length - j = d → j ≤ t.length → ∀ out : List (List Int), q < out.length → (rd_L2 out (q : Int)).length + d < 2000 →
      Ev (fun k => graph_Succs.l0 k (out.set q (rd_L2 out (q : Int) ++ keep bl.length (t.drop j))) x13 x14 (wrap64 ((q : Int) + 1)) p0 p1 p2 p3 bl) r →
      Ev (fun k => graph_Succs.l1 k out (q : Int) x13 x14 (q : Int) t (t.length : Int) (j : Int) p0 p1 p2 p3 bl) r := by
  intro d
  induction d with
  | zero =>
    intro j hd hj out ho _ h
    obtain rfl : j = t.length := by omega
    refine Ev.step (fun k => by rw [graph_Succs.l1, if_neg (by omega)]) ?_
    have e : out.set q (rd_L2 out (q : Int) ++ keep bl.length (t.drop t.length)) = out := by
      rw [List.drop_length, rdL2_nat out q ho]; simp [keep]
    rw [e] at h
    exact h
  | succ d ih =>
    intro j hd hj out ho hs h
    have hlt : j < t.length := by omega
    have hdr : keep bl.length (t.drop j) = (if t[j] < (bl.length : Int) then [t[j]] else []) ++ keep bl.length (t.drop (j + 1)) := by
      rw [List.drop_eq_getElem_cons hlt]; unfold keep; rw [List.filter_cons]; by_cases hc : t[j] < (bl.length : Int) <;> simp [hc]
    by_cases hc : t[j] < (bl.length : Int)
    · refine Ev.step (fun k => by rw [graph_Succs.l1, if_pos (by omega), if_pos (by omega), if_pos (by omega), if_pos (by rw [rd_nat t j hlt]; exact hc), if_pos (by omega), if_pos (by omega), if_pos (by omega), wrap_succ j (by omega), Int.toNat_natCast, rd_nat t j hlt]) ?_
      have e2 : rd_L2 (out.set q (rd_L2 out (q : Int) ++ [t[j]])) (q : Int) = rd_L2 out (q : Int) ++ [t[j]] := by
        rw [rdL2_nat _ q (by simpa using ho)]; simp
      refine ih (j + 1) (by omega) (by omega) _ (by simpa using ho) (by rw [e2]; simp; omega) ?_
      rw [e2, List.set_set]
      rw [hdr, if_pos hc, ← List.append_assoc] at h
      exact h
    · refine Ev.step (fun k => by rw [graph_Succs.l1, if_pos (by omega), if_pos (by omega), if_pos (by omega), if_neg (by rw [rd_nat t j hlt]; exact hc), wrap_succ j (by omega)]) ?_
      refine ih (j + 1) (by omega) (by omega) _ ho (by omega) ?_
      rw [hdr, if_neg hc, List.nil_append] at h
      exact h
theorem set_at {α : Type} (A : List α) (m : Nat) (z v : α) (i : Nat) (hi : A.length = i) : (A ++ List.replicate (m + 1) z).set i v = (A ++ [v]) ++ List.replicate m z := by
  subst hi
  rw [List.set_append_right _ _ (Nat.le_refl _), Nat.sub_self, List.replicate_succ, List.set_cons_zero]
  simp
theorem gSuccs_l0 (bl : List (List S29)) (p0 : ByteArray) (p1 p2 : Int) (p3 : List Int) (hl : bl.length < 4611686018427387904) (hg : GoodB bl) :
    ∀ d i, bl.length - i = d → i ≤ bl.length → Ev (fun k => graph_Succs.l0 k ((bl.take i).map (sucV bl.length) ++ List.replicate (bl.length - i) []) bl (bl.length : Int) (i : Int) p0 p1 p2 p3 bl) (succsV bl) := by
  intro d
  induction d with
  | zero =>
    intro i hd hi
    obtain rfl : i = bl.length := by omega
    refine Ev.step (fun k => by rw [graph_Succs.l0, if_neg (by omega)]) ?_
    rw [List.take_length, Nat.sub_self]
    show Ev _ (bl.map (sucV bl.length))
    rw [List.replicate_zero, List.append_nil]
    exact Ev.now _
  | succ d ih =>
    intro i hd hi
    have hlt : i < bl.length := by omega
    obtain ⟨b, hb⟩ : ∃ b, bl[i] = b := ⟨_, rfl⟩
    have hrd : rd_L4 bl (i : Int) = b := by rw [rdL4_nat bl i hlt, hb]
    have hbg := hg b (hb ▸ List.getElem_mem hlt)
    have hA : ((bl.take i).map (sucV bl.length)).length = i := by simp; omega
    have hm : bl.length - i = (bl.length - (i + 1)) + 1 := by omega
    have htk : (bl.take (i + 1)).map (sucV bl.length) = (bl.take i).map (sucV bl.length) ++ [sucV bl.length b] := by
      rw [List.take_succ_eq_append_getElem hlt, List.map_append, hb]; rfl
    by_cases h0 : b.length = 0
    · refine Ev.step (fun k => by rw [graph_Succs.l0, if_pos (by omega), if_pos (by omega), if_pos (by omega), hrd, if_pos (by omega), wrap_succ i (by omega)]) ?_
      have e : (bl.take i).map (sucV bl.length) ++ List.replicate (bl.length - i) ([] : List Int) = (bl.take (i + 1)).map (sucV bl.length) ++ List.replicate (bl.length - (i + 1)) [] := by
        have hs : sucV bl.length b = [] := by unfold sucV lastT; rw [if_pos h0]; rfl
        rw [htk, hm, List.replicate_succ, hs]; simp
      rw [e]
      exact ih (i + 1) (by omega) (by omega)
    · have hw : wrap64 ((b.length : Int) - 1) = (b.length : Int) - 1 := wrap_id (by omega) (by omega)
      refine Ev.step (fun k => by rw [graph_Succs.l0, if_pos (by omega), if_pos (by omega), if_pos (by omega), hrd, if_neg (by omega), hw, if_pos (by omega), if_pos (by omega)]) ?_
      have hlast := rdT_last b h0
      refine Ev.bind (instrTargets_ev _ _ _ _ _ _ _ _ _ (hbg.2 _ hlast)) ?_
      refine gSuccs_l1 bl bl _ i _ p0 p1 p2 p3 (by omega) (tgt_len _) _ _ 0 rfl (Nat.zero_le _) _ (by simp; omega) ?_ ?_
      · rw [rdL2_nat _ i (by simp; omega)]
        have : ((bl.take i).map (sucV bl.length) ++ List.replicate (bl.length - i) ([] : List Int))[i]'(by simp; omega) = [] := by
          rw [List.getElem_append_right (by rw [hA]; exact Nat.le_refl i)]; simp
        rw [this]
        have := tgt_len (rd_T29 b ((b.length : Int) - 1))
        simp only [List.length_nil, tgt] at this ⊢
        omega
      · have e1 : rd_L2 ((bl.take i).map (sucV bl.length) ++ List.replicate (bl.length - i) ([] : List Int)) (i : Int) = [] := by
          rw [rdL2_nat _ i (by simp; omega), List.getElem_append_right (by rw [hA]; exact Nat.le_refl i)]; simp
        rw [e1, hm, set_at _ _ _ _ _ hA, wrap_succ i (by omega), List.drop_zero, List.nil_append]
        have hs : keep bl.length (tgt (rd_T29 b ((b.length : Int) - 1))) = sucV bl.length b := by
          unfold sucV lastT; rw [if_neg h0]
        rw [hs, ← htk]
        exact ih (i + 1) (by omega) (by omega)
theorem gSuccs_ev (bl : List (List S29)) (p0 : ByteArray) (p1 p2 : Int) (p3 : List Int) (hl : bl.length ≤ 11728124029610) (hg : GoodB bl) : Ev (fun k => graph_Succs.f k p0 p1 p2 p3 bl) (succsV bl) := by
  unfold graph_Succs.f
  refine Ev.congr (fun k => by rw [if_pos (by omega), if_pos (by omega), Int.toNat_natCast]) ?_
  have := gSuccs_l0 bl p0 p1 p2 p3 (by omega) hg bl.length 0 (by omega) (by omega)
  simpa using this
theorem rSuccs_l1 (bl : List (List S29)) (x3 : List (List Int)) (q : Nat) (t : List Int) (p0 : ByteArray) (p1 p2 : Int) (p3 : List Int) (hx : x3.length < 5864062014805) (ht : t.length < 1000) (r : List (List Int)) :
    ∀ d j, t.length - j = d → j ≤ t.length → ∀ x6 : List Int, x6.length + d < 2000 →
      Ev (fun k => balustraderef17_Succs.l0 k (x3 ++ [x6 ++ keep bl.length (t.drop j)]) (wrap64 ((q : Int) + 1)) p0 p1 p2 p3 bl) r →
      Ev (fun k => balustraderef17_Succs.l1 k x3 (q : Int) x6 t (j : Int) p0 p1 p2 p3 bl) r := by
  intro d
  induction d with
  | zero =>
    intro j hd hj x6 _ h
    obtain rfl : j = t.length := by omega
    refine Ev.step (fun k => by rw [balustraderef17_Succs.l1, if_neg (by omega), if_pos hx]) ?_
    rw [List.drop_length] at h
    simpa [keep] using h
  | succ d ih =>
    intro j hd hj x6 hs h
    have hlt : j < t.length := by omega
    have hdr : keep bl.length (t.drop j) = (if t[j] < (bl.length : Int) then [t[j]] else []) ++ keep bl.length (t.drop (j + 1)) := by
      rw [List.drop_eq_getElem_cons hlt]; unfold keep; rw [List.filter_cons]; by_cases hc : t[j] < (bl.length : Int) <;> simp [hc]
    by_cases hc : t[j] < (bl.length : Int)
    · refine Ev.step (fun k => by rw [balustraderef17_Succs.l1, if_pos (by omega), if_pos (by omega), if_pos (by rw [rd_nat t j hlt]; exact hc), if_pos (by omega), wrap_succ j (by omega), rd_nat t j hlt]) ?_
      refine ih (j + 1) (by omega) (by omega) _ (by simp; omega) ?_
      rw [hdr, if_pos hc, ← List.append_assoc] at h
      exact h
    · refine Ev.step (fun k => by rw [balustraderef17_Succs.l1, if_pos (by omega), if_pos (by omega), if_neg (by rw [rd_nat t j hlt]; exact hc), wrap_succ j (by omega)]) ?_
      refine ih (j + 1) (by omega) (by omega) _ (by omega) ?_
      rw [hdr, if_neg hc, List.nil_append] at h
      exact h
theorem rSuccs_l0 (bl : List (List S29)) (p0 : ByteArray) (p1 p2 : Int) (p3 : List Int) (hl : bl.length < 5864062014805) (hg : GoodB bl) :
    ∀ d i, bl.length - i = d → i ≤ bl.length → Ev (fun k => balustraderef17_Succs.l0 k ((bl.take i).map (sucV bl.length)) (i : Int) p0 p1 p2 p3 bl) (succsV bl) := by
  intro d
  induction d with
  | zero =>
    intro i hd hi
    obtain rfl : i = bl.length := by omega
    refine Ev.step (fun k => by rw [balustraderef17_Succs.l0, if_neg (by omega)]) ?_
    rw [List.take_length]
    exact Ev.now _
  | succ d ih =>
    intro i hd hi
    have hlt : i < bl.length := by omega
    obtain ⟨b, hb⟩ : ∃ b, bl[i] = b := ⟨_, rfl⟩
    have hrd : rd_L4 bl (i : Int) = b := by rw [rdL4_nat bl i hlt, hb]
    have hbg := hg b (hb ▸ List.getElem_mem hlt)
    have hA : ((bl.take i).map (sucV bl.length)).length = i := by simp; omega
    have htk : (bl.take (i + 1)).map (sucV bl.length) = (bl.take i).map (sucV bl.length) ++ [sucV bl.length b] := by
      rw [List.take_succ_eq_append_getElem hlt, List.map_append, hb]; rfl
    by_cases h0 : b.length = 0
    · refine Ev.step (fun k => by rw [balustraderef17_Succs.l0, if_pos (by omega), if_pos (by omega), Option.bind_some, hrd, if_neg (by omega), if_pos (by omega), wrap_succ i (by omega)]) ?_
      have hs : sucV bl.length b = [] := by unfold sucV lastT; rw [if_pos h0]; rfl
      rw [hs] at htk
      rw [← htk]
      exact ih (i + 1) (by omega) (by omega)
    · have hw : wrap64 ((b.length : Int) - 1) = (b.length : Int) - 1 := wrap_id (by omega) (by omega)
      refine Ev.step (fun k => by rw [balustraderef17_Succs.l0, if_pos (by omega), if_pos (by omega), Option.bind_some, hrd, if_pos (by omega), hw, if_pos (by omega), if_pos (by omega)]) ?_
      have hlast := rdT_last b h0
      refine Ev.bind (refTargets_ev _ _ _ _ _ _ _ _ _ (hbg.2 _ hlast)) ?_
      have hlen := tgt_len (rd_T29 b ((b.length : Int) - 1))
      show Ev (fun k => balustraderef17_Succs.l1 k _ (i : Int) [] (tgt (rd_T29 b ((b.length : Int) - 1))) 0 p0 p1 p2 p3 bl) _
      refine rSuccs_l1 bl _ i _ p0 p1 p2 p3 (by omega) hlen _ _ 0 rfl (Nat.zero_le _) [] (by simp only [List.length_nil]; omega) ?_
      rw [wrap_succ i (by omega), List.drop_zero, List.nil_append]
      have hs : keep bl.length (tgt (rd_T29 b ((b.length : Int) - 1))) = sucV bl.length b := by
        unfold sucV lastT; rw [if_neg h0]
      rw [hs, ← htk]
      exact ih (i + 1) (by omega) (by omega)
theorem rSuccs_ev (bl : List (List S29)) (p0 : ByteArray) (p1 p2 : Int) (p3 : List Int) (hl : bl.length < 5864062014805) (hg : GoodB bl) : Ev (fun k => balustraderef17_Succs.f k p0 p1 p2 p3 bl) (succsV bl) := by
  unfold balustraderef17_Succs.f
  have := rSuccs_l0 bl p0 p1 p2 p3 hl hg bl.length 0 (by omega) (by omega)
  simpa using this
theorem few_l0 (bl : List (List S29)) (p0 : ByteArray) (p1 p2 : Int) (p3 : List Int) (hl : bl.length < 4611686018427387904) :
    ∀ d i, bl.length - i = d → i ≤ bl.length → ∀ x : Int, ∃ v, Ev (fun k => balustraderef17_Few.l0 k x (i : Int) p0 p1 p2 p3 bl) v ∧ (v = true → bl.length ≤ 40) := by
  intro d
  induction d with
  | zero =>
    intro i hd hi x
    obtain rfl : i = bl.length := by omega
    by_cases h : (bl.length : Int) ≤ 40
    · exact ⟨decide (x ≤ 300), Ev.step (fun k => by rw [balustraderef17_Few.l0, if_neg (by omega), if_pos h]) (Ev.now _), fun _ => by omega⟩
    · exact ⟨false, Ev.step (fun k => by rw [balustraderef17_Few.l0, if_neg (by omega), if_neg h]) (Ev.now _), fun e => by cases e⟩
  | succ d ih =>
    intro i hd hi x
    obtain ⟨v, hv, hv2⟩ := ih (i + 1) (by omega) (by omega) (wrap64 (x + ((rd_L4 bl (i : Int)).length : Int)))
    exact ⟨v, Ev.step (fun k => by rw [balustraderef17_Few.l0, if_pos (by omega), if_pos (by omega), wrap_succ i (by omega)]) hv, hv2⟩
theorem few_ev (bl : List (List S29)) (p0 : ByteArray) (p1 p2 : Int) (p3 : List Int) (hl : bl.length < 4611686018427387904) : ∃ v, Ev (fun k => balustraderef17_Few.f k p0 p1 p2 p3 bl) v ∧ (v = true → bl.length ≤ 40) := by
  have := few_l0 bl p0 p1 p2 p3 hl bl.length 0 (by omega) (by omega) 0
  exact this
theorem right_nm (op dst a b c n m site : Int) (l : List Int) (h : rr_rightV op dst a b c n m site l = true) : (op = 41 → 0 ≤ n) ∧ (op = 42 → 0 ≤ n ∧ 0 ≤ m ∧ m ≠ n) := by
  unfold rr_rightV at h
  simp only [Bool.and_eq_true] at h
  have h2 := h.2
  unfold rr_tailV at h2
  constructor
  · rintro rfl
    by_cases h0 : 0 < l.length
    · simp [h0] at h2
    · simp [h0] at h2; exact h2.2
  · rintro rfl
    by_cases h0 : 0 < l.length
    · simp [h0] at h2
    · simp [h0] at h2; exact ⟨h2.2.1, h2.1, h2.2.2⟩
theorem tgt_good (i : S29) : (tgt i).Nodup ∧ ∀ t ∈ tgt i, 0 ≤ t := by
  unfold tgt targetsV
  cases h : rr_rightV i.f0 i.f1 i.f2 i.f3 i.f4 i.f5 i.f6 i.f7 i.f8 with
  | false => simp
  | true =>
    have hn := right_nm _ _ _ _ _ _ _ _ _ h
    rw [if_pos rfl]
    by_cases h1 : i.f0 = 41
    · rw [if_pos h1]; have := hn.1 h1; simpa using this
    · rw [if_neg h1]
      by_cases h2 : i.f0 = 42
      · rw [if_pos h2]; have := hn.2 h2; simp; omega
      · rw [if_neg h2]; simp
theorem sucV_good (n : Nat) (b : List S29) : (sucV n b).Nodup ∧ ∀ t ∈ sucV n b, 0 ≤ t ∧ t < (n : Int) := by
  unfold sucV keep lastT
  by_cases h : b.length = 0
  · rw [if_pos h]; simp
  · rw [if_neg h]
    have hg := tgt_good (rd_T29 b ((b.length : Int) - 1))
    exact ⟨hg.1.filter _, fun t ht => by rw [List.mem_filter] at ht; exact ⟨hg.2 t ht.1, by simpa using ht.2⟩⟩
theorem succsV_len (bl : List (List S29)) : (succsV bl).length = bl.length := by simp [succsV]
theorem succsV_good (bl : List (List S29)) : ∀ l ∈ succsV bl, l.Nodup ∧ ∀ t ∈ l, 0 ≤ t ∧ t < ((succsV bl).length : Int) := by
  intro l hl
  obtain ⟨b, _, rfl⟩ := List.mem_map.1 hl
  rw [succsV_len]
  exact sucV_good _ _
theorem succsV_ok (bl : List (List S29)) (hl : bl.length ≤ 40) : gtOk (succsV bl) = true := by
  unfold gtOk
  simp only [Bool.and_eq_true, decide_eq_true_eq, List.all_eq_true]
  exact ⟨by rw [succsV_len]; omega, fun l h t ht => (succsV_good bl l h).2 t ht⟩
end Go.Proofs.Ytomopjomapkmjaa.Pure

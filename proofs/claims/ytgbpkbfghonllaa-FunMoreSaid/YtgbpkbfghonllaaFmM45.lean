/- A part of it. -/
import Derived.Test.YtgbpkbfghonllaaFmM21
import Derived.Test.YtgbpkbfghonllaaFmP22
import Derived.Test.YtgbpkbfghonllaaFmInstrB
import Derived.Test.YtgbpkbfghonllaaFmP12
import Derived.Test.YtgbpkbfghonllaaFmP13
import Derived.Test.YtgbpkbfghonllaaFmM41
import Derived.Test.YtgbpkbfghonllaaFmP21
import Derived.Outline
namespace Go.Proofs.Ytgbpkbfghonllaa.P
open Go.RowKit Go.Proofs.YtgbpkbfghonllaaW.PrintWords Go.Proofs.YtgbpkbfghonllaaW.PrintLast Go.Proofs.YtgbpkbfghonllaaW.PrintMore
attribute [local go_sem] max2_int min2_int max_two min_two max_three min_three max_four min_four   
set_option linter.unusedVariables false
set_option linter.unusedSimpArgs false
end Go.Proofs.Ytgbpkbfghonllaa.P
set_option linter.unusedVariables false
set_option linter.unusedSimpArgs false
namespace Go.Proofs.Ytgbpkbfghonllaa.P
open Go Go.RowKit Go.Proofs.YtgbpkbfghonllaaW.PrintWords Go.Proofs.YtgbpkbfghonllaaW.PrintLast Go.Proofs.YtgbpkbfghonllaaW.PrintMore Go.Proofs.Ytgbpkbfghonllaa.Pure
def sizeV (bl : List (List S42)) : Nat := (bl.map List.length).sum
def countV (fs : List S39) : Nat := (fs.map (fun f => sizeV f.f4)).sum
theorem sizeV_drop (bl : List (List S42)) (i : Nat) (h : i < bl.length) : sizeV (bl.drop i) = (rd_L5 bl (i : Int)).length + sizeV (bl.drop (i + 1)) := by
 rw [List.drop_eq_getElem_cons h]
 simp only [sizeV, rd_L5, List.getD_eq_getElem?_getD, h, List.map_cons, List.sum_cons, Int.toNat_natCast, List.getElem?_eq_getElem, Option.getD_some]
theorem countV_drop (fs : List S39) (i : Nat) (h : i < fs.length) : countV (fs.drop i) = sizeV (rd_T39 fs (i : Int)).f4 + countV (fs.drop (i + 1)) := by
 rw [List.drop_eq_getElem_cons h]
 simp only [countV, rd_T39, List.getD_eq_getElem?_getD, h, List.map_cons, List.sum_cons, Int.toNat_natCast, List.getElem?_eq_getElem, Option.getD_some]
theorem wrap_nat (n : Nat) (h : n < 4611686018427387904) : wrap64 (n : Int) = (n : Int) := by rw [wrap_id] <;> omega
theorem size_from (bl : List (List S42)) (hl : bl.length < 4611686018427387904) : ∀ d i (acc : Nat), bl.length - i = d → i ≤ bl.length → acc + sizeV (bl.drop i) < 4611686018427387904 → Ev (fun k => fun_size.l0 k (acc : Int) bl (bl.length : Int) (i : Int)) ((acc + sizeV (bl.drop i) : Nat) : Int) := by
 intro d
 induction d with
 | zero =>
  intro i acc hd hi hs
  obtain rfl : i = bl.length := by omega
  apply Ev.step
  ·intro k
   rw [fun_size.l0, if_neg (by omega)]
  ·simp [sizeV]
   exact Ev.now _
 | succ d ih =>
  intro i acc hd hi hs
  have hlt : i < bl.length := by omega
  rw [sizeV_drop bl i hlt] at hs ⊢
  apply Ev.step
  ·intro k
   rw [fun_size.l0, if_pos (by omega), if_pos (by omega), if_pos (by omega), wrap_succ i (by omega), ← Int.natCast_add, wrap_nat _ (by omega)]
  ·rw [← Nat.add_assoc]
   exact ih (i + 1) _ (by omega) (by omega) (by omega)
theorem size_ev (nm : ByteArray) (ps rt : Int) (rg : List Int) (bl : List (List S42)) (hl : bl.length < 4611686018427387904) (hs : sizeV bl < 4611686018427387904) : Ev (fun k => fun_size.f k nm ps rt rg bl) (sizeV bl : Int) := by
 have h := size_from bl hl bl.length 0 0 (by omega) (by omega) (by simpa using hs)
 simpa [fun_size.f] using h
theorem count_from (fs : List S39) (hl : fs.length < 4611686018427387904) (hb : ∀ f ∈ fs, f.f4.length < 4611686018427387904) : ∀ d i (acc : Nat), fs.length - i = d → i ≤ fs.length → acc + countV (fs.drop i) < 4611686018427387904 → Ev (fun k => fun_Count.l0 k (acc : Int) fs (fs.length : Int) (i : Int)) ((acc + countV (fs.drop i) : Nat) : Int) := by
 intro d
 induction d with
 | zero =>
  intro i acc hd hi hs
  obtain rfl : i = fs.length := by omega
  apply Ev.step
  ·intro k
   rw [fun_Count.l0, if_neg (by omega)]
  ·simp [countV]
   exact Ev.now _
 | succ d ih =>
  intro i acc hd hi hs
  have hlt : i < fs.length := by omega
  rw [countV_drop fs i hlt] at hs ⊢
  have hm : (rd_T39 fs (i : Int)) ∈ fs := by
   simp only [rd_T39, Int.toNat_natCast, List.getD_eq_getElem?_getD, List.getElem?_eq_getElem hlt]
   exact List.getElem_mem hlt
  apply Ev.step
  ·intro k
   rw [fun_Count.l0, if_pos (by omega), if_pos (by omega), if_pos (by omega), wrap_succ i (by omega)]
  ·refine Ev.bind (size_ev _ _ _ _ _ (hb _ hm) (by omega)) ?_
   rw [← Int.natCast_add, wrap_nat _ (by omega), ← Nat.add_assoc]
   exact ih (i + 1) _ (by omega) (by omega) (by omega)
theorem count_ev (fs : List S39) (mn : Int) (ss : List S48) (hl : fs.length < 4611686018427387904) (hb : ∀ f ∈ fs, f.f4.length < 4611686018427387904) (hs : countV fs < 4611686018427387904) : Ev (fun k => fun_Count.f k fs mn ss) (countV fs : Int) := by
 have h := count_from fs hl hb fs.length 0 0 (by omega) (by omega) (by simpa using hs)
 simpa [fun_Count.f] using h
theorem rcount_l1 (fs : List S39) (mn : Int) (ss : List S48) (n : Nat) (hn : n < fs.length) (hl : (rd_T39 fs (n : Int)).f4.length < 4611686018427387904) (hn2 : n < 4611686018427387904) (v : Int) : ∀ d i (acc : Nat), (rd_T39 fs (n : Int)).f4.length - i = d → i ≤ (rd_T39 fs (n : Int)).f4.length → acc + sizeV ((rd_T39 fs (n : Int)).f4.drop i) < 4611686018427387904 →
  Ev (fun k => balustraderef16_Count.l0 k ((acc + sizeV ((rd_T39 fs (n : Int)).f4.drop i) : Nat) : Int) ((n + 1 : Nat) : Int) fs mn ss) v → Ev (fun k => balustraderef16_Count.l1 k (acc : Int) (n : Int) (i : Int) fs mn ss) v := by
 intro d
 induction d with
 | zero =>
  intro i acc hd hi hs hv
  obtain rfl : i = (rd_T39 fs (n : Int)).f4.length := by omega
  apply Ev.step
  ·intro k
   rw [balustraderef16_Count.l1, if_pos (by omega), if_pos (by omega), if_neg (by omega), wrap_succ n (by omega)]
  ·simpa [sizeV] using hv
 | succ d ih =>
  intro i acc hd hi hs hv
  have hlt : i < (rd_T39 fs (n : Int)).f4.length := by omega
  rw [sizeV_drop _ i hlt] at hs hv
  apply Ev.step
  ·intro k
   rw [balustraderef16_Count.l1, if_pos (by omega), if_pos (by omega), if_pos (by omega), if_pos (by omega), wrap_succ i (by omega), ← Int.natCast_add, wrap_nat _ (by omega)]
  ·rw [← Nat.add_assoc] at hv
   exact ih (i + 1) _ (by omega) (by omega) (by omega) hv
theorem rcount_from (fs : List S39) (mn : Int) (ss : List S48) (hl : fs.length < 4611686018427387904) (hb : ∀ f ∈ fs, f.f4.length < 4611686018427387904) : ∀ d i (acc : Nat), fs.length - i = d → i ≤ fs.length → acc + countV (fs.drop i) < 4611686018427387904 → Ev (fun k => balustraderef16_Count.l0 k (acc : Int) (i : Int) fs mn ss) ((acc + countV (fs.drop i) : Nat) : Int) := by
 intro d
 induction d with
 | zero =>
  intro i acc hd hi hs
  obtain rfl : i = fs.length := by omega
  apply Ev.step
  ·intro k
   rw [balustraderef16_Count.l0, if_neg (by omega)]
  ·simp [countV]
   exact Ev.now _
 | succ d ih =>
  intro i acc hd hi hs
  have hlt : i < fs.length := by omega
  rw [countV_drop fs i hlt] at hs ⊢
  have hm : (rd_T39 fs (i : Int)) ∈ fs := by
   simp only [rd_T39, Int.toNat_natCast, List.getD_eq_getElem?_getD, List.getElem?_eq_getElem hlt]
   exact List.getElem_mem hlt
  apply Ev.step
  ·intro k
   rw [balustraderef16_Count.l0, if_pos (by omega)]
  ·refine rcount_l1 fs mn ss i hlt (hb _ hm) (by omega) _ _ 0 acc rfl (Nat.zero_le _) (by rw [List.drop_zero]; omega) ?_
   rw [List.drop_zero, ← Nat.add_assoc]
   exact ih (i + 1) _ (by omega) (by omega) (by omega)
theorem rcount_ev (fs : List S39) (mn : Int) (ss : List S48) (hl : fs.length < 4611686018427387904) (hb : ∀ f ∈ fs, f.f4.length < 4611686018427387904) (hs : countV fs < 4611686018427387904) : Ev (fun k => balustraderef16_Count.f k fs mn ss) (countV fs : Int) := by
 have h := rcount_from fs mn ss hl hb fs.length 0 0 (by omega) (by omega) (by simpa using hs)
 simpa [balustraderef16_Count.f] using h
def kindB (a : Int) : Bool := decide (1 ≤ a) && decide (a ≤ 3)
theorem kind_val (a : Int) : fun_kind.f a = some (kindB a) := by
 unfold fun_kind.f kindB
 by_cases h : a ≥ 1
 ·rw [if_pos h]; simp [h]
 ·rw [if_neg h]; simp [show ¬ (1 ≤ a) from h]
theorem index_from (l : List Int) (hl : l.length < 4611686018427387904) : ∀ d i, l.length - i = d → i ≤ l.length → ∃ v : Int, Ev (fun k => slices_IndexFunc_int_int.l0 k l (l.length : Int) (i : Int)) v ∧ decide (v ≥ 0) = (l.drop i).any (fun a => !kindB a) := by
 intro d
 induction d with
 | zero =>
  intro i hd hi
  obtain rfl : i = l.length := by omega
  refine ⟨-1, ?_, by simp⟩
  apply Ev.step
  ·intro k
   rw [slices_IndexFunc_int_int.l0, if_neg (by omega)]
  ·exact Ev.now _
 | succ d ih =>
  intro i hd hi
  have hlt : i < l.length := by omega
  rw [List.drop_eq_getElem_cons hlt]
  by_cases h : kindB l[i] = true
  ·obtain ⟨v, hv, hb⟩ := ih (i + 1) (by omega) (by omega)
   refine ⟨v, ?_, by rw [hb, List.any_cons, h]; simp⟩
   apply Ev.step
   ·intro k
    rw [slices_IndexFunc_int_int.l0, if_pos (by omega), if_pos (by omega), if_pos (by omega), rd_nat l i hlt, fun_head_1.f, kind_val, h, Option.bind_some, Option.bind_some, if_neg (by simp), wrap_succ i (by omega)]
   ·exact hv
  ·simp only [Bool.not_eq_true] at h
   refine ⟨(i : Int), ?_, by rw [List.any_cons, h]; simp⟩
   apply Ev.step
   ·intro k
    rw [slices_IndexFunc_int_int.l0, if_pos (by omega), if_pos (by omega), if_pos (by omega), rd_nat l i hlt, fun_head_1.f, kind_val, h, Option.bind_some, Option.bind_some, if_pos (by simp)]
   ·exact Ev.now _
theorem contains_ev (l : List Int) (hl : l.length < 4611686018427387904) : Ev (fun k => slices_ContainsFunc_int_int.f k l) (l.any (fun a => !kindB a)) := by
 obtain ⟨v, hv, hb⟩ := index_from l hl l.length 0 (by omega) (by omega)
 unfold slices_ContainsFunc_int_int.f
 refine Ev.bind hv ?_
 rw [hb, List.drop_zero]
 exact Ev.now _
def headV (ps rt : Int) (rg : List Int) (bl : List (List S42)) : Int :=
 if ps < 0 ∨ ps > 8 ∨ ps > (rg.length : Int) ∨ (rg.length : Int) > 65536 ∨ (bl.length : Int) > 65536 ∨ (sizeV bl : Int) > 262144 then 3 else if rg.all kindB && kindB rt then (if (bl.length : Int) = 0 then 5 else 0) else 11
theorem any_all (l : List Int) : l.any (fun a => !kindB a) = !l.all kindB := by
 induction l with
 | nil => rfl
 | cons a l ih => rw [List.any_cons, List.all_cons, ih]; cases kindB a <;> simp
theorem head_j1 (b : Bool) (nm : ByteArray) (ps rt : Int) (rg : List Int) (bl : List (List S42)) : Ev (fun k => fun_head.j1 k b nm ps rt rg bl) (if b then 11 else if (bl.length : Int) = 0 then 5 else 0) := by
 apply Ev.step (f := fun _ => some (if b then 11 else if (bl.length : Int) = 0 then 5 else 0))
 ·intro k
  rw [fun_head.j1]
  cases b
  ·by_cases h : (bl.length : Int) = 0
   ·rw [if_neg Bool.false_ne_true, if_pos h, if_neg Bool.false_ne_true, if_pos h]
   ·rw [if_neg Bool.false_ne_true, if_neg h, if_neg Bool.false_ne_true, if_neg h]
  ·rw [if_pos rfl, if_pos rfl]
 ·exact Ev.now _
theorem head_j0 (b : Bool) (nm : ByteArray) (ps rt : Int) (rg : List Int) (bl : List (List S42)) (hl : rg.length < 4611686018427387904) : Ev (fun k => fun_head.j0 k b nm ps rt rg bl) (if b then 3 else if rg.all kindB && kindB rt then (if (bl.length : Int) = 0 then 5 else 0) else 11) := by
 cases b with
 | true =>
  apply Ev.step (f := fun _ => some 3)
  ·intro k
   rw [fun_head.j0, if_pos rfl]
  ·exact Ev.now _
 | false =>
  rw [if_neg (by simp)]
  cases hk : kindB rt with
  | true =>
   apply Ev.step
   ·intro k
    rw [fun_head.j0, if_neg (by simp), kind_val, hk, Option.bind_some, if_pos rfl]
   ·refine Ev.bind (contains_ev rg hl) ?_
    have h := head_j1 (rg.any (fun a => !kindB a)) nm ps rt rg bl
    rw [any_all] at h ⊢
    cases h2 : rg.all kindB <;> rw [h2] at h <;> simpa using h
  | false =>
   apply Ev.step
   ·intro k
    rw [fun_head.j0, if_neg (by simp), kind_val, hk, Option.bind_some, if_neg (by simp)]
   ·have h := head_j1 true nm ps rt rg bl
    simpa using h
theorem head_ev (nm : ByteArray) (ps rt : Int) (rg : List Int) (bl : List (List S42)) (hl : rg.length < 4611686018427387904) (hb : bl.length < 4611686018427387904) (hs : sizeV bl < 4611686018427387904) : Ev (fun k => fun_head.f k nm ps rt rg bl) (headV ps rt rg bl) := by
 unfold fun_head.f headV
 by_cases c1 : ps < 0
 ·rw [if_pos (Or.inl c1)]
  exact Ev.congr (fun k => by rw [if_pos c1, decide_eq_true c1]) (by simpa using head_j0 true nm ps rt rg bl hl)
 by_cases c2 : ps > 8
 ·rw [if_pos (by omega)]
  exact Ev.congr (fun k => by rw [if_neg c1, if_pos c2, decide_eq_true c2]) (by simpa using head_j0 true nm ps rt rg bl hl)
 by_cases c3 : ps > (rg.length : Int)
 ·rw [if_pos (by omega)]
  exact Ev.congr (fun k => by rw [if_neg c1, if_neg c2, if_pos c3, decide_eq_true c3]) (by simpa using head_j0 true nm ps rt rg bl hl)
 by_cases c4 : (rg.length : Int) > 65536
 ·rw [if_pos (by omega)]
  exact Ev.congr (fun k => by rw [if_neg c1, if_neg c2, if_neg c3, if_pos c4, decide_eq_true c4]) (by simpa using head_j0 true nm ps rt rg bl hl)
 by_cases c5 : (bl.length : Int) > 65536
 ·rw [if_pos (by omega)]
  exact Ev.congr (fun k => by rw [if_neg c1, if_neg c2, if_neg c3, if_neg c4, if_pos c5, decide_eq_true c5]) (by simpa using head_j0 true nm ps rt rg bl hl)
 refine Ev.congr (fun k => by rw [if_neg c1, if_neg c2, if_neg c3, if_neg c4, if_neg c5]) (Ev.bind (size_ev nm ps rt rg bl hb hs) ?_)
 by_cases c6 : (sizeV bl : Int) > 262144
 ·rw [if_pos (by omega), decide_eq_true c6]
  simpa using head_j0 true nm ps rt rg bl hl
 ·rw [if_neg (by omega), decide_eq_false c6]
  simpa using head_j0 false nm ps rt rg bl hl
end Go.Proofs.Ytgbpkbfghonllaa.P

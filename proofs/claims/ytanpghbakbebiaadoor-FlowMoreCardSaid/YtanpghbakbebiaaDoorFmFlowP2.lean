/- A part of it. -/
import Derived.Test.YtanpghbakbebiaaDoorFmM40
import Derived.Test.YtanpghbakbebiaaDoorFmOfB
import Derived.Test.YtanpghbakbebiaaDoorFmBits
import Derived.Test.YtanpghbakbebiaaDoorFmP0
import Derived.Test.YtanpghbakbebiaaDoorFmP1
import Derived.Test.YtanpghbakbebiaaDoorFmP8
set_option linter.unusedVariables false
namespace Go.Proofs.YtanpghbakbebiaaDoor.Pure
open Go.RowKit Go.Proofs.YtanpghbakbebiaaDoor.P Go.Proofs.YtanpghbakbebiaaDoorW.PrintWords Go.Proofs.YtanpghbakbebiaaDoorW.PrintLast Go.Proofs.YtanpghbakbebiaaDoorW.PrintMore
theorem rdL1_nat (l : List (List Int)) (i : Nat) : rd_L1 l (i : Int) = l.getD i [] := by simp [rd_L1]
theorem rdL3_nat (l : List (List Int)) (i : Nat) : rd_L3 l (i : Int) = l.getD i [] := by simp [rd_L3]
theorem getD_of {α : Type} (l : List α) (d : α) {i : Nat} (h : i < l.length) : l.getD i d = l[i] := by simp [List.getD_eq_getElem?_getD, h]
theorem getD_map {α β : Type} (f : α → β) (l : List α) (d : α) (e : β) {i : Nat} (h : i < l.length) : (l.map f).getD i e = f (l.getD i d) := by simp [List.getD_eq_getElem?_getD, h]
theorem getD_mem {α : Type} (l : List α) (d : α) {i : Nat} (h : i < l.length) : l.getD i d ∈ l := by rw [getD_of l d h]; exact List.getElem_mem h
def foldw (x : Int) (l : List (List Int)) : Int := l.foldl (fun x r => wrap64 (x + (r.length : Int))) x
theorem foldw_sum : ∀ (l : List (List Int)) (x : Nat), x + (l.map List.length).sum < 4611686018427387904 → foldw (x : Int) l = ((x + (l.map List.length).sum : Nat) : Int) := by
 intro l
 induction l with
 | nil => intro x _; simp [foldw]
 | cons r l ih =>
  intro x h
  simp only [List.map_cons, List.sum_cons] at h ⊢
  have e : foldw (x : Int) (r :: l) = foldw (wrap64 ((x : Int) + (r.length : Int))) l := rfl
  rw [e, wrap_id (by omega) (by omega), show ((x : Int) + (r.length : Int)) = ((x + r.length : Nat) : Int) by omega, ih _ (by omega)]
  congr 1; omega
theorem foldw_from (l : List (List Int)) (x : Int) {i : Nat} (h : i < l.length) : foldw (wrap64 (x + ((l.getD i []).length : Int))) (l.drop (i + 1)) = foldw x (l.drop i) := by
 rw [List.drop_eq_getElem_cons h, getD_of l [] h]; rfl
structure Sz (E G K : List (List Int)) (S : List Int) : Prop where
 e : E.length < 17592186044416
 g : G.length < 17592186044416
 k : K.length < 17592186044416
 s : S.length < 17592186044416
 er : ∀ r ∈ E, r.length < 17592186044416
 gr : ∀ r ∈ G, r.length < 17592186044416
 kr : ∀ r ∈ K, r.length < 17592186044416
section
variable {E G K : List (List Int)} {S : List Int} {bk al : Bool} {wd : Int}
def fewV (E G K : List (List Int)) (wd : Int) (x : Int) : Bool := decide (E.length ≤ 12) && (decide (G.length ≤ 12) && (decide (K.length ≤ 12) && (decide (x ≤ 200) && (decide (wd ≤ 70) || decide (65536 < wd)))))
theorem few_l2 (hK : K.length < 17592186044416) : ∀ d i (x : Int), K.length - i = d → i ≤ K.length → Ev (fun k => balustradelaw18_few.l2 k x (i : Int) E bk al wd G K S) (fewV E G K wd (foldw x (K.drop i))) := by
 intro d
 induction d with
 | zero =>
  intro i x hd hi
  obtain rfl : i = K.length := by omega
  have e : foldw x (K.drop K.length) = x := by simp [foldw]
  rw [e]
  apply Ev.step
  ·intro k
   rw [balustradelaw18_few.l2, if_neg (by omega)]
  ·unfold fewV
   rw [show decide (E.length ≤ 12) = decide ((E.length : Int) ≤ 12) from decide_eq_decide.2 (by omega), show decide (G.length ≤ 12) = decide ((G.length : Int) ≤ 12) from decide_eq_decide.2 (by omega), show decide (K.length ≤ 12) = decide ((K.length : Int) ≤ 12) from decide_eq_decide.2 (by omega)]
   by_cases h1 : (E.length : Int) ≤ 12 <;> by_cases h2 : (G.length : Int) ≤ 12 <;> by_cases h3 : (K.length : Int) ≤ 12 <;> by_cases h4 : x ≤ 200 <;> by_cases h5 : wd ≤ 70 <;>
    (refine Ev.congr (f := fun _ => some _) (fun k => ?_) (Ev.now _); simp only [h1, h2, h3, h4, h5, if_true, if_false, decide_true, decide_false, Bool.true_and, Bool.false_and, Bool.true_or, Bool.false_or, gt_iff_lt])
 | succ d ih =>
  intro i x hd hi
  have hlt : i < K.length := by omega
  apply Ev.step
  ·intro k
   rw [balustradelaw18_few.l2, if_pos (by omega), if_pos (by omega), wrap_succ i (by omega), rdL1_nat]
  ·rw [← foldw_from K x hlt]
   exact ih (i + 1) _ (by omega) (by omega)
theorem few_l1 (hG : G.length < 17592186044416) (hK : K.length < 17592186044416) : ∀ d i (x : Int), G.length - i = d → i ≤ G.length → Ev (fun k => balustradelaw18_few.l1 k x (i : Int) E bk al wd G K S) (fewV E G K wd (foldw (foldw x (G.drop i)) K)) := by
 intro d
 induction d with
 | zero =>
  intro i x hd hi
  obtain rfl : i = G.length := by omega
  have e : foldw x (G.drop G.length) = x := by simp [foldw]
  rw [e]
  apply Ev.step
  ·intro k
   rw [balustradelaw18_few.l1, if_neg (by omega)]
  ·exact few_l2 hK K.length 0 x (by omega) (by omega)
 | succ d ih =>
  intro i x hd hi
  have hlt : i < G.length := by omega
  apply Ev.step
  ·intro k
   rw [balustradelaw18_few.l1, if_pos (by omega), if_pos (by omega), wrap_succ i (by omega), rdL1_nat]
  ·rw [← foldw_from G x hlt]
   exact ih (i + 1) _ (by omega) (by omega)
theorem few_l0 (hE : E.length < 17592186044416) (hG : G.length < 17592186044416) (hK : K.length < 17592186044416) : ∀ d i (x : Int), E.length - i = d → i ≤ E.length → Ev (fun k => balustradelaw18_few.l0 k x (i : Int) E bk al wd G K S) (fewV E G K wd (foldw (foldw (foldw x (E.drop i)) G) K)) := by
 intro d
 induction d with
 | zero =>
  intro i x hd hi
  obtain rfl : i = E.length := by omega
  have e : foldw x (E.drop E.length) = x := by simp [foldw]
  rw [e]
  apply Ev.step
  ·intro k
   rw [balustradelaw18_few.l0, if_neg (by omega)]
  ·exact few_l1 hG hK G.length 0 x (by omega) (by omega)
 | succ d ih =>
  intro i x hd hi
  have hlt : i < E.length := by omega
  apply Ev.step
  ·intro k
   rw [balustradelaw18_few.l0, if_pos (by omega), if_pos (by omega), wrap_succ i (by omega), rdL1_nat]
  ·rw [← foldw_from E x hlt]
   exact ih (i + 1) _ (by omega) (by omega)
theorem sum_lt (l : List (List Int)) (hn : l.length ≤ 12) (h : ∀ r ∈ l, r.length < 17592186044416) : (l.map List.length).sum ≤ 12 * 17592186044416 := by
 have : ∀ (l : List (List Int)), (∀ r ∈ l, r.length < 17592186044416) → (l.map List.length).sum ≤ l.length * 17592186044416 := by
  intro l
  induction l with
  | nil => intro _; simp
  | cons r l ih =>
   intro h
   have h1 := h r (List.mem_cons_self ..)
   have h2 := ih (fun z hz => h z (List.mem_cons_of_mem _ hz))
   simp only [List.map_cons, List.sum_cons, List.length_cons]
   omega
 exact Nat.le_trans (this l h) (Nat.mul_le_mul_right _ hn)
theorem mem_le_sum (l : List (List Int)) (r : List Int) (h : r ∈ l) : r.length ≤ (l.map List.length).sum := by
 induction l with
 | nil => cases h
 | cons s l ih =>
  simp only [List.map_cons, List.sum_cons]
  rcases List.mem_cons.1 h with rfl | h
  ·omega
  ·have := ih h; omega
structure Few (E G K : List (List Int)) (S : List Int) (wd : Int) : Prop where
 e : E.length ≤ 12
 g : G.length ≤ 12
 k : K.length ≤ 12
 s : S.length ≤ 200
 er : ∀ r ∈ E, r.length ≤ 200
 gr : ∀ r ∈ G, r.length ≤ 200
 kr : ∀ r ∈ K, r.length ≤ 200
 w : wd ≤ 70 ∨ 65536 < wd
theorem few_ev (h : Sz E G K S) : ∃ b, Ev (fun k => balustradelaw18_few.f k E bk al wd G K S) b ∧ (b = true → Few E G K S wd) := by
 refine ⟨_, few_l0 h.e h.g h.k E.length 0 _ (by omega) (by omega), fun hb => ?_⟩
 unfold fewV at hb
 simp only [Bool.and_eq_true, decide_eq_true_eq, Bool.or_eq_true] at hb
 obtain ⟨h1, h2, h3, h4, h5⟩ := hb
 have s1 := sum_lt E h1 h.er
 have s2 := sum_lt G h2 h.gr
 have s3 := sum_lt K h3 h.kr
 have hs := h.s
 rw [show E.drop 0 = E from rfl, foldw_sum E _ (by omega), foldw_sum G _ (by omega), foldw_sum K _ (by omega)] at h4
 have h6 : S.length + (E.map List.length).sum + (G.map List.length).sum + (K.map List.length).sum ≤ 200 := by omega
 exact ⟨h1, h2, h3, by omega, fun r hr => by have := mem_le_sum E r hr; omega, fun r hr => by have := mem_le_sum G r hr; omega, fun r hr => by have := mem_le_sum K r hr; omega, h5⟩
end
def ins (wd : Int) (l : List Int) : List Int := l.filter (fun x => decide (0 ≤ x) && decide (x < wd))
theorem inside_from (l : List Int) (wd : Int) (hl : l.length < 17592186044416) : ∀ d i (acc : List Int), l.length - i = d → i ≤ l.length → acc.length ≤ i → Ev (fun k => balustradelaw18_inside.l0 k l wd acc (i : Int)) (acc ++ ins wd (l.drop i)) := by
 intro d
 induction d with
 | zero =>
  intro i acc hd hi ha
  obtain rfl : i = l.length := by omega
  apply Ev.step
  ·intro k
   rw [balustradelaw18_inside.l0, if_neg (by omega)]
  ·simp [ins]
   exact Ev.now _
 | succ d ih =>
  intro i acc hd hi ha
  have hlt : i < l.length := by omega
  rw [List.drop_eq_getElem_cons hlt]
  have e0 : rd l (i : Int) = l[i] := rd_nat l i hlt
  by_cases h1 : 0 ≤ l[i]
  ·by_cases h2 : l[i] < wd
   ·apply Ev.step
    ·intro k
     rw [balustradelaw18_inside.l0, if_pos (by omega), if_pos (by omega), if_pos (by rw [e0]; exact h1), if_pos (by rw [e0]; exact h2), if_pos (by omega), wrap_succ i (by omega), e0]
    ·have e : ins wd (l[i] :: l.drop (i + 1)) = l[i] :: ins wd (l.drop (i + 1)) := by unfold ins; rw [List.filter_cons_of_pos (by simp [h1, h2])]
     rw [e, show acc ++ l[i] :: ins wd (l.drop (i + 1)) = (acc ++ [l[i]]) ++ ins wd (l.drop (i + 1)) by simp]
     exact ih (i + 1) (acc ++ [l[i]]) (by omega) (by omega) (by simp; omega)
   ·apply Ev.step
    ·intro k
     rw [balustradelaw18_inside.l0, if_pos (by omega), if_pos (by omega), if_pos (by rw [e0]; exact h1), if_neg (by rw [e0]; exact h2), wrap_succ i (by omega)]
    ·have e : ins wd (l[i] :: l.drop (i + 1)) = ins wd (l.drop (i + 1)) := by unfold ins; rw [List.filter_cons_of_neg (by simp [h1, h2])]
     rw [e]
     exact ih (i + 1) _ (by omega) (by omega) (by omega)
  ·apply Ev.step
   ·intro k
    rw [balustradelaw18_inside.l0, if_pos (by omega), if_pos (by omega), if_neg (by rw [e0]; exact h1), wrap_succ i (by omega)]
   ·have e : ins wd (l[i] :: l.drop (i + 1)) = ins wd (l.drop (i + 1)) := by unfold ins; rw [List.filter_cons_of_neg (by simp [h1])]
    rw [e]
    exact ih (i + 1) _ (by omega) (by omega) (by omega)
theorem inside_ev (l : List Int) (wd : Int) (hl : l.length < 17592186044416) : Ev (fun k => balustradelaw18_inside.f k l wd) (ins wd l) := inside_from l wd hl l.length 0 [] (by omega) (by omega) (by simp)
theorem ins_mem {wd : Int} {l : List Int} {x : Int} : x ∈ ins wd l ↔ x ∈ l ∧ 0 ≤ x ∧ x < wd := by simp [ins, List.mem_filter]
theorem ins_len (wd : Int) (l : List Int) : (ins wd l).length ≤ l.length := List.length_filter_le _ _
structure SetOf (wd : Int) (s : List Int) (p : Nat → Bool) : Prop where
 n : s.length = ((wd + 63) / 64).toNat
 w : wfL s
 b : ∀ i : Nat, bitL s i = (p i && decide ((i : Int) < wd))
theorem of_of (wd : Int) (h0 : 0 ≤ wd) (h1 : wd ≤ 65536) (l : List Int) (hl : l.length < 17592186044416) : ∃ r, Ev (fun k => bits_Of.f k wd l) r ∧ SetOf wd r (fun i => decide ((i : Int) ∈ l)) := by
 obtain ⟨r, hr, hn, hw, hb⟩ := of_ev wd.toNat (by omega) l (by omega)
 have e : ((wd.toNat : Nat) : Int) = wd := by omega
 rw [e] at hr
 refine ⟨r, hr, by rw [hn]; omega, hw, fun i => ?_⟩
 rw [hb]
 congr 1
 rw [decide_eq_decide]
 omega
theorem of_out (wd : Int) (h : wd < 0 ∨ 65536 < wd) (l : List Int) (hl : l.length < 17592186044416) (hb : ∀ x ∈ l, x ≤ 9223372036854775807) : Ev (fun k => bits_Of.f k wd l) [] := by
 have key : ∀ d i, l.length - i = d → i ≤ l.length → Ev (fun k => bits_Of.l0 k wd [] l (l.length : Int) (i : Int)) [] := by
  intro d
  induction d with
  | zero =>
   intro i hd hi
   apply Ev.step
   ·intro k
    rw [bits_Of.l0, if_neg (by omega)]
   ·exact Ev.now _
  | succ d ih =>
   intro i hd hi
   have hlt : i < l.length := by omega
   have e0 : rd l (i : Int) = l[i] := rd_nat l i hlt
   have hv := hb _ (List.getElem_mem hlt)
   by_cases h2 : l[i] < wd
   ·obtain ⟨s', hp, hn, _, _⟩ := put_val wfL_nil (v := l[i]) hv
    obtain rfl : s' = [] := List.eq_nil_of_length_eq_zero (by simpa using hn)
    apply Ev.step
    ·intro k
     rw [bits_Of.l0, if_pos (by omega), if_pos (by omega), if_pos (by omega), if_pos (by rw [e0]; exact h2), e0, hp, Option.bind_some, wrap_succ i (by omega)]
    ·exact ih (i + 1) (by omega) (by omega)
   ·apply Ev.step
    ·intro k
     rw [bits_Of.l0, if_pos (by omega), if_pos (by omega), if_pos (by omega), if_neg (by rw [e0]; exact h2), wrap_succ i (by omega)]
    ·exact ih (i + 1) (by omega) (by omega)
 refine Ev.congr (f := fun k => bits_Of.l0 k wd [] l (l.length : Int) 0) (fun k => ?_) (key l.length 0 (by omega) (by omega))
 unfold bits_Of.f
 rw [new_out h, Option.bind_some]
end Go.Proofs.YtanpghbakbebiaaDoor.Pure

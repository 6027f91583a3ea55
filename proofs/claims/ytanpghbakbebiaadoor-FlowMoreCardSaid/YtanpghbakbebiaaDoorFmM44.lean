/- A part of it. -/
import Derived.Test.YtanpghbakbebiaaDoorFmP0
import Derived.Test.YtanpghbakbebiaaDoorFmFlowP2
import Derived.Test.YtanpghbakbebiaaDoorFmP3
import Derived.Test.YtanpghbakbebiaaDoorFmP4
import Derived.Test.YtanpghbakbebiaaDoorFmP8
import Derived.Test.YtanpghbakbebiaaDoorFmP12
import Derived.Test.YtanpghbakbebiaaDoorFmM40
namespace Go.Proofs.YtanpghbakbebiaaDoor.P
open Go.RowKit Go.Proofs.YtanpghbakbebiaaDoorW.PrintWords Go.Proofs.YtanpghbakbebiaaDoorW.PrintLast Go.Proofs.YtanpghbakbebiaaDoorW.PrintMore
attribute [local go_sem] max2_int min2_int max_two min_two max_three min_three max_four min_four   
set_option linter.unusedVariables false
set_option linter.unusedSimpArgs false
end Go.Proofs.YtanpghbakbebiaaDoor.P
set_option linter.unusedVariables false
namespace Go.Proofs.YtanpghbakbebiaaDoor.Pure
open Go.RowKit Go.Proofs.YtanpghbakbebiaaDoor.P Go.Proofs.YtanpghbakbebiaaDoorW.PrintWords Go.Proofs.YtanpghbakbebiaaDoorW.PrintLast Go.Proofs.YtanpghbakbebiaaDoorW.PrintMore
theorem exists_ofv (wd : Int) (hw : wd ≤ 9223372036854775807) : ∃ ofv : List Int → List Int, (∀ l, l.length < 17592186044416 → Ev (fun k => bits_Of.f k wd (ins wd l)) (ofv l)) ∧ (0 ≤ wd ∧ wd ≤ 65536 → ∀ l, l.length < 17592186044416 → SetOf wd (ofv l) (fun i => decide ((i : Int) ∈ ins wd l))) ∧ (wd < 0 ∨ 65536 < wd → ∀ l, l.length < 17592186044416 → ofv l = []) := by
 have h : ∀ l : List Int, ∃ r, l.length < 17592186044416 → Ev (fun k => bits_Of.f k wd (ins wd l)) r ∧ (0 ≤ wd ∧ wd ≤ 65536 → SetOf wd r (fun i => decide ((i : Int) ∈ ins wd l))) ∧ (wd < 0 ∨ 65536 < wd → r = []) := by
  intro l
  have hl := ins_len wd l
  by_cases h : 0 ≤ wd ∧ wd ≤ 65536
  ·by_cases h2 : l.length < 17592186044416
   ·obtain ⟨r, hr, hs⟩ := of_of wd h.1 h.2 (ins wd l) (by omega)
    exact ⟨r, fun _ => ⟨hr, fun _ => hs, fun q => by omega⟩⟩
   ·exact ⟨[], fun q => absurd q h2⟩
  ·refine ⟨[], fun h2 => ⟨of_out wd (by omega) _ (by omega) (fun x hx => by have := (ins_mem.1 hx).2.2; omega), fun q => absurd q h, fun _ => rfl⟩⟩
 refine ⟨fun l => Classical.choose (h l), fun l hl => (Classical.choose_spec (h l) hl).1, fun q l hl => (Classical.choose_spec (h l) hl).2.1 q, fun q l hl => (Classical.choose_spec (h l) hl).2.2 q⟩
theorem of_l_from (wd : Int) (ofv : List Int → List Int) (l : List (List Int)) (hl : l.length ≤ 65536) (hr : ∀ r ∈ l, r.length < 17592186044416) (hof : ∀ r, r.length < 17592186044416 → Ev (fun k => bits_Of.f k wd (ins wd r)) (ofv r)) :
  ∀ d i (A C : List (List Int)), l.length - i = d → i ≤ l.length → A.length = i → C.length = i → Ev (fun k => of_l k wd l (i : Int) A C) (A ++ (l.drop i).map ofv, C ++ (l.drop i).map (ins wd)) := by
 intro d
 induction d with
 | zero =>
  intro i A C hd hi hA hC
  obtain rfl : i = l.length := by omega
  apply Ev.step
  ·intro k
   rw [of_l, if_neg (by omega)]
  ·simp
   exact Ev.now _
 | succ d ih =>
  intro i A C hd hi hA hC
  have hlt : i < l.length := by omega
  have hm : (l.getD i []).length < 17592186044416 := hr _ (getD_mem l [] hlt)
  apply Ev.step
  ·intro k
   rw [of_l, if_pos (by omega), if_pos (by omega), rdL1_nat, wrap_succ i (by omega)]
  ·refine Ev.bind (inside_ev _ wd hm) (Ev.bind (hof _ hm) ?_)
   have := ih (i + 1) (A ++ [ofv (l.getD i [])]) (C ++ [ins wd (l.getD i [])]) (by omega) (by omega) (by simp; omega) (by simp; omega)
   rw [List.drop_eq_getElem_cons hlt, List.map_cons, List.map_cons]
   rw [getD_of l [] hlt] at this ⊢
   simpa using this
theorem of_f_ev {E G K : List (List Int)} {S : List Int} (h : Sz E G K S) (hG : G.length ≤ 65536) (hK : K.length ≤ 65536) (wd : Int) (ofv : List Int → List Int) (hof : ∀ r, r.length < 17592186044416 → Ev (fun k => bits_Of.f k wd (ins wd r)) (ofv r)) :
  Ev (fun k => of_f k wd G K S) (ins wd S, ofv S, (G.map ofv, G.map (ins wd)), (K.map ofv, K.map (ins wd))) := by
 refine Ev.bind (inside_ev S wd h.s) (Ev.bind (hof S h.s) (Ev.bind (of_l_from wd ofv G hG h.gr hof G.length 0 [] [] (by omega) (by omega) rfl rfl) (Ev.bind (of_l_from wd ofv K hK h.kr hof K.length 0 [] [] (by omega) (by omega) rfl rfl) ?_)))
 simp
 exact Ev.now _
section
variable {E G K : List (List Int)} {S : List Int} {bk al : Bool} {wd : Int}
def edgesOk (n : Nat) (E : List (List Int)) : Bool := E.all (fun r => r.all (fun t => decide (0 ≤ t) && decide (t < (n : Int))))
def mayV (E G K : List (List Int)) (wd : Int) : Bool := decide (0 ≤ wd) && (decide (wd ≤ 65536) && (decide (G.length = E.length) && (decide (K.length = E.length) && edgesOk E.length E)))
theorem setRight (h0 : 0 ≤ wd) (h1 : wd ≤ 65536) {s : List Int} {p : Nat → Bool} (h : SetOf wd s p) : Ev (fun k => bits_Right.f k s wd) true := by
 obtain ⟨r, hr, hi⟩ := right_ev s h.w (by rw [h.n]; omega) wd
 have : r = true := hi.2 ⟨h0, h1, h.n, fun i hb => by rw [h.b] at hb; simp at hb; exact hb.2⟩
 rw [← this]; exact hr
theorem noRight (h : wd < 0 ∨ 65536 < wd) {s : List Int} (hs : wfL s) (hl : s.length < 34359738368) : Ev (fun k => bits_Right.f k s wd) false := by
 obtain ⟨r, hr, hi⟩ := right_ev s hs hl wd
 cases r
 ·exact hr
 ·have := hi.1 rfl; omega
variable {A B : List (List Int)} {s : List Int}
theorem rt_l1 (hE : E.length < 17592186044416) (hr : ∀ r ∈ E, r.length < 17592186044416) {i : Nat} (hi : i < E.length) {r : Bool} (hn : Ev (fun k => flow_Right.l0 k (E.length : Int) E (E.length : Int) ((i + 1 : Nat) : Int) E bk al wd A B s) r) :
  ∀ d j, (E.getD i []).length - j = d → j ≤ (E.getD i []).length → Ev (fun k => flow_Right.l1 k (E.length : Int) E (E.length : Int) (i : Int) (E.getD i []) ((E.getD i []).length : Int) (j : Int) E bk al wd A B s) (((E.getD i []).drop j).all (fun t => decide (0 ≤ t) && decide (t < (E.length : Int))) && r) := by
 have hm := hr _ (getD_mem E [] hi)
 intro d
 induction d with
 | zero =>
  intro j hd hj
  obtain rfl : j = (E.getD i []).length := by omega
  apply Ev.step
  ·intro k
   rw [flow_Right.l1, if_neg (by omega), wrap_succ i (by omega)]
  ·simp
   exact hn
 | succ d ih =>
  intro j hd hj
  have hlt : j < (E.getD i []).length := by omega
  rw [List.drop_eq_getElem_cons hlt]
  have e0 : rd (E.getD i []) (j : Int) = (E.getD i [])[j] := rd_nat _ j hlt
  by_cases h1 : (E.getD i [])[j] < 0
  ·apply Ev.step
   ·intro k
    rw [flow_Right.l1, if_pos (by omega), if_pos (by omega), if_pos (by omega), if_pos (by rw [e0]; exact h1)]
   ·have e : decide (0 ≤ (E.getD i [])[j]) = false := decide_eq_false (by omega)
    rw [List.all_cons, e]
    exact Ev.now _
  ·by_cases h2 : (E.getD i [])[j] ≥ (E.length : Int)
   ·apply Ev.step
    ·intro k
     rw [flow_Right.l1, if_pos (by omega), if_pos (by omega), if_pos (by omega), if_neg (by rw [e0]; exact h1), if_pos (by rw [e0]; exact h2)]
    ·have e : decide ((E.getD i [])[j] < (E.length : Int)) = false := decide_eq_false (by omega)
     rw [List.all_cons, e, Bool.and_false, Bool.false_and]
     exact Ev.now _
   ·apply Ev.step
    ·intro k
     rw [flow_Right.l1, if_pos (by omega), if_pos (by omega), if_pos (by omega), if_neg (by rw [e0]; exact h1), if_neg (by rw [e0]; exact h2), wrap_succ j (by omega)]
    ·have e : decide (0 ≤ (E.getD i [])[j]) = true := decide_eq_true (by omega)
     have e' : decide ((E.getD i [])[j] < (E.length : Int)) = true := decide_eq_true (by omega)
     rw [List.all_cons, e, e', Bool.true_and, Bool.true_and]
     exact ih (j + 1) (by omega) (by omega)
theorem rt_l0 (hE : E.length < 17592186044416) (hr : ∀ r ∈ E, r.length < 17592186044416) (hA : A.length = E.length) (hB : B.length = E.length) (rA : ∀ x ∈ A, Ev (fun k => bits_Right.f k x wd) true) (rB : ∀ x ∈ B, Ev (fun k => bits_Right.f k x wd) true) :
  ∀ d i, E.length - i = d → i ≤ E.length → Ev (fun k => flow_Right.l0 k (E.length : Int) E (E.length : Int) (i : Int) E bk al wd A B s) (edgesOk E.length (E.drop i)) := by
 intro d
 induction d with
 | zero =>
  intro i hd hi
  obtain rfl : i = E.length := by omega
  apply Ev.step
  ·intro k
   rw [flow_Right.l0, if_neg (by omega)]
  ·simp [edgesOk]
   exact Ev.now _
 | succ d ih =>
  intro i hd hi
  have hlt : i < E.length := by omega
  apply Ev.step
  ·intro k
   rw [flow_Right.l0, if_pos (by omega), if_pos (by omega), if_pos (by omega), if_pos (by omega), rdL3_nat, rdL3_nat, rdL1_nat]
  ·refine Ev.bind (rA _ (getD_mem A [] (by omega))) ?_
   refine Ev.congr (fun k => by rw [if_pos rfl, if_pos (by omega)]) ?_
   refine Ev.bind (rB _ (getD_mem B [] (by omega))) ?_
   apply Ev.step
   ·intro k
    rw [flow_Right.j2, if_neg (by simp)]
   ·have := rt_l1 (bk := bk) (al := al) (wd := wd) (A := A) (B := B) (s := s) hE hr hlt (ih (i + 1) (by omega) (by omega)) (E.getD i []).length 0 (by omega) (by omega)
    rw [List.drop_zero] at this
    have e : edgesOk E.length (E.drop i) = ((E.getD i []).all (fun t => decide (0 ≤ t) && decide (t < (E.length : Int))) && edgesOk E.length (E.drop (i + 1))) := by
     unfold edgesOk
     rw [List.drop_eq_getElem_cons hlt, List.all_cons, getD_of E [] hlt]
    rw [e]
    exact this
theorem rt_ev (hE : E.length ≤ 65536) (hr : ∀ r ∈ E, r.length < 17592186044416) (hA : A.length = G.length) (hB : B.length = K.length)
  (hin : 0 ≤ wd ∧ wd ≤ 65536 → (∀ x ∈ A, Ev (fun k => bits_Right.f k x wd) true) ∧ (∀ x ∈ B, Ev (fun k => bits_Right.f k x wd) true) ∧ Ev (fun k => bits_Right.f k s wd) true) (hout : wd < 0 ∨ 65536 < wd → Ev (fun k => bits_Right.f k s wd) false) :
  Ev (fun k => flow_Right.f k E bk al wd A B s) (mayV E G K wd) := by
 have j0f : Ev (fun k => flow_Right.j0 k (E.length : Int) true E bk al wd A B s) false := by
  apply Ev.step
  ·intro k
   rw [flow_Right.j0, if_pos rfl]
  ·exact Ev.now _
 have hgo : Ev (fun k => flow_Right.f k E bk al wd A B s) (mayV E G K wd) ↔ Ev (fun k => if (A.length : Int) = (E.length : Int) then (if (B.length : Int) = (E.length : Int) then ((bits_Right.f k s wd).bind fun t139 => (flow_Right.j0 k (E.length : Int) (!t139) E bk al wd A B s)) else (flow_Right.j0 k (E.length : Int) true E bk al wd A B s)) else (flow_Right.j0 k (E.length : Int) true E bk al wd A B s)) (mayV E G K wd) := by
  have e : ∀ k, flow_Right.f k E bk al wd A B s = if (A.length : Int) = (E.length : Int) then (if (B.length : Int) = (E.length : Int) then ((bits_Right.f k s wd).bind fun t139 => (flow_Right.j0 k (E.length : Int) (!t139) E bk al wd A B s)) else (flow_Right.j0 k (E.length : Int) true E bk al wd A B s)) else (flow_Right.j0 k (E.length : Int) true E bk al wd A B s) := fun k => by rw [flow_Right.f, if_neg (by omega)]
  exact ⟨fun q => Ev.congr (fun k => (e k).symm) q, fun q => Ev.congr e q⟩
 rw [hgo]
 unfold mayV
 by_cases h3 : G.length = E.length
 ·refine Ev.congr (fun k => by rw [if_pos (by omega)]) ?_
  by_cases h4 : K.length = E.length
  ·refine Ev.congr (fun k => by rw [if_pos (by omega)]) ?_
   rw [decide_eq_true h3, decide_eq_true h4]
   by_cases hw : 0 ≤ wd ∧ wd ≤ 65536
   ·obtain ⟨rA, rB, rS⟩ := hin hw
    refine Ev.bind rS ?_
    rw [decide_eq_true hw.1, decide_eq_true hw.2]
    apply Ev.step
    ·intro k
     rw [flow_Right.j0, if_neg (by simp)]
    ·simpa using rt_l0 (s := s) (bk := bk) (al := al) (by omega) hr (by omega) (by omega) rA rB E.length 0 (by omega) (by omega)
   ·refine Ev.bind (hout (by omega)) ?_
    have e : (decide (0 ≤ wd) && (decide (wd ≤ 65536) && (true && (true && edgesOk E.length E)))) = false := by
     by_cases h0 : 0 ≤ wd
     ·rw [decide_eq_false (show ¬ wd ≤ 65536 by omega)]; simp
     ·rw [decide_eq_false h0]; simp
    rw [e]; exact j0f
  ·refine Ev.congr (fun k => by rw [if_neg (by omega)]) ?_
   rw [decide_eq_false h4]; simpa using j0f
 ·refine Ev.congr (fun k => by rw [if_neg (by omega)]) ?_
  rw [decide_eq_false h3]; simpa using j0f
end
end Go.Proofs.YtanpghbakbebiaaDoor.Pure
set_option linter.unusedVariables false
namespace Go.Proofs.YtanpghbakbebiaaDoor.Pure
open Go.RowKit Go.Proofs.YtanpghbakbebiaaDoor.P Go.Proofs.YtanpghbakbebiaaDoorW.PrintWords Go.Proofs.YtanpghbakbebiaaDoorW.PrintLast Go.Proofs.YtanpghbakbebiaaDoorW.PrintMore
def prOf (E : List (List Int)) (bk al : Bool) (W : Nat) (G K : List (List Int)) (S : List Int) : Pr where
 n := E.length
 wd := W
 all := al
 ah k := if bk = true then (E.getD k []).map Int.toNat else (List.range E.length).filter (fun j => decide ((k : Int) ∈ E.getD j []))
 beg k := if bk = true then (E.getD k []).length == 0 else k == 0
 st i := decide ((i : Int) ∈ S)
 gen k i := decide ((i : Int) ∈ G.getD k [])
 kil k i := decide ((i : Int) ∈ K.getD k [])
structure Good (E G K : List (List Int)) (S : List Int) (W : Nat) : Prop where
 sz : Sz E G K S
 n : E.length ≤ 65536
 g : G.length = E.length
 k : K.length = E.length
 e : ∀ r ∈ E, ∀ t ∈ r, 0 ≤ t ∧ t < (E.length : Int)
 w : W ≤ 65536
section
variable {E G K : List (List Int)} {S : List Int} {bk al : Bool} {W : Nat}
theorem prOf_ok (h : Good E G K S W) : (prOf E bk al W G K S).Ok := by
 intro k a ha
 unfold prOf at ha ⊢
 dsimp only at ha ⊢
 cases bk
 ·simp at ha; exact ha.1
 ·simp only [if_true, List.mem_map] at ha
  obtain ⟨t, ht, rfl⟩ := ha
  by_cases hk : k < E.length
  ·have := h.e _ (getD_mem E [] hk) t ht; omega
  ·rw [List.getD_eq_getElem?_getD, List.getElem?_eq_none (by omega)] at ht; cases ht
end
end Go.Proofs.YtanpghbakbebiaaDoor.Pure
set_option linter.unusedVariables false
namespace Go.Proofs.YtanpghbakbebiaaDoor.Pure
open Go.RowKit Go.Proofs.YtanpghbakbebiaaDoor.P Go.Proofs.YtanpghbakbebiaaDoorW.PrintWords Go.Proofs.YtanpghbakbebiaaDoorW.PrintLast Go.Proofs.YtanpghbakbebiaaDoorW.PrintMore
theorem getD_set {α : Type} (l : List α) (d x : α) (i j : Nat) : (l.set i x).getD j d = if i = j ∧ i < l.length then x else l.getD j d := by
 simp only [List.getD_eq_getElem?_getD]
 by_cases h : i = j
 ·subst h
  by_cases h2 : i < l.length
  ·rw [List.getElem?_set_self h2, if_pos ⟨rfl, h2⟩]; rfl
  ·rw [if_neg (by omega), List.set_eq_of_length_le (by omega)]
 ·rw [List.getElem?_set_ne h, if_neg (by omega)]
section
variable {E G K : List (List Int)} {S : List Int} {bk al : Bool} {W : Nat}
abbrev PP (E G K : List (List Int)) (S : List Int) (bk al : Bool) (W : Nat) : Pr := prOf E bk al W G K S
end
end Go.Proofs.YtanpghbakbebiaaDoor.Pure

/- A part of it. -/
import Derived.Test.YtomopjomapkmjaaDtP0
namespace Go.Proofs.Ytomopjomapkmjaa.P
open Go.RowKit Go.Proofs.YtomopjomapkmjaaW.PrintWords Go.Proofs.YtomopjomapkmjaaW.PrintLast Go.Proofs.YtomopjomapkmjaaW.PrintMore
attribute [local go_sem] max2_int min2_int max_two min_two max_three min_three max_four min_four   
set_option linter.unusedVariables false
set_option linter.unusedSimpArgs false
def balustradebase_SameInts.l0 : Nat → List Int → List Int → Int → Option (Bool)
 | 0, _, _, _ => none
 | k + 1, x0, x1, x5 => if x5 < (x0.length : Int) then (if 0 ≤ x5 then (if x5 < (x1.length : Int) then (if (rd x0 x5) = (rd x1 x5) then (balustradebase_SameInts.l0 k x0 x1 (wrap64 (x5 + 1))) else (some false)) else (none)) else (none)) else (some true)
def balustradebase_SameInts.f (k : Nat) (l0 : List Int) (l1 : List Int) : Option (Bool) := if (l0.length : Int) = (l1.length : Int) then (balustradebase_SameInts.l0 k l0 l1 0) else (some false)
theorem balustradebase_SameInts.mono_l : ∀ k, (∀ y0 y1 y2, LeO (balustradebase_SameInts.l0 k y0 y1 y2) (balustradebase_SameInts.l0 (k + 1) y0 y1 y2))
 | 0 => fun _ _ _ r h => by simp [balustradebase_SameInts.l0] at h
 | k + 1 => by
  have ih0 := balustradebase_SameInts.mono_l k
  ·intro y0 y1 y2
   unfold balustradebase_SameInts.l0
   repeat' first
   | (with_reducible exact ih0 _ _ _)
   | (with_reducible exact LeO.refl _)
   | (with_reducible exact LeO.none _)
   | (with_reducible refine LeO.ite ?_ ?_)
   | (with_reducible refine LeO.bind ?_ (fun _ => ?_))
   | exact ih0 _ _ _
   | exact LeO.none _
   | refine LeO.ite ?_ ?_
   | refine LeO.bind ?_ (fun _ => ?_)
theorem balustradebase_SameInts.mono : ∀ a0 a1 k, LeO (balustradebase_SameInts.f k a0 a1) (balustradebase_SameInts.f (k + 1) a0 a1) := by
 intro a0 a1 k
 have ih0 := balustradebase_SameInts.mono_l k
 unfold balustradebase_SameInts.f
 repeat' first
   | (with_reducible exact ih0 _ _ _)
   | (with_reducible exact LeO.refl _)
   | (with_reducible exact LeO.none _)
   | (with_reducible refine LeO.ite ?_ ?_)
   | (with_reducible refine LeO.bind ?_ (fun _ => ?_))
   | exact ih0 _ _ _
   | exact LeO.none _
   | refine LeO.ite ?_ ?_
   | refine LeO.bind ?_ (fun _ => ?_)
set_option maxHeartbeats 8000000 in
set_option maxRecDepth 100000 in
theorem balustradebase_SameInts.calls (k : Nat) (A0 : Option Addr) (c0 : Nat) (l0 : List Int) (A1 : Option Addr) (c1 : Nat) (l1 : List Int) (r : Bool) (w : World) (hr0 : Kd.C (Kd.int .i64) w A0 l0.length l0) (hc0 : l0.length ≤ c0) (hr1 : Kd.C (Kd.int .i64) w A1 l1.length l1) (hc1 : l1.length ≤ c1) (h : balustradebase_SameInts.f k l0 l1 = some r) :
  Calls Try.prog 14 #[.slice A0 l0.length c0, .slice A1 l1.length c1] w fun e w' => e = .returned (.bool r) ∧ Drawn0 w w' := by
 have HR0 := Aside0.mk hr0
 have HC0 := Aside0.mk hc0
 clear hr0 hc0
 have HR1 := Aside0.mk hr1
 have HC1 := Aside0.mk hc1
 clear hr1 hc1
 have H : (if (l0.length : Int) = (l1.length : Int) then (balustradebase_SameInts.l0 k l0 l1 0) else (some false)) = some r := h
 clear h
 by_cases c3 : (l0.length : Int) = (l1.length : Int)
 ·rw [if_pos c3] at H
  have c3b0 : ((l0.length : Int) == (l1.length : Int)) = true := beq_iff_eq.mpr c3
  have c3b1 : ((l0.length : Int) != (l1.length : Int)) = false := bne_eq_false_iff_eq.mpr c3
  have c3b2 : (l0.length == l1.length) = true := by first | simpa using c3 | (simp at c3 ⊢; omega)
  clear c3
  have H' := Aside0.mk H
  clear H
  go_enter Try.func14, Try.ntmps14
  go_wp2
  repeat (go_quiet (fail); try go_wp2)
  go_loopg [5] k (fun kq v5 w' => ∃ (x5_1 : Int), v5 = .int .i64 x5_1 ∧ Aside0 (balustradebase_SameInts.l0 kq l0 l1 x5_1 = some r) ∧ Aside0 (kq ≤ k) ∧ Drawn0 w w')
  case atStart => exact ⟨(0), zQ, H', ⟨Nat.le_refl _⟩, zD⟩
  case round =>
   clear H'
   try clear c1
   try clear p2
   try clear c3
   try clear c3b0
   try clear c3b1
   try clear c3b2
   obtain ⟨x5_1, rfl, HA, HK1, ⟨m1, rfl⟩⟩ := hrel
   cases gk with
   | zero => exact absurd HA.out (by simp [balustradebase_SameInts.l0])
   | succ k1 =>
    have H := HA.out
    clear HA
    simp only [balustradebase_SameInts.l0] at H
    by_cases c4 : x5_1 < (l0.length : Int)
    ·rw [if_pos c4] at H
     have c4b0 : decide (x5_1 < (l0.length : Int)) = true := decide_eq_true c4
     clear c4
     by_cases c5 : 0 ≤ x5_1
     ·rw [if_pos c5] at H
      have c5b0 : decide (0 ≤ x5_1) = true := decide_eq_true c5
      clear c5
      by_cases c6 : x5_1 < (l1.length : Int)
      ·rw [if_pos c6] at H
       have c6b0 : decide (x5_1 < (l1.length : Int)) = true := decide_eq_true c6
       clear c6
       by_cases c7 : (rd l0 x5_1) = (rd l1 x5_1)
       ·rw [if_pos c7] at H
        have c7b0 : ((rd l0 x5_1) == (rd l1 x5_1)) = true := beq_iff_eq.mpr c7
        have c7b1 : ((rd l0 x5_1) != (rd l1 x5_1)) = false := bne_eq_false_iff_eq.mpr c7
        clear c7
        have H' := Aside0.mk H
        clear H
        have p101 : 0 ≤ (x5_1 : Int) := zO
        have q101 : x5_1 < (l0.length : Int) := zO
        obtain ⟨ad101, e101, hx101_0⟩ := Kd.at_int HR0.out x5_1 p101 q101
        cases e101
        replace p101 := eq_true p101
        replace q101 := eq_true q101
        have p102 : 0 ≤ (x5_1 : Int) := zO
        have q102 : x5_1 < (l1.length : Int) := zO
        obtain ⟨ad102, e102, hx102_0⟩ := Kd.at_int HR1.out x5_1 p102 q102
        cases e102
        replace p102 := eq_true p102
        replace q102 := eq_true q102
        go_wp2
        repeat (go_quiet (fail); try go_wp2)
        go_roundg k1
        case measure => have := HK1.out; omega
        case rel => exact ⟨(wrap64 (x5_1 + 1)), zQ, H', ⟨by have := HK1.out; omega⟩, zD⟩
       ·rw [if_neg c7] at H
        have c7b0 : ((rd l0 x5_1) == (rd l1 x5_1)) = false := beq_eq_false_iff_ne.mpr c7
        have c7b1 : ((rd l0 x5_1) != (rd l1 x5_1)) = true := bne_iff_ne.mpr c7
        obtain rfl := Option.some.inj H
        have p101 : 0 ≤ (x5_1 : Int) := zO
        have q101 : x5_1 < (l0.length : Int) := zO
        obtain ⟨ad101, e101, hx101_0⟩ := Kd.at_int HR0.out x5_1 p101 q101
        cases e101
        replace p101 := eq_true p101
        replace q101 := eq_true q101
        have p102 : 0 ≤ (x5_1 : Int) := zO
        have q102 : x5_1 < (l1.length : Int) := zO
        obtain ⟨ad102, e102, hx102_0⟩ := Kd.at_int HR1.out x5_1 p102 q102
        cases e102
        replace p102 := eq_true p102
        replace q102 := eq_true q102
        go_wp2
        repeat (go_quiet (fail); try go_wp2)
        go_ret
        exact ⟨zQ, zD⟩
      ·rw [if_neg c6] at H
       exact absurd H (by simp)
     ·rw [if_neg c5] at H
      exact absurd H (by simp)
    ·rw [if_neg c4] at H
     have c4b0 : decide (x5_1 < (l0.length : Int)) = false := decide_eq_false c4
     clear c4
     obtain rfl := Option.some.inj H
     go_wp2
     repeat (go_quiet (fail); try go_wp2)
     go_ret
     exact ⟨zQ, zD⟩
 ·rw [if_neg c3] at H
  have c3b0 : ((l0.length : Int) == (l1.length : Int)) = false := beq_eq_false_iff_ne.mpr c3
  have c3b1 : ((l0.length : Int) != (l1.length : Int)) = true := bne_iff_ne.mpr c3
  have c3b2 : (l0.length == l1.length) = false := by first | simpa using c3 | (simp at c3 ⊢; omega)
  obtain rfl := Option.some.inj H
  go_enter Try.func14, Try.ntmps14
  go_wp2
  repeat (go_quiet (fail); try go_wp2)
  go_ret
  exact ⟨zQ, zD⟩
def gtGo (s : List (List Int)) (but : Int) : Nat → Int → List Bool × List Int → List Bool × List Int
 | 0, _, st => st
 | n + 1, k, st => if k = but ∨ st.1.getD k.toNat false = true then st else
   let st2 := (s.getD k.toNat []).foldl (fun q t => gtGo s but n t q) (st.1.set k.toNat true, st.2)
   (st2.1, st2.2 ++ [k])
def gtUn (l : List Bool) : Nat := l.count false
theorem gtUn_set (l : List Bool) (i : Nat) : gtUn (l.set i true) ≤ gtUn l := by
 unfold gtUn
 induction l generalizing i with
 | nil => simp
 | cons x l ih =>
  cases i with
  | zero => cases x <;> simp
  | succ i => cases x <;> simp [ih i]
theorem gtUn_set_lt (l : List Bool) (i : Nat) (hi : i < l.length) (h : l.getD i false = false) : gtUn (l.set i true) + 1 = gtUn l := by
 unfold gtUn
 induction l generalizing i with
 | nil => simp at hi
 | cons x l ih =>
  cases i with
  | zero => simp at h; subst h; simp
  | succ i =>
   have := ih i (by simpa using hi) (by simpa using h)
   cases x <;> simp <;> omega
theorem gtGo_len (s : List (List Int)) (but : Int) : ∀ n k st, (gtGo s but n k st).1.length = st.1.length ∧ gtUn (gtGo s but n k st).1 ≤ gtUn st.1 := by
 intro n
 induction n with
 | zero => intro k st; exact ⟨rfl, Nat.le_refl _⟩
 | succ n ih =>
  intro k st
  have fold : ∀ (l : List Int) (q : List Bool × List Int), (l.foldl (fun q t => gtGo s but n t q) q).1.length = q.1.length ∧ gtUn (l.foldl (fun q t => gtGo s but n t q) q).1 ≤ gtUn q.1 := by
   intro l
   induction l with
   | nil => intro q; exact ⟨rfl, Nat.le_refl _⟩
   | cons t l ihl =>
    intro q
    have h1 := ih t q
    have h2 := ihl (gtGo s but n t q)
    exact ⟨h2.1.trans h1.1, Nat.le_trans h2.2 h1.2⟩
  unfold gtGo
  split
  ·exact ⟨rfl, Nat.le_refl _⟩
  ·have h := fold (s.getD k.toNat []) (st.1.set k.toNat true, st.2)
   refine ⟨h.1.trans (by simp), Nat.le_trans h.2 ?_⟩
   exact gtUn_set st.1 k.toNat
theorem gtGo_cnt (s : List (List Int)) (but : Int) (hv : ∀ l ∈ s, ∀ t ∈ l, 0 ≤ t ∧ t < (s.length : Int)) : ∀ n (k : Int) st, 0 ≤ k → k < (s.length : Int) → st.1.length = s.length → (gtGo s but n k st).2.length + gtUn (gtGo s but n k st).1 ≤ st.2.length + gtUn st.1 := by
 intro n
 induction n with
 | zero => intro k st _ _ _; exact Nat.le_refl _
 | succ n ih =>
  intro k st h0 h1 hs
  have fold : ∀ (l : List Int), (∀ t ∈ l, 0 ≤ t ∧ t < (s.length : Int)) → ∀ (q : List Bool × List Int), q.1.length = s.length → (l.foldl (fun q t => gtGo s but n t q) q).2.length + gtUn (l.foldl (fun q t => gtGo s but n t q) q).1 ≤ q.2.length + gtUn q.1 := by
   intro l
   induction l with
   | nil => intro _ q _; exact Nat.le_refl _
   | cons t l ihl =>
    intro hl q hq
    have a1 := ih t q (hl t (by simp)).1 (hl t (by simp)).2 hq
    have a2 := ihl (fun t ht => hl t (by simp [ht])) (gtGo s but n t q) ((gtGo_len s but n t q).1.trans hq)
    simp only [List.foldl_cons]
    omega
  unfold gtGo
  split
  ·exact Nat.le_refl _
  ·rename_i hn
   have hk : k.toNat < st.1.length := by omega
   have hf : st.1.getD k.toNat false = false := by
    cases hx : st.1.getD k.toNat false with
    | false => rfl
    | true => exact absurd (.inr hx) hn
   have hu := gtUn_set_lt st.1 k.toNat hk hf
   have hr : ∀ t ∈ s.getD k.toNat [], 0 ≤ t ∧ t < (s.length : Int) := by
    rw [List.getD_eq_getElem?_getD, List.getElem?_eq_getElem (by omega)]
    exact hv _ (List.getElem_mem _)
   have := fold _ hr (st.1.set k.toNat true, st.2) (by simpa using hs)
   simp only [List.length_append, List.length_singleton]
   simp only at this
   omega
theorem gt_zero (l : List Bool) (h : gtUn l = 0) (k : Nat) (hk : k < l.length) : l.getD k false = true := by
 unfold gtUn at h
 rw [List.count_eq_zero] at h
 cases hx : l.getD k false with
 | true => rfl
 | false =>
  exfalso
  apply h
  rw [List.getD_eq_getElem?_getD, List.getElem?_eq_getElem hk] at hx
  simp at hx
  rw [← hx]
  exact List.getElem_mem hk
def GtInv (n0 : Nat) (w0 Wc : World) (g Bo : Nat) (W : World) : Prop := Below n0 w0 W ∧ Kept Wc W (fun k => k = g ∨ k = Bo)
def GtAt (g : Nat) (seen : List Bool) (W : World) : Prop := W.heap[g]? = some (.cells (seen.map Value.bool).toArray 4 (0, 0))
theorem GtAt.cell {g : Nat} {seen : List Bool} {W : World} (h : GtAt g seen W) (k : Nat) (hk : k < seen.length) : W.cell? ⟨g, k, none⟩ = some (.bool (seen.getD k false)) := by
 have := blk_cell h k
 rw [this, List.getElem?_toArray, List.getElem?_map, List.getElem?_eq_getElem hk]
 simp [List.getD_eq_getElem?_getD, List.getElem?_eq_getElem hk]
theorem GtAt.set {g : Nat} {seen : List Bool} {W : World} (h : GtAt g seen W) (k : Nat) (b : Bool) : GtAt g (seen.set k b) (W.setCell ⟨g, k, none⟩ (.bool b)) := by
 have := blk_set h k (.bool b)
 unfold GtAt
 rw [this]
 congr 2
 simp [List.map_set]
theorem gt_F_to {α : Type} {d : Kd α} {n0 : Nat} {w0 Wc W : World} {g Bo : Nat} {A : Option Addr} {n : Nat} {xs : List α} (h : Kd.F d Wc (fun k => (k ≠ g ∧ k ≠ Bo) ∧ k < Wc.heap.size) A n xs) (hW : GtInv n0 w0 Wc g Bo W) : Kd.F d W (fun k => (k ≠ g ∧ k ≠ Bo) ∧ k < Wc.heap.size) A n xs :=
 Kd.F_step h (fun k hk hlt => hW.2.2 k hlt (fun hs => hs.elim hk.1.1 hk.1.2))
theorem gt_F_inv {α : Type} {d : Kd α} {n0 : Nat} {w0 Wc W1 W2 : World} {g Bo : Nat} {A : Option Addr} {n : Nat} {xs : List α} (h : Kd.F d W1 (fun k => (k ≠ g ∧ k ≠ Bo) ∧ k < Wc.heap.size) A n xs) (h1 : GtInv n0 w0 Wc g Bo W1) (h2 : GtInv n0 w0 Wc g Bo W2) : Kd.F d W2 (fun k => (k ≠ g ∧ k ≠ Bo) ∧ k < Wc.heap.size) A n xs :=
 Kd.F_step h (fun k hk _ => (h2.2.2 k hk.2 (fun hs => hs.elim hk.1.1 hk.1.2)).trans (h1.2.2 k hk.2 (fun hs => hs.elim hk.1.1 hk.1.2)).symm)
def GtPost_o (n0 : Nat) (w0 Wc : World) (g Bo : Nat) (J : List Int → World → Prop) (st : List Bool × List Int) (e : Ending) (W' : World) : Prop := e = .returned (.tuple #[]) ∧ GtInv n0 w0 Wc g Bo W' ∧ GtAt g st.1 W' ∧ J st.2 W'
set_option maxHeartbeats 8000000 in
set_option maxRecDepth 100000 in
theorem gt_into_o (s : List (List Int)) (but : Int) (n0 : Nat) (w0 Wc : World) (B1 B2 B3 B4 B5 g Bo : Nat) (A3 : Option Addr) (c3 : Nat) (J : List Int → World → Prop)
  (hval : ∀ l ∈ s, ∀ t ∈ l, 0 ≤ t ∧ t < (s.length : Int))
  (b1 : Wc.heap[B1]? = some (.cells #[.int .i64 but] 3 (0, 0))) (b2 : Wc.heap[B2]? = some (.cells #[.slice (some ⟨g, 0, none⟩) s.length s.length] 45 (0, 0))) (b3 : Wc.heap[B3]? = some (.cells #[.slice A3 s.length c3] 43 (0, 0)))
  (b4 : Wc.heap[B4]? = some (.cells #[.func (.func 76) #[] #[.pointer (some ⟨B1, 0, none⟩), .pointer (some ⟨B2, 0, none⟩), .pointer (some ⟨B3, 0, none⟩), .pointer (some ⟨B4, 0, none⟩), .pointer (some ⟨B5, 0, none⟩)]] 86 (0, 0))) (b5 : Wc.heap[B5]? = some (.cells #[.func (.func 67) #[] #[.pointer (some ⟨Bo, 0, none⟩)]] 86 (0, 0)))
  (hne : (B1 ≠ g ∧ B2 ≠ g ∧ B3 ≠ g ∧ B4 ≠ g ∧ B5 ≠ g) ∧ (B1 ≠ Bo ∧ B2 ≠ Bo ∧ B3 ≠ Bo ∧ B4 ≠ Bo ∧ B5 ≠ Bo))
  (hF : Kd.F (Kd.slice 3 (Kd.int .i64)) Wc (fun k => (k ≠ g ∧ k ≠ Bo) ∧ k < Wc.heap.size) A3 s.length s) (hn0 : n0 ≤ g) (M : Nat)
  (hJ : ∀ l W i b seen, GtAt g seen W → J l W → J l (W.setCell ⟨g, i, none⟩ (.bool b)))
  (hL : ∀ l (k : Int) W, l.length + 1 ≤ M → GtInv n0 w0 Wc g Bo W → J l W → Calls Try.prog 67 #[.int .i64 k, .pointer (some ⟨Bo, 0, none⟩)] W fun e W' => e = .returned (.tuple #[]) ∧ GtInv n0 w0 Wc g Bo W' ∧ W'.heap[g]? = W.heap[g]? ∧ J (l ++ [k]) W') :
  ∀ (n k : Nat) (seen : List Bool) (left : List Int) (W : World), k < s.length → seen.length = s.length → gtUn seen ≤ n → left.length + gtUn seen ≤ M → GtInv n0 w0 Wc g Bo W → GtAt g seen W → J left W →
  Calls Try.prog 76 #[.int .i64 (k : Int), .pointer (some ⟨B1, 0, none⟩), .pointer (some ⟨B2, 0, none⟩), .pointer (some ⟨B3, 0, none⟩), .pointer (some ⟨B4, 0, none⟩), .pointer (some ⟨B5, 0, none⟩)] W (GtPost_o n0 w0 Wc g Bo J (gtGo s but n (k : Int) (seen, left))) := by
 have BX : ∀ W, GtInv n0 w0 Wc g Bo W → Aside0 (W.cell? ⟨B1, 0, none⟩ = some (.int .i64 but) ∧ W.cell? ⟨B2, 0, none⟩ = some (.slice (some ⟨g, 0, none⟩) s.length s.length) ∧ W.cell? ⟨B3, 0, none⟩ = some (.slice A3 s.length c3) ∧ W.cell? ⟨B4, 0, none⟩ = some (.func (.func 76) #[] #[.pointer (some ⟨B1, 0, none⟩), .pointer (some ⟨B2, 0, none⟩), .pointer (some ⟨B3, 0, none⟩), .pointer (some ⟨B4, 0, none⟩), .pointer (some ⟨B5, 0, none⟩)]) ∧ W.cell? ⟨B5, 0, none⟩ = some (.func (.func 67) #[] #[.pointer (some ⟨Bo, 0, none⟩)])) := fun W hW =>
  ⟨blk_cell (blk_kept b1 hW.2 (by have := hne; intro h; omega)) 0, blk_cell (blk_kept b2 hW.2 (by have := hne; intro h; omega)) 0, blk_cell (blk_kept b3 hW.2 (by have := hne; intro h; omega)) 0, blk_cell (blk_kept b4 hW.2 (by have := hne; intro h; omega)) 0, blk_cell (blk_kept b5 hW.2 (by have := hne; intro h; omega)) 0⟩
 have HBX := Aside0.mk BX
 have HVAL := Aside0.mk hval
 have HF := Aside0.mk hF
 have HJ := Aside0.mk hJ
 have HL := Aside0.mk hL
 have HN0 := Aside0.mk hn0
 have HNE := Aside0.mk hne
 clear BX hval hF hJ hL hn0 hne b1 b2 b3 b4 b5
 intro n
 induction n with
 | zero =>
  intro k seen left W hk hs hu hM hI hG hJ0
  have hz := gt_zero seen (by omega) k (by omega)
  by_cases hb : (k : Int) = but
  ·have t1 : ((k : Int) == but) = true := beq_iff_eq.mpr hb
   obtain ⟨c1, c2, c3_, c4, c5⟩ := (HBX.out W hI).out
   have cg := hG.cell k (by omega)
   have fg : W.frozen? ⟨g, k, none⟩ = false := blk_frozen hG k
   have HI := Aside0.mk hI
   have HG := Aside0.mk hG
   have HJ0 := Aside0.mk hJ0
   have HU := Aside0.mk hu
   have HS := Aside0.mk hs
   have p1 : (0 : Int) ≤ (k : Int) := by omega
   have p2 : (k : Int) < (s.length : Int) := by omega
   clear hI hG hJ0 hu hs
   clear hz hb hM
   go_enter Try.func76, Try.ntmps76
   go_wp2
   refine bodyPost_ret (results_none rfl _ _ _) rfl ?_
   exact ⟨rfl, HI.out, by rw [gtGo]; exact HG.out, by rw [gtGo]; exact HJ0.out⟩
  ·have t1 : ((k : Int) == but) = false := beq_eq_false_iff_ne.mpr hb
   obtain ⟨c1, c2, c3_, c4, c5⟩ := (HBX.out W hI).out
   have cg := hG.cell k (by omega)
   have fg : W.frozen? ⟨g, k, none⟩ = false := blk_frozen hG k
   have HI := Aside0.mk hI
   have HG := Aside0.mk hG
   have HJ0 := Aside0.mk hJ0
   have HU := Aside0.mk hu
   have HS := Aside0.mk hs
   have p1 : (0 : Int) ≤ (k : Int) := by omega
   have p2 : (k : Int) < (s.length : Int) := by omega
   clear hI hG hJ0 hu hs
   rw [hz] at cg
   clear hz hb hM
   go_enter Try.func76, Try.ntmps76
   go_wp2
   refine bodyPost_ret (results_none rfl _ _ _) rfl ?_
   exact ⟨rfl, HI.out, by rw [gtGo]; exact HG.out, by rw [gtGo]; exact HJ0.out⟩
 | succ n ih =>
  have IH := Aside0.mk ih
  clear ih
  intro k seen left W hk hs hu hM hI hG hJ0
  by_cases hb : (k : Int) = but
  ·have e : gtGo s but (n + 1) (k : Int) (seen, left) = (seen, left) := by unfold gtGo; rw [if_pos (.inl hb)]
   have E := Aside0.mk e
   have t1 : ((k : Int) == but) = true := beq_iff_eq.mpr hb
   obtain ⟨c1, c2, c3_, c4, c5⟩ := (HBX.out W hI).out
   have cg := hG.cell k (by omega)
   have fg : W.frozen? ⟨g, k, none⟩ = false := blk_frozen hG k
   have HI := Aside0.mk hI
   have HG := Aside0.mk hG
   have HJ0 := Aside0.mk hJ0
   have HU := Aside0.mk hu
   have HS := Aside0.mk hs
   have p1 : (0 : Int) ≤ (k : Int) := by omega
   have p2 : (k : Int) < (s.length : Int) := by omega
   clear hI hG hJ0 hu hs
   clear hb e hM
   go_enter Try.func76, Try.ntmps76
   go_wp2
   refine bodyPost_ret (results_none rfl _ _ _) rfl ?_
   exact ⟨rfl, HI.out, by rw [E.out]; exact HG.out, by rw [E.out]; exact HJ0.out⟩
  have t1 : ((k : Int) == but) = false := beq_eq_false_iff_ne.mpr hb
  cases hsk : seen.getD k false with
  | true =>
   have e : gtGo s but (n + 1) (k : Int) (seen, left) = (seen, left) := by unfold gtGo; rw [if_pos (.inr (by simpa using hsk))]
   have E := Aside0.mk e
   obtain ⟨c1, c2, c3_, c4, c5⟩ := (HBX.out W hI).out
   have cg := hG.cell k (by omega)
   have fg : W.frozen? ⟨g, k, none⟩ = false := blk_frozen hG k
   have HI := Aside0.mk hI
   have HG := Aside0.mk hG
   have HJ0 := Aside0.mk hJ0
   have HU := Aside0.mk hu
   have HS := Aside0.mk hs
   have p1 : (0 : Int) ≤ (k : Int) := by omega
   have p2 : (k : Int) < (s.length : Int) := by omega
   clear hI hG hJ0 hu hs
   rw [hsk] at cg
   clear hb e hsk hM
   go_enter Try.func76, Try.ntmps76
   go_wp2
   refine bodyPost_ret (results_none rfl _ _ _) rfl ?_
   exact ⟨rfl, HI.out, by rw [E.out]; exact HG.out, by rw [E.out]; exact HJ0.out⟩
  | false =>
   obtain ⟨r, hr⟩ : ∃ r, s.getD k [] = r := ⟨_, rfl⟩
   have e : gtGo s but (n + 1) (k : Int) (seen, left) = ((r.foldl (fun q t => gtGo s but n t q) (seen.set k true, left)).1, (r.foldl (fun q t => gtGo s but n t q) (seen.set k true, left)).2 ++ [(k : Int)]) := by
    rw [← hr]
    conv => lhs; unfold gtGo
    rw [if_neg (by rintro (h | h); exact hb h; rw [show (((seen, left) : List Bool × List Int).1.getD ((k : Int)).toNat false) = seen.getD k false from rfl, hsk] at h; cases h)]
    rfl
   have E := Aside0.mk e
   have hrv : ∀ t ∈ r, 0 ≤ t ∧ t < (s.length : Int) := HVAL.out r (by rw [← hr, List.getD_eq_getElem?_getD, List.getElem?_eq_getElem hk]; exact List.getElem_mem hk)
   have HRV := Aside0.mk hrv
   have hu1 := gtUn_set_lt seen k (by omega) hsk
   have HU1 : Aside0 (gtUn (seen.set k true) ≤ n) := ⟨by omega⟩
   have hI1 : GtInv n0 w0 Wc g Bo (W.setCell ⟨g, k, none⟩ (.bool true)) := ⟨hI.1.setCell (p := ⟨g, k, none⟩) HN0.out _, hI.2.setCell (p := ⟨g, k, none⟩) (.inl (.inl rfl)) _⟩
   have hG1 := hG.set k true
   have hJ1 := HJ.out left W k true seen hG hJ0
   have HM1 : Aside0 (left.length + gtUn (seen.set k true) + 1 ≤ M) := ⟨by omega⟩
   obtain ⟨d1, d2, d3, d4, d5⟩ := (HBX.out _ hI1).out
   obtain ⟨ad, c, hA, hcl, hFK, hcc, _⟩ := Kd.F_get (gt_F_to HF.out hI1) ([] : List Int) (k : Int) (by omega) (by omega)
   rw [show s.getD ((k : Int)).toNat [] = r from hr] at hFK
   obtain ⟨A0, c0, rfl, hc0, hF0⟩ := Kd.FK_slice_open hFK
   have e1 := hcc 0 _ rfl
   simp only [Int.toNat_natCast] at e1
   subst hA
   replace e1 : (W.setCell ⟨g, k, none⟩ (.bool true)).cell? (ad.add k) = some (.slice A0 r.length c0) := by rw [← e1]; congr 1; show _ = ad.add (k * 1 + 0); rw [Nat.mul_one, Nat.add_zero]
   have HF0 := Aside0.mk hF0
   have HM := Aside0.mk (Kd.F_max hF0)
   have HI1 := Aside0.mk hI1
   have HG1 := Aside0.mk hG1
   have HJ1 := Aside0.mk hJ1
   obtain ⟨c1, c2, c3_, c4, c5⟩ := (HBX.out W hI).out
   have cg := hG.cell k (by omega)
   have fg : W.frozen? ⟨g, k, none⟩ = false := blk_frozen hG k
   have HI := Aside0.mk hI
   have HG := Aside0.mk hG
   have HJ0 := Aside0.mk hJ0
   have HU := Aside0.mk hu
   have HS := Aside0.mk hs
   have p1 : (0 : Int) ≤ (k : Int) := by omega
   have p2 : (k : Int) < (s.length : Int) := by omega
   clear hI hG hJ0 hu hs
   rw [hsk] at cg
   clear hM hI1 hG1 hJ1 hF0 hFK hcc hb e hsk hr hrv hu1
   go_enter Try.func76, Try.ntmps76
   go_wp2
   go_loopg [26] r.length (fun kq v26 w2 => ∃ j : Nat, v26 = .int .i64 (j : Int) ∧ Aside0 (j + kq = r.length) ∧ Aside0 (GtInv n0 w0 Wc g Bo w2) ∧ Aside0 (GtAt g ((r.take j).foldl (fun q t => gtGo s but n t q) (seen.set k true, left)).1 w2) ∧ Aside0 (J ((r.take j).foldl (fun q t => gtGo s but n t q) (seen.set k true, left)).2 w2) ∧ Aside0 (((r.take j).foldl (fun q t => gtGo s but n t q) (seen.set k true, left)).1.length = s.length ∧ gtUn ((r.take j).foldl (fun q t => gtGo s but n t q) (seen.set k true, left)).1 ≤ n) ∧ Aside0 (((r.take j).foldl (fun q t => gtGo s but n t q) (seen.set k true, left)).2.length + gtUn ((r.take j).foldl (fun q t => gtGo s but n t q) (seen.set k true, left)).1 + 1 ≤ M) ∧ Aside0 (Kd.F (Kd.int .i64) w2 (fun k => (k ≠ g ∧ k ≠ Bo) ∧ k < Wc.heap.size) A0 r.length r))
   case atStart => exact ⟨0, rfl, ⟨by omega⟩, HI1, HG1, HJ1, ⟨⟨by have := HS.out; simp; omega, HU1.out⟩⟩, HM1, HF0⟩
   case round =>
   obtain ⟨j, rfl, HJJ, HI2, HG2, HJ2, HU2, HM2, HF2⟩ := hrel
   obtain ⟨f1, f2, f3, f4, f5⟩ := (HBX.out wr HI2.out).out
   by_cases hlt : j < r.length
   ·have q1 : (0 : Int) ≤ (j : Int) := by omega
    have q2 : (j : Int) < (r.length : Int) := by omega
    obtain ⟨ad0, e0, hx⟩ := Kd.at_int (Kd.F_now HF2.out) (j : Int) q1 q2
    cases e0
    replace hx : wr.cell? (ad0.add j) = some (.int .i64 (rd r (j : Int))) := by simpa using hx
    have hrj : rd r (j : Int) = r[j] := by simp [rd, List.getD_eq_getElem?_getD, hlt]
    obtain ⟨h0, h1⟩ := HRV.out r[j] (List.getElem_mem hlt)
    obtain ⟨tn, htn⟩ : ∃ tn : Nat, r[j] = (tn : Int) := ⟨r[j].toNat, by omega⟩
    rw [hrj, htn] at hx
    have htk : r.take (j + 1) = r.take j ++ [(tn : Int)] := by rw [List.take_succ_eq_append_getElem hlt, htn]
    have HTK := Aside0.mk htk
    have HTN : Aside0 (tn < s.length) := ⟨by omega⟩
    have HLT := Aside0.mk hlt
    obtain ⟨st, hst⟩ : ∃ st, (r.take j).foldl (fun q t => gtGo s but n t q) (seen.set k true, left) = st := ⟨_, rfl⟩
    rw [hst] at HG2 HJ2 HU2 HM2
    have HST := Aside0.mk hst
    have HW := Aside0.mk (show wrap64 ((j : Int) + 1) = ((j + 1 : Nat) : Int) by have := HM.out; unfold wrap64; omega)
    have mj : r.length ≤ 9223372036854775807 := HM.out
    clear hrj h0 h1 htn htk hst hlt
    go_wp2_with (first | (go_at_call 76; ((with_reducible refine (IH.out tn st.1 st.2 wr HTN.out HU2.out.1 HU2.out.2 (by have := HM2.out; omega) HI2.out HG2.out HJ2.out).mono ?_); rintro e w' ⟨rfl, hI3, hG3, hJ3⟩; have HI3 := Aside0.mk hI3; have HG3 := Aside0.mk hG3; have HJ3 := Aside0.mk hJ3; clear hI3 hG3 hJ3)))
    go_roundg (gk - 1)
    case measure => have := HJJ.out; have := HLT.out; omega
    case rel => exact ⟨j + 1, by first | rfl | rw [HW.out], ⟨by have := HJJ.out; have := HLT.out; omega⟩, HI3, ⟨by rw [HTK.out, List.foldl_append, HST.out]; exact HG3.out⟩, ⟨by rw [HTK.out, List.foldl_append, HST.out]; exact HJ3.out⟩, ⟨by rw [HTK.out, List.foldl_append, HST.out]; have := gtGo_len s but n (tn : Int) st; exact ⟨this.1.trans HU2.out.1, Nat.le_trans this.2 HU2.out.2⟩⟩, ⟨by rw [HTK.out, List.foldl_append, HST.out]; have := gtGo_cnt s but HVAL.out n (tn : Int) st (by omega) (by have := HTN.out; omega) HU2.out.1; have := HM2.out; simp only [List.foldl_cons, List.foldl_nil]; omega⟩, ⟨gt_F_inv HF0.out HI1.out HI3.out⟩⟩
   ·have hj : j = r.length := by have := HJJ.out; omega
    subst hj
    rw [List.take_of_length_le (Nat.le_refl _)] at HG2 HJ2 HU2 HM2
    clear hlt
    go_wp2_with (first | (go_at_call 67; ((with_reducible refine (HL.out _ (k : Int) wr (by have := HM2.out; omega) HI2.out HJ2.out).mono ?_); rintro e w' ⟨rfl, hI3, hG3, hJ3⟩; have HI3 := Aside0.mk hI3; have HG3 := Aside0.mk (hG3.trans HG2.out); have HJ3 := Aside0.mk hJ3; clear hI3 hG3 hJ3)))
    go_end0
    exact ⟨rfl, HI3.out, by rw [E.out]; exact HG3.out, by rw [E.out]; exact HJ3.out⟩
theorem gt_heaps (w : World) (o1 o2 o3 o4 o5 o6 : Obj) : ∀ W, W = (((((w.alloc o1).alloc o2).alloc o3).alloc o4).alloc o5).alloc o6 → W.heap[w.heap.size]? = some o1 ∧ W.heap[w.heap.size + 1]? = some o2 ∧ W.heap[w.heap.size + 1 + 1]? = some o3 ∧
  W.heap[w.heap.size + 1 + 1 + 1]? = some o4 ∧ W.heap[w.heap.size + 1 + 1 + 1 + 1]? = some o5 ∧ W.heap[w.heap.size + 1 + 1 + 1 + 1 + 1]? = some o6 ∧ W.heap.size = w.heap.size + 1 + 1 + 1 + 1 + 1 + 1 ∧ Below w.heap.size w W := by
 rintro W rfl
 have h1 := blk_new (w.alloc o1) o2
 have h2 := blk_new ((w.alloc o1).alloc o2) o3
 have h3 := blk_new (((w.alloc o1).alloc o2).alloc o3) o4
 have h4 := blk_new ((((w.alloc o1).alloc o2).alloc o3).alloc o4) o5
 have h5 := blk_new (((((w.alloc o1).alloc o2).alloc o3).alloc o4).alloc o5) o6
 simp only [World.size_alloc] at h1 h2 h3 h4 h5
 exact ⟨blk_alloc (blk_alloc (blk_alloc (blk_alloc (blk_alloc (blk_new w o1) o2) o3) o4) o5) o6, blk_alloc (blk_alloc (blk_alloc (blk_alloc h1 o3) o4) o5) o6, blk_alloc (blk_alloc (blk_alloc h2 o4) o5) o6, blk_alloc (blk_alloc h3 o5) o6, blk_alloc h4 o6, h5, by simp,
  below_alloc (below_alloc (below_alloc (below_alloc (below_alloc (below_alloc (Below.refl _ _) _) _) _) _) _) _⟩
theorem gt_made (x : Value) (n : Nat) : madeCells #[x] n = (List.replicate n x).toArray := by
 apply Array.ext
 ·simp [madeCells]
 ·intro i h1 h2
  simp [madeCells, Nat.mod_one]
def gtAll (s : List (List Int)) (but : Int) : List Bool × List Int := gtGo s but s.length 0 (List.replicate s.length false, [])
theorem gt_info : (Try.prog.info? 4).map (fun i => (i.zero, i.size, i.bytes)) = some (some (.bool false), 1, 1) := by kernel_rfl
def GtEnd_o (n0 : Nat) (w0 : World) (J : List Int → World → Prop) (s : List (List Int)) (but : Int) (w : World) (e : Ending) (w' : World) : Prop := ∃ g, e = .returned (.slice (some ⟨g, 0, none⟩) s.length s.length) ∧ GtAt g (gtAll s but).1 w' ∧ J (gtAll s but).2 w' ∧ w.heap.size ≤ g ∧ Below n0 w0 w'
set_option maxHeartbeats 8000000 in
set_option maxRecDepth 100000 in
theorem gt_through_o (s : List (List Int)) (but : Int) (n0 : Nat) (w0 w : World) (Bo : Nat) (A3 : Option Addr) (c3 : Nat) (J : List Int → World → Prop) (hval : ∀ l ∈ s, ∀ t ∈ l, 0 ≤ t ∧ t < (s.length : Int)) (hls : s.length ≤ 1099511627776)
  (hB : Below n0 w0 w) (hn : n0 ≤ w.heap.size) (hBo : Bo < w.heap.size) (hF : Kd.F (Kd.slice 3 (Kd.int .i64)) w (fun k => k ≠ Bo) A3 s.length s)
  (hJ0 : J [] w) (hJA : ∀ l W o, J l W → J l (W.alloc o)) (hJ : ∀ l W g i b seen, w.heap.size ≤ g → GtAt g seen W → J l W → J l (W.setCell ⟨g, i, none⟩ (.bool b)))
  (hL : ∀ (Wc : World) (g : Nat), w.heap.size ≤ g → g < Wc.heap.size → Wc.heap.size = w.heap.size + 6 → ∀ l (k : Int) W, l.length + 1 ≤ s.length → GtInv n0 w0 Wc g Bo W → J l W → Calls Try.prog 67 #[.int .i64 k, .pointer (some ⟨Bo, 0, none⟩)] W fun e W' => e = .returned (.tuple #[]) ∧ GtInv n0 w0 Wc g Bo W' ∧ W'.heap[g]? = W.heap[g]? ∧ J (l ++ [k]) W') :
  Calls Try.prog 65 #[.slice A3 s.length c3, .int .i64 but, .func (.func 67) #[] #[.pointer (some ⟨Bo, 0, none⟩)]] w (GtEnd_o n0 w0 J s but w) := by
 obtain ⟨i0, hi, hz0, hz1, hz2⟩ := info_parts gt_info
 have hmk : ∀ W : World, (Instr.makeSlice 45 (.int .i64 (s.length : Int)) (.int .i64 (s.length : Int))).run Try.prog W = .ok (.slice (some ⟨W.heap.size, 0, none⟩) s.length s.length) (W.alloc (.cells ((List.replicate s.length false).map Value.bool).toArray 4)) := by
  intro W
  have := run_make (P := Try.prog) W 45 4 i0 (.bool false) Try.underlying45 hi hz0 .i64 .i64 (s.length : Int) (s.length : Int) (by omega) (Int.le_refl _) (by rw [hz2]; omega) (by omega)
  rw [this, hz1, Int.toNat_natCast, Nat.mul_one]
  show Result.ok _ (W.alloc (.cells (madeCells #[.bool false] s.length) 4)) = _
  rw [gt_made, List.map_replicate]
 have HVAL_ := Aside0.mk hval
 have HLS_ := Aside0.mk hls
 have HB_ := Aside0.mk hB
 have HN_ := Aside0.mk hn
 have HF_ := Aside0.mk hF
 have HJ0_ := Aside0.mk hJ0
 have HJA_ := Aside0.mk hJA
 have HJ_ := Aside0.mk hJ
 have HL_ := Aside0.mk hL
 have HBO_ := Aside0.mk hBo
 clear hi hz0 hz1 hz2 hval hls hB hn hF hJ0 hJA hJ hL hBo
 go_enter Try.func65, Try.ntmps65
 go_upto_region 4 with (fail)
 have hW := gt_heaps w (.cells #[.slice A3 s.length c3] 43) (.cells #[.int .i64 but] 3) (.cells #[.func (.func 67) #[] #[.pointer (some ⟨Bo, 0, none⟩)]] 86) (.cells (Array.replicate s.length (.bool false)) 4) (.cells #[.slice (some ⟨w.heap.size + 1 + 1 + 1, 0, none⟩) s.length s.length] 45) (.cells #[.func (.func 76) #[] #[.pointer (some ⟨w.heap.size + 1, 0, none⟩), .pointer (some ⟨w.heap.size + 1 + 1 + 1 + 1, 0, none⟩), .pointer (some ⟨w.heap.size, 0, none⟩), .pointer (some ⟨w.heap.size + 1 + 1 + 1 + 1 + 1, 0, none⟩), .pointer (some ⟨w.heap.size + 1 + 1, 0, none⟩)]] 86)
 skip
 obtain ⟨W4, hW4⟩ : ∃ W4, ((((((w.alloc (.cells #[.slice A3 s.length c3] 43)).alloc (.cells #[.int .i64 but] 3)).alloc (.cells #[.func (.func 67) #[] #[.pointer (some ⟨Bo, 0, none⟩)]] 86)).alloc (.cells (Array.replicate s.length (.bool false)) 4)).alloc (.cells #[.slice (some ⟨w.heap.size + 1 + 1 + 1, 0, none⟩) s.length s.length] 45)).alloc (.cells #[.func (.func 76) #[] #[.pointer (some ⟨w.heap.size + 1, 0, none⟩), .pointer (some ⟨w.heap.size + 1 + 1 + 1 + 1, 0, none⟩), .pointer (some ⟨w.heap.size, 0, none⟩), .pointer (some ⟨w.heap.size + 1 + 1 + 1 + 1 + 1, 0, none⟩), .pointer (some ⟨w.heap.size + 1 + 1, 0, none⟩)]] 86)) = W4 := ⟨_, rfl⟩
 replace hW := hW W4 hW4.symm
 rw [hW4]
 obtain ⟨x0, x1, x2, x3, x4, x5, hz, hbW⟩ := hW
 have X0 := Aside0.mk x0
 have X1 := Aside0.mk x1
 have X2 := Aside0.mk x2
 have X4 := Aside0.mk x4
 have X5 := Aside0.mk x5
 have HZ := Aside0.mk hz
 have HBW := Aside0.mk hbW
 have HG : Aside0 (GtAt (w.heap.size + 1 + 1 + 1) (List.replicate s.length false) W4) := ⟨by unfold GtAt; rw [x3]; simp⟩
 have HJ4 : Aside0 (J [] W4) := ⟨by rw [← hW4]; exact HJA_.out _ _ _ (HJA_.out _ _ _ (HJA_.out _ _ _ (HJA_.out _ _ _ (HJA_.out _ _ _ (HJA_.out _ _ _ HJ0_.out)))))⟩
 have HB4 : Aside0 (Below n0 w0 W4) := ⟨HB_.out.trans (hbW.mono HN_.out)⟩
 have y0 : W4.cell? ⟨w.heap.size, 0, none⟩ = some (.slice A3 s.length c3) := blk_cell x0 0
 have y5 : W4.cell? ⟨w.heap.size + 1 + 1 + 1 + 1 + 1, 0, none⟩ = some (.func (.func 76) #[] #[.pointer (some ⟨w.heap.size + 1, 0, none⟩), .pointer (some ⟨w.heap.size + 1 + 1 + 1 + 1, 0, none⟩), .pointer (some ⟨w.heap.size, 0, none⟩), .pointer (some ⟨w.heap.size + 1 + 1 + 1 + 1 + 1, 0, none⟩), .pointer (some ⟨w.heap.size + 1 + 1, 0, none⟩)]) := blk_cell x5 0
 have y4 : W4.cell? ⟨w.heap.size + 1 + 1 + 1 + 1, 0, none⟩ = some (.slice (some ⟨w.heap.size + 1 + 1 + 1, 0, none⟩) s.length s.length) := blk_cell x4 0
 clear x0 x1 x2 x3 x4 x5 hz hbW hW4 hmk
 by_cases hs0 : 0 < s.length
 ·have t1 : decide (0 < s.length) = true := decide_eq_true hs0
  have hF4 : Kd.F (Kd.slice 3 (Kd.int .i64)) W4 (fun k => (k ≠ w.heap.size + 1 + 1 + 1 ∧ k ≠ Bo) ∧ k < W4.heap.size) A3 s.length s := Kd.F_mono (Kd.F_below (Kd.F_bound HF_.out) HBW.out) (fun k hk => ⟨⟨by have := hk.2; omega, hk.1⟩, by have := hk.2; have := HZ.out; omega⟩)
  have HF4 := Aside0.mk hF4
  clear hF4
  have hin := gt_into_o s but n0 w0 W4 (w.heap.size + 1) (w.heap.size + 1 + 1 + 1 + 1) w.heap.size (w.heap.size + 1 + 1 + 1 + 1 + 1) (w.heap.size + 1 + 1) (w.heap.size + 1 + 1 + 1) Bo A3 c3 J HVAL_.out X1.out X4.out X0.out X5.out X2.out (by have := HBO_.out; omega) HF4.out (by have := HN_.out; omega) s.length (fun l W i b sn hg hj => HJ_.out l W _ i b sn (by omega) hg hj) (HL_.out W4 (w.heap.size + 1 + 1 + 1) (by omega) (by have := HZ.out; omega) (by have := HZ.out; omega)) s.length 0 (List.replicate s.length false) [] W4 hs0 (by simp) (by unfold gtUn; simp) (by unfold gtUn; simp) ⟨HB4.out, Kept.refl _ _⟩ HG.out HJ4.out
  rw [show (((0 : Nat) : Int)) = 0 from rfl] at hin
  have HIN := Aside0.mk hin
  clear hin
  go_wp2_with (first | (go_at_call 76; ((with_reducible refine HIN.out.mono ?_); rintro e w' ⟨rfl, hI, hG, hJ⟩; have z4 : w'.cell? ⟨w.heap.size + 1 + 1 + 1 + 1, 0, none⟩ = some (.slice (some ⟨w.heap.size + 1 + 1 + 1, 0, none⟩) s.length s.length) := blk_cell (blk_kept X4.out hI.2 (by have := HBO_.out; intro h; omega)) 0; have HI := Aside0.mk hI; have HG' := Aside0.mk hG; have HJ' := Aside0.mk hJ; clear hI hG hJ)))
  go_ret
  exact ⟨w.heap.size + 1 + 1 + 1, rfl, HG'.out, HJ'.out, by omega, HI.out.1⟩
 ·have t1 : decide (0 < s.length) = false := decide_eq_false hs0
  have e0 : s = [] := List.eq_nil_of_length_eq_zero (by omega)
  have HG0 : Aside0 (GtAt (w.heap.size + 1 + 1 + 1) (gtAll s but).1 W4) := ⟨by have := HG.out; rw [e0] at this ⊢; exact this⟩
  have HJ0' : Aside0 (J (gtAll s but).2 W4) := ⟨by have := HJ4.out; rw [e0]; exact this⟩
  clear e0
  go_wp2
  go_ret
  exact ⟨w.heap.size + 1 + 1 + 1, rfl, HG0.out, HJ0'.out, by omega, HB4.out⟩
theorem gtAll_len (s : List (List Int)) (but : Int) : (gtAll s but).1.length = s.length := (gtGo_len s but s.length 0 _).1.trans (by simp)
def mEnt : List (Int × Int) → Nat → List MapEntry
 | [], _ => []
 | p :: L, i => { key := .int .i64 p.1, val := .int .i64 p.2, born := i } :: mEnt L (i + 1)
def mObj (L : List (Int × Int)) : Obj := .map (mEnt L 0).toArray L.length
def assoc (L : List (Int × Int)) (k : Int) : Option Int := (L.find? (fun p => p.1 == k)).map (·.2)
theorem mEnt_snoc (p : Int × Int) : ∀ (L : List (Int × Int)) (i : Nat), mEnt (L ++ [p]) i = mEnt L i ++ [{ key := .int .i64 p.1, val := .int .i64 p.2, born := i + L.length }] := by
 intro L
 induction L with
 | nil => intro i; rfl
 | cons q L ih =>
  intro i
  show _ :: mEnt (L ++ [p]) (i + 1) = _ :: (mEnt L (i + 1) ++ _)
  rw [ih, show i + 1 + L.length = i + (q :: L).length by simp; omega]
theorem findNow_ints (k : Int) : ∀ (L : List (Int × Int)) (i j : Nat), ∃ r, Instr.findNow (.int .i64) (.int .i64 k) (mEnt L i) j = some r ∧ r.map (·.2) = (assoc L k).map (Value.int .i64) := by
 intro L
 induction L with
 | nil => intro i j; exact ⟨none, rfl, rfl⟩
 | cons q L ih =>
  intro i j
  by_cases h : k = q.1
  ·refine ⟨some (j, .int .i64 q.2), ?_, ?_⟩
   ·simp [mEnt, Instr.findNow, Instr.sameNow, h]
   ·simp [assoc, h]
  ·obtain ⟨r, h1, h2⟩ := ih (i + 1) (j + 1)
   refine ⟨r, ?_, ?_⟩
   ·have hb : (k == q.1) = false := by simp [h]
    simp [mEnt, Instr.findNow, Instr.sameNow, hb, h1]
   ·rw [h2]
    have : (q.1 == k) = false := by simp [Ne.symm h]
    simp [assoc, this]
section
variable {P : Program} {t kt : TypeId} {w : World} {L : List (Int × Int)}
theorem run_ins (ht : P.underlying t = some (.map kt kt)) (hk : P.underlying kt = some (.int .i64)) (k v : Int) (hn : assoc L k = none) :
  (Instr.mapUpdate t (.map (some w.heap.size)) (.int .i64 k) (.int .i64 v)).run P (w.alloc (mObj L)) = .ok () (w.alloc (mObj (L ++ [(k, v)]))) := by
 have hb : (w.alloc (mObj L)).heap[w.heap.size]? = some (.map (mEnt L 0).toArray L.length) := heap_alloc_new w _
 obtain ⟨r, h1, h2⟩ := findNow_ints k L 0 0
 rw [hn] at h2
 have h3 : r = none := by cases r <;> simp_all
 subst h3
 have hs : ∀ o : Obj, ({ (w.alloc (mObj L)) with heap := (w.alloc (mObj L)).heap.setIfInBounds w.heap.size o } : World) = w.alloc o := by
  intro o
  show ({ w with heap := (w.heap.push (mObj L)).setIfInBounds w.heap.size o } : World) = { w with heap := w.heap.push o }
  congr 1
  apply Array.ext_getElem?
  intro i
  rw [Array.getElem?_setIfInBounds, Array.getElem?_push, Array.getElem?_push]
  by_cases e : w.heap.size = i
  ·subst e; simp
  ·rw [if_neg e, if_neg (Ne.symm e), if_neg (Ne.symm e)]
 have h1' : Instr.findNow (.int .i64) (.int .i64 k) ((mEnt L 0).toArray.toList) 0 = some none := by simpa using h1
 simp [Instr.mapUpdate, run_underlying ht, Result.andThen, Go.MapKept.run_getObj_map hb, Go.MapKept.run_checkKey (w := w.alloc (mObj L)) hk (k := .int .i64 k) (show Go.MapKept.IsKey (.int .i64) (.int .i64 k) from rfl), Go.MapKept.run_findKey (w := w.alloc (mObj L)) hk h1', Go.MapKept.run_setObj_map _ hb]
 unfold mObj
 rw [mEnt_snoc]
 simp
 exact hs _
theorem run_look (ht : P.underlying t = some (.map kt kt)) (hk : P.underlying kt = some (.int .i64)) (hz : (P.info? kt).map (·.zero) = some (some (.int .i64 0))) (k : Int) :
  (Instr.lookup t (.map (some w.heap.size)) (.int .i64 k) false).run P (w.alloc (mObj L)) = .ok (.int .i64 ((assoc L k).getD 0)) (w.alloc (mObj L)) := by
 have hb : (w.alloc (mObj L)).heap[w.heap.size]? = some (.map (mEnt L 0).toArray L.length) := heap_alloc_new w _
 obtain ⟨r, h1, h2⟩ := findNow_ints k L 0 0
 have h1' : Instr.findNow (.int .i64) (.int .i64 k) ((mEnt L 0).toArray.toList) 0 = some r := by simpa using h1
 obtain ⟨i, hi, hi2⟩ := Option.map_eq_some_iff.1 hz
 have hzv : (zeroValue kt).run P (w.alloc (mObj L)) = .ok (.int .i64 0) (w.alloc (mObj L)) := by
  simp [zeroValue, typeInfo, hi, hi2, Result.andThen]
 simp [Instr.lookup, run_underlying ht, Result.andThen, Go.MapKept.run_getObj_map hb, Go.MapKept.run_checkKey (w := w.alloc (mObj L)) hk (k := .int .i64 k) (show Go.MapKept.IsKey (.int .i64) (.int .i64 k) from rfl), Go.MapKept.run_findKey (w := w.alloc (mObj L)) hk h1']
 cases ha : assoc L k with
 | none =>
  rw [ha] at h2
  have h3 : r = none := by cases r <;> simp_all
  subst h3
  simp [hzv]
 | some v =>
  rw [ha] at h2
  cases r with
  | none => simp at h2
  | some p => simp at h2; simp [h2]
end
def hasTab : List (Int × Int) := [(20, 17), (21, 33), (22, 1), (30, 14), (31, 258), (32, 262), (33, 262), (34, 262), (35, 262), (36, 258), (37, 262), (38, 258), (39, 577), (40, 2), (41, 64), (42, 194), (43, 2), (44, 1537), (45, 2055)]
def hasV (op : Int) : Int := if 3 ≤ op ∧ op ≤ 16 ∨ op = 29 then 7 else if 23 ≤ op ∧ op ≤ 28 then 3 else (assoc hasTab op).getD 0
theorem instr_zero : (Try.prog.info? 3).map (·.zero) = some (some (.int .i64 0)) := by kernel_rfl
set_option maxHeartbeats 4000000 in
theorem has_tab (op : Int) (w : World) (h1 : ¬ (3 ≤ op ∧ op ≤ 16)) (h2 : op ≠ 29) (h3 : ¬ (23 ≤ op ∧ op ≤ 28)) :
  Calls Try.prog 59 #[.int .i64 op] w fun e w' => e = .returned (.int .i64 (hasV op)) ∧ Below w.heap.size w w' := by
 have hv : hasV op = (assoc hasTab op).getD 0 := by
  unfold hasV
  rw [if_neg (by omega), if_neg h3]
 have HV := Aside0.mk hv
 have i0 : (Instr.mapUpdate 89 (.map (some w.heap.size)) (.int .i64 20) (.int .i64 17)).run Try.prog (w.alloc (mObj [])) = .ok () (w.alloc (mObj [(20, 17)])) := run_ins Try.underlying89 Try.underlying3 20 17 rfl
 have i1 : (Instr.mapUpdate 89 (.map (some w.heap.size)) (.int .i64 21) (.int .i64 33)).run Try.prog (w.alloc (mObj [(20, 17)])) = .ok () (w.alloc (mObj [(20, 17), (21, 33)])) := run_ins Try.underlying89 Try.underlying3 21 33 rfl
 have i2 : (Instr.mapUpdate 89 (.map (some w.heap.size)) (.int .i64 22) (.int .i64 1)).run Try.prog (w.alloc (mObj [(20, 17), (21, 33)])) = .ok () (w.alloc (mObj [(20, 17), (21, 33), (22, 1)])) := run_ins Try.underlying89 Try.underlying3 22 1 rfl
 have i3 : (Instr.mapUpdate 89 (.map (some w.heap.size)) (.int .i64 30) (.int .i64 14)).run Try.prog (w.alloc (mObj [(20, 17), (21, 33), (22, 1)])) = .ok () (w.alloc (mObj [(20, 17), (21, 33), (22, 1), (30, 14)])) := run_ins Try.underlying89 Try.underlying3 30 14 rfl
 have i4 : (Instr.mapUpdate 89 (.map (some w.heap.size)) (.int .i64 31) (.int .i64 258)).run Try.prog (w.alloc (mObj [(20, 17), (21, 33), (22, 1), (30, 14)])) = .ok () (w.alloc (mObj [(20, 17), (21, 33), (22, 1), (30, 14), (31, 258)])) := run_ins Try.underlying89 Try.underlying3 31 258 rfl
 have i5 : (Instr.mapUpdate 89 (.map (some w.heap.size)) (.int .i64 32) (.int .i64 262)).run Try.prog (w.alloc (mObj [(20, 17), (21, 33), (22, 1), (30, 14), (31, 258)])) = .ok () (w.alloc (mObj [(20, 17), (21, 33), (22, 1), (30, 14), (31, 258), (32, 262)])) := run_ins Try.underlying89 Try.underlying3 32 262 rfl
 have i6 : (Instr.mapUpdate 89 (.map (some w.heap.size)) (.int .i64 33) (.int .i64 262)).run Try.prog (w.alloc (mObj [(20, 17), (21, 33), (22, 1), (30, 14), (31, 258), (32, 262)])) = .ok () (w.alloc (mObj [(20, 17), (21, 33), (22, 1), (30, 14), (31, 258), (32, 262), (33, 262)])) := run_ins Try.underlying89 Try.underlying3 33 262 rfl
 have i7 : (Instr.mapUpdate 89 (.map (some w.heap.size)) (.int .i64 34) (.int .i64 262)).run Try.prog (w.alloc (mObj [(20, 17), (21, 33), (22, 1), (30, 14), (31, 258), (32, 262), (33, 262)])) = .ok () (w.alloc (mObj [(20, 17), (21, 33), (22, 1), (30, 14), (31, 258), (32, 262), (33, 262), (34, 262)])) := run_ins Try.underlying89 Try.underlying3 34 262 rfl
 have i8 : (Instr.mapUpdate 89 (.map (some w.heap.size)) (.int .i64 35) (.int .i64 262)).run Try.prog (w.alloc (mObj [(20, 17), (21, 33), (22, 1), (30, 14), (31, 258), (32, 262), (33, 262), (34, 262)])) = .ok () (w.alloc (mObj [(20, 17), (21, 33), (22, 1), (30, 14), (31, 258), (32, 262), (33, 262), (34, 262), (35, 262)])) := run_ins Try.underlying89 Try.underlying3 35 262 rfl
 have i9 : (Instr.mapUpdate 89 (.map (some w.heap.size)) (.int .i64 36) (.int .i64 258)).run Try.prog (w.alloc (mObj [(20, 17), (21, 33), (22, 1), (30, 14), (31, 258), (32, 262), (33, 262), (34, 262), (35, 262)])) = .ok () (w.alloc (mObj [(20, 17), (21, 33), (22, 1), (30, 14), (31, 258), (32, 262), (33, 262), (34, 262), (35, 262), (36, 258)])) := run_ins Try.underlying89 Try.underlying3 36 258 rfl
 have i10 : (Instr.mapUpdate 89 (.map (some w.heap.size)) (.int .i64 37) (.int .i64 262)).run Try.prog (w.alloc (mObj [(20, 17), (21, 33), (22, 1), (30, 14), (31, 258), (32, 262), (33, 262), (34, 262), (35, 262), (36, 258)])) = .ok () (w.alloc (mObj [(20, 17), (21, 33), (22, 1), (30, 14), (31, 258), (32, 262), (33, 262), (34, 262), (35, 262), (36, 258), (37, 262)])) := run_ins Try.underlying89 Try.underlying3 37 262 rfl
 have i11 : (Instr.mapUpdate 89 (.map (some w.heap.size)) (.int .i64 38) (.int .i64 258)).run Try.prog (w.alloc (mObj [(20, 17), (21, 33), (22, 1), (30, 14), (31, 258), (32, 262), (33, 262), (34, 262), (35, 262), (36, 258), (37, 262)])) = .ok () (w.alloc (mObj [(20, 17), (21, 33), (22, 1), (30, 14), (31, 258), (32, 262), (33, 262), (34, 262), (35, 262), (36, 258), (37, 262), (38, 258)])) := run_ins Try.underlying89 Try.underlying3 38 258 rfl
 have i12 : (Instr.mapUpdate 89 (.map (some w.heap.size)) (.int .i64 39) (.int .i64 577)).run Try.prog (w.alloc (mObj [(20, 17), (21, 33), (22, 1), (30, 14), (31, 258), (32, 262), (33, 262), (34, 262), (35, 262), (36, 258), (37, 262), (38, 258)])) = .ok () (w.alloc (mObj [(20, 17), (21, 33), (22, 1), (30, 14), (31, 258), (32, 262), (33, 262), (34, 262), (35, 262), (36, 258), (37, 262), (38, 258), (39, 577)])) := run_ins Try.underlying89 Try.underlying3 39 577 rfl
 have i13 : (Instr.mapUpdate 89 (.map (some w.heap.size)) (.int .i64 40) (.int .i64 2)).run Try.prog (w.alloc (mObj [(20, 17), (21, 33), (22, 1), (30, 14), (31, 258), (32, 262), (33, 262), (34, 262), (35, 262), (36, 258), (37, 262), (38, 258), (39, 577)])) = .ok () (w.alloc (mObj [(20, 17), (21, 33), (22, 1), (30, 14), (31, 258), (32, 262), (33, 262), (34, 262), (35, 262), (36, 258), (37, 262), (38, 258), (39, 577), (40, 2)])) := run_ins Try.underlying89 Try.underlying3 40 2 rfl
 have i14 : (Instr.mapUpdate 89 (.map (some w.heap.size)) (.int .i64 41) (.int .i64 64)).run Try.prog (w.alloc (mObj [(20, 17), (21, 33), (22, 1), (30, 14), (31, 258), (32, 262), (33, 262), (34, 262), (35, 262), (36, 258), (37, 262), (38, 258), (39, 577), (40, 2)])) = .ok () (w.alloc (mObj [(20, 17), (21, 33), (22, 1), (30, 14), (31, 258), (32, 262), (33, 262), (34, 262), (35, 262), (36, 258), (37, 262), (38, 258), (39, 577), (40, 2), (41, 64)])) := run_ins Try.underlying89 Try.underlying3 41 64 rfl
 have i15 : (Instr.mapUpdate 89 (.map (some w.heap.size)) (.int .i64 42) (.int .i64 194)).run Try.prog (w.alloc (mObj [(20, 17), (21, 33), (22, 1), (30, 14), (31, 258), (32, 262), (33, 262), (34, 262), (35, 262), (36, 258), (37, 262), (38, 258), (39, 577), (40, 2), (41, 64)])) = .ok () (w.alloc (mObj [(20, 17), (21, 33), (22, 1), (30, 14), (31, 258), (32, 262), (33, 262), (34, 262), (35, 262), (36, 258), (37, 262), (38, 258), (39, 577), (40, 2), (41, 64), (42, 194)])) := run_ins Try.underlying89 Try.underlying3 42 194 rfl
 have i16 : (Instr.mapUpdate 89 (.map (some w.heap.size)) (.int .i64 43) (.int .i64 2)).run Try.prog (w.alloc (mObj [(20, 17), (21, 33), (22, 1), (30, 14), (31, 258), (32, 262), (33, 262), (34, 262), (35, 262), (36, 258), (37, 262), (38, 258), (39, 577), (40, 2), (41, 64), (42, 194)])) = .ok () (w.alloc (mObj [(20, 17), (21, 33), (22, 1), (30, 14), (31, 258), (32, 262), (33, 262), (34, 262), (35, 262), (36, 258), (37, 262), (38, 258), (39, 577), (40, 2), (41, 64), (42, 194), (43, 2)])) := run_ins Try.underlying89 Try.underlying3 43 2 rfl
 have i17 : (Instr.mapUpdate 89 (.map (some w.heap.size)) (.int .i64 44) (.int .i64 1537)).run Try.prog (w.alloc (mObj [(20, 17), (21, 33), (22, 1), (30, 14), (31, 258), (32, 262), (33, 262), (34, 262), (35, 262), (36, 258), (37, 262), (38, 258), (39, 577), (40, 2), (41, 64), (42, 194), (43, 2)])) = .ok () (w.alloc (mObj [(20, 17), (21, 33), (22, 1), (30, 14), (31, 258), (32, 262), (33, 262), (34, 262), (35, 262), (36, 258), (37, 262), (38, 258), (39, 577), (40, 2), (41, 64), (42, 194), (43, 2), (44, 1537)])) := run_ins Try.underlying89 Try.underlying3 44 1537 rfl
 have i18 : (Instr.mapUpdate 89 (.map (some w.heap.size)) (.int .i64 45) (.int .i64 2055)).run Try.prog (w.alloc (mObj [(20, 17), (21, 33), (22, 1), (30, 14), (31, 258), (32, 262), (33, 262), (34, 262), (35, 262), (36, 258), (37, 262), (38, 258), (39, 577), (40, 2), (41, 64), (42, 194), (43, 2), (44, 1537)])) = .ok () (w.alloc (mObj [(20, 17), (21, 33), (22, 1), (30, 14), (31, 258), (32, 262), (33, 262), (34, 262), (35, 262), (36, 258), (37, 262), (38, 258), (39, 577), (40, 2), (41, 64), (42, 194), (43, 2), (44, 1537), (45, 2055)])) := run_ins Try.underlying89 Try.underlying3 45 2055 rfl
 have hlk : (Instr.lookup 89 (.map (some w.heap.size)) (.int .i64 op) false).run Try.prog (w.alloc (mObj [(20, 17), (21, 33), (22, 1), (30, 14), (31, 258), (32, 262), (33, 262), (34, 262), (35, 262), (36, 258), (37, 262), (38, 258), (39, 577), (40, 2), (41, 64), (42, 194), (43, 2), (44, 1537), (45, 2055)])) = .ok (.int .i64 ((assoc hasTab op).getD 0)) (w.alloc (mObj [(20, 17), (21, 33), (22, 1), (30, 14), (31, 258), (32, 262), (33, 262), (34, 262), (35, 262), (36, 258), (37, 262), (38, 258), (39, 577), (40, 2), (41, 64), (42, 194), (43, 2), (44, 1537), (45, 2055)])) := run_look (P := Try.prog) (w := w) (L := hasTab) Try.underlying89 Try.underlying3 instr_zero op
 have hmm : (Instr.makeMap 89 none).run Try.prog w = .ok (.map (some w.heap.size)) (w.alloc (mObj [])) := rfl
 have HB := Aside0.mk (Below.refl w.heap.size w)
 have t2 : (op == 29) = false := beq_eq_false_iff_ne.mpr h2
 have t2' : decide (op = 29) = false := decide_eq_false h2
 clear hv h2
 have go : ∀ b1 b2 b3 b4 : Bool, decide (3 ≤ op) = b1 → decide (op ≤ 16) = b2 → decide (23 ≤ op) = b3 → decide (op ≤ 28) = b4 → (b1 && b2) = false → (b3 && b4) = false → Calls Try.prog 59 #[.int .i64 op] w fun e w' => e = .returned (.int .i64 (hasV op)) ∧ Below w.heap.size w w' := by
  intro b1 b2 b3 b4 e1 e2 e3 e4 e5 e6
  clear h1 h3
  cases b1 <;> cases b2 <;> cases b3 <;> cases b4 <;> simp only [Bool.and_true, Bool.and_false, reduceCtorEq] at e5 e6
  all_goals
   clear e5 e6
   go_enter Try.func59, Try.ntmps59
   go_wp2
   go_ret
   refine ⟨?_, below_alloc HB.out _⟩
   rw [HV.out]
   rfl
 exact go _ _ _ _ rfl rfl rfl rfl (by by_cases c : 3 ≤ op <;> simp [c] <;> omega) (by by_cases c : 23 ≤ op <;> simp [c] <;> omega)
set_option maxHeartbeats 1000000 in
theorem has_seven (op : Int) (w : World) (h1 : 3 ≤ op ∧ op ≤ 16 ∨ op = 29) :
  Calls Try.prog 59 #[.int .i64 op] w fun e w' => e = .returned (.int .i64 7) ∧ Below w.heap.size w w' := by
 have HB := Aside0.mk (Below.refl w.heap.size w)
 rcases h1 with ⟨h1, h2⟩ | rfl
 ·have t1 : decide (3 ≤ op) = true := decide_eq_true h1
  have t2 : decide (op ≤ 16) = true := decide_eq_true h2
  go_enter Try.func59, Try.ntmps59
  go_wp2
  go_ret
  exact ⟨rfl, HB.out⟩
 ·go_enter Try.func59, Try.ntmps59
  go_wp2
  go_ret
  exact ⟨rfl, HB.out⟩
set_option maxHeartbeats 1000000 in
theorem has_three (op : Int) (w : World) (h1 : 23 ≤ op) (h2 : op ≤ 28) :
  Calls Try.prog 59 #[.int .i64 op] w fun e w' => e = .returned (.int .i64 3) ∧ Below w.heap.size w w' := by
 have HB := Aside0.mk (Below.refl w.heap.size w)
 have t1 : decide (3 ≤ op) = true := decide_eq_true (by omega)
 have t2 : decide (op ≤ 16) = false := decide_eq_false (by omega)
 have t3 : decide (23 ≤ op) = true := decide_eq_true h1
 have t4 : decide (op ≤ 28) = true := decide_eq_true h2
 have t5 : (op == 29) = false := beq_eq_false_iff_ne.mpr (by omega)
 have t5' : decide (op = 29) = false := decide_eq_false (by omega)
 go_enter Try.func59, Try.ntmps59
 go_wp2
 go_ret
 exact ⟨rfl, HB.out⟩
def instr_has.f (a0 : Int) : Option Int := some (hasV a0)
theorem instr_has.calls (a0 : Int) (r : Int) (w : World) (h : instr_has.f a0 = some r) :
  Calls Try.prog 59 #[.int .i64 a0] w fun e w' => e = .returned (.int .i64 r) ∧ Below w.heap.size w w' := by
 unfold instr_has.f at h
 obtain rfl := Option.some.inj h
 by_cases h1 : 3 ≤ a0 ∧ a0 ≤ 16 ∨ a0 = 29
 ·have e : hasV a0 = 7 := if_pos h1
  rw [e]
  exact has_seven a0 w h1
 ·by_cases h2 : 23 ≤ a0 ∧ a0 ≤ 28
  ·have e : hasV a0 = 3 := by unfold hasV; rw [if_neg h1, if_pos h2]
   rw [e]
   exact has_three a0 w h2.1 h2.2
  ·exact has_tab a0 w (by omega) (by omega) h2
def instr_tells.f (a0 : Int) : Option (Bool) := if a0 ≥ 3 then (if a0 ≤ 8 then (some true) else (if a0 = 20 then (some true) else (some (a0 == 21)))) else (if a0 = 20 then (some true) else (some (a0 == 21)))
set_option maxHeartbeats 8000000 in
set_option maxRecDepth 100000 in
theorem instr_tells.calls (a0 : Int) (r : Bool) (w : World) (h : instr_tells.f a0 = some r) :
  Calls Try.prog 74 #[.int .i64 a0] w fun e w' => e = .returned (.bool r) ∧ Drawn0 w w' := by
 have H : (if a0 ≥ 3 then (if a0 ≤ 8 then (some true) else (if a0 = 20 then (some true) else (some (a0 == 21)))) else (if a0 = 20 then (some true) else (some (a0 == 21)))) = some r := h
 clear h
 by_cases c2 : a0 ≥ 3
 ·rw [if_pos c2] at H
  have c2b0 : decide (3 ≤ a0) = true := decide_eq_true c2
  clear c2
  by_cases c3 : a0 ≤ 8
  ·rw [if_pos c3] at H
   have c3b0 : decide (a0 ≤ 8) = true := decide_eq_true c3
   clear c3
   obtain rfl := Option.some.inj H
   go_enter Try.func74, Try.ntmps74
   go_wp2
   go_ret
   exact ⟨zQ, zD⟩
  ·rw [if_neg c3] at H
   have c3b0 : decide (a0 ≤ 8) = false := decide_eq_false c3
   clear c3
   by_cases c4 : a0 = 20
   ·rw [if_pos c4] at H
    have c4b0 : (a0 == 20) = true := beq_iff_eq.mpr c4
    have c4b1 : (a0 != 20) = false := bne_eq_false_iff_eq.mpr c4
    clear c4
    obtain rfl := Option.some.inj H
    go_enter Try.func74, Try.ntmps74
    go_wp2
    go_ret
    exact ⟨zQ, zD⟩
   ·rw [if_neg c4] at H
    have c4b0 : (a0 == 20) = false := beq_eq_false_iff_ne.mpr c4
    have c4b1 : (a0 != 20) = true := bne_iff_ne.mpr c4
    obtain rfl := Option.some.inj H
    go_enter Try.func74, Try.ntmps74
    go_wp2
    go_ret
    exact ⟨zQ, zD⟩
 ·rw [if_neg c2] at H
  have c2b0 : decide (3 ≤ a0) = false := decide_eq_false c2
  clear c2
  by_cases c5 : a0 = 20
  ·rw [if_pos c5] at H
   have c5b0 : (a0 == 20) = true := beq_iff_eq.mpr c5
   have c5b1 : (a0 != 20) = false := bne_eq_false_iff_eq.mpr c5
   clear c5
   obtain rfl := Option.some.inj H
   go_enter Try.func74, Try.ntmps74
   go_wp2
   go_ret
   exact ⟨zQ, zD⟩
  ·rw [if_neg c5] at H
   have c5b0 : (a0 == 20) = false := beq_eq_false_iff_ne.mpr c5
   have c5b1 : (a0 != 20) = true := bne_iff_ne.mpr c5
   obtain rfl := Option.some.inj H
   go_enter Try.func74, Try.ntmps74
   go_wp2
   go_ret
   exact ⟨zQ, zD⟩
end Go.Proofs.Ytomopjomapkmjaa.P

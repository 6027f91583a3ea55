/- A part of it. -/
import Derived.Test.YtgbpkbfghonllaaFmM21
import Derived.Test.YtgbpkbfghonllaaFmP6
import Derived.Test.YtgbpkbfghonllaaFmP7
import Derived.Test.YtgbpkbfghonllaaFmP8
import Derived.Test.YtgbpkbfghonllaaFmP9
import Derived.Test.YtgbpkbfghonllaaFmP10
namespace Go.Proofs.Ytgbpkbfghonllaa.Pure
open Go.RowKit Go.Proofs.Ytgbpkbfghonllaa.P Go.Proofs.YtgbpkbfghonllaaW.PrintWords Go.Proofs.YtgbpkbfghonllaaW.PrintLast Go.Proofs.YtgbpkbfghonllaaW.PrintMore
theorem minTo_all (l : List Int) : ∀ j, j < l.length → (0 ≤ minTo l j ↔ ∀ i, i ≤ j → 0 ≤ rd l (i : Int)) := by
 intro j
 induction j with
 | zero =>
  intro _
  constructor
  ·intro h i hi
   obtain rfl : i = 0 := by omega
   exact h
  ·intro h; exact h 0 (by omega)
 | succ j ih =>
  intro hj
  have := ih (by omega)
  show 0 ≤ mn (minTo l j) (rd l ((j + 1 : Nat) : Int)) ↔ _
  have e : 0 ≤ mn (minTo l j) (rd l ((j + 1 : Nat) : Int)) ↔ 0 ≤ minTo l j ∧ 0 ≤ rd l ((j + 1 : Nat) : Int) := by
   unfold mn
   split <;> omega
  rw [e, this]
  constructor
  ·rintro ⟨h1, h2⟩ i hi
   by_cases hij : i = j + 1
   ·subst hij; exact h2
   ·exact h1 i (by omega)
  ·intro h
   exact ⟨fun i hi => h i (by omega), h (j + 1) (by omega)⟩
def nonneg (l : List Int) : Bool := l.all (fun x => decide (0 ≤ x))
theorem nonneg_iff (l : List Int) : nonneg l = true ↔ ∀ i, i < l.length → 0 ≤ rd l (i : Int) := by
 unfold nonneg
 rw [List.all_eq_true]
 constructor
 ·intro h i hi
  rw [rd_nat l i hi]
  simpa using h _ (List.getElem_mem hi)
 ·intro h x hx
  obtain ⟨i, hi, rfl⟩ := List.getElem_of_mem hx
  have := h i hi
  rw [rd_nat l i hi] at this
  simpa using this
theorem min_val (l : List Int) (h0 : 0 < l.length) (h1 : l.length < 4611686018427387904) : ∃ m, slices_Min_int_int.f l = some m ∧ decide (m ≥ 0) = nonneg l := by
 refine ⟨_, if_pos ⟨h0, h1⟩, ?_⟩
 rw [Bool.eq_iff_iff, nonneg_iff, decide_eq_true_iff]
 show 0 ≤ _ ↔ _
 rw [minTo_all l _ (by omega)]
 exact ⟨fun h i hi => h i (by omega), fun h i hi => h i (by omega)⟩
def bt (h b : Int) : Bool := decide (Go.bits .and .i64 h b ≠ 0)
def fitV2 (h : Int) (s : S96) : Bool := decide (0 ≤ s.f1) && (bt h s.f0 || decide (s.f1 = 0))
def argsV (h op : Int) (l : List Int) : Bool := if l.length = 0 then !bt h 1024 else bt h 512 && !(decide (op = 39) && decide (8 < l.length)) && nonneg l
theorem rd_S52 (l : List S96) (i : Nat) (h : i < l.length) : rd_T96 l (i : Int) = l[i] := by simp [rd_T96, List.getD_eq_getElem?_getD, h]
theorem right_tail_ev (h op : Int) (xs : List S96) (l : List Int) (a1 a2 a3 a4 a5 a6 a7 : Int) (hl : l.length < 4611686018427387904) (k : Nat) :
  instr_Right.l0 (k + 1) h xs (xs.length : Int) ((xs.length : Nat) : Int) op a1 a2 a3 a4 a5 a6 a7 l = some (argsV h op l) := by
 rw [instr_Right.l0, if_neg (by omega)]
 unfold argsV bt
 by_cases h0 : l.length = 0
 ·rw [if_neg (by omega), if_pos (by omega), if_pos h0]
  by_cases c : Go.bits .and .i64 h 1024 = 0
  ·rw [if_pos c]
   split
   ·rw [if_neg (by omega)]; simp [c]
   ·simp [c]
  ·rw [if_neg c]; simp [c]
 ·obtain ⟨m, hm, he⟩ := min_val l (by omega) hl
  rw [if_pos (by omega), if_neg h0]
  by_cases c : Go.bits .and .i64 h 512 = 0
  ·rw [if_pos c]; simp [c]
  ·rw [if_neg c, if_neg (by omega)]
   by_cases c2 : op = 39
   ·rw [if_pos c2]
    by_cases c3 : (l.length : Int) > 8
    ·rw [if_pos c3]; simp [c2]; intro _ h8; omega
    ·rw [if_neg c3, hm, Option.bind_some, he]
     have : ¬ 8 < l.length := by omega
     simp [c, c2, this]
   ·rw [if_neg c2, hm, Option.bind_some, he]; simp [c, c2]
theorem right_loop (h op : Int) (xs : List S96) (l : List Int) (a1 a2 a3 a4 a5 a6 a7 : Int) (hl : l.length < 4611686018427387904) (hx : xs.length < 1000) : ∀ d i, xs.length - i = d → i ≤ xs.length →
  Ev (fun k => instr_Right.l0 k h xs (xs.length : Int) (i : Int) op a1 a2 a3 a4 a5 a6 a7 l) ((xs.drop i).all (fitV2 h) && argsV h op l) := by
 intro d
 induction d with
 | zero =>
  intro i hd hi
  obtain rfl : i = xs.length := by omega
  have := Ev.step (g := fun k => instr_Right.l0 k h xs (xs.length : Int) ((xs.length : Nat) : Int) op a1 a2 a3 a4 a5 a6 a7 l) (fun k => right_tail_ev h op xs l a1 a2 a3 a4 a5 a6 a7 hl k) (Ev.now _)
  simpa using this
 | succ d ih =>
  intro i hd hi
  have hlt : i < xs.length := by omega
  rw [List.drop_eq_getElem_cons hlt, List.all_cons]
  by_cases c1 : (xs[i]).f1 < 0
  ·have e : fitV2 h xs[i] = false := by simp [fitV2]; intro _; omega
   rw [e, Bool.false_and, Bool.false_and]
   refine Ev.step (f := fun _ => some false) (fun k => ?_) (Ev.now _)
   rw [instr_Right.l0, if_pos (by omega), if_pos (by omega), if_pos (by omega), if_pos (by rw [rd_S52 xs i hlt]; exact c1)]
  ·by_cases c2 : Go.bits .and .i64 h (xs[i]).f0 = 0 ∧ (xs[i]).f1 ≠ 0
   ·have e : fitV2 h xs[i] = false := by simp [fitV2, bt, c2.1, c2.2]
    rw [e, Bool.false_and, Bool.false_and]
    refine Ev.step (f := fun _ => some false) (fun k => ?_) (Ev.now _)
    rw [instr_Right.l0, if_pos (by omega), if_pos (by omega), if_pos (by omega), if_neg (by rw [rd_S52 xs i hlt]; exact c1), if_pos (by rw [rd_S52 xs i hlt]; exact c2.1), if_neg (by rw [rd_S52 xs i hlt]; exact c2.2)]
   ·have e : fitV2 h xs[i] = true := by
     have : 0 ≤ (xs[i]).f1 := by omega
     simp only [fitV2, bt, decide_eq_true this, Bool.true_and, Bool.or_eq_true, decide_eq_true_iff]
     by_cases c3 : Go.bits .and .i64 h (xs[i]).f0 = 0
     ·exact .inr (Classical.byContradiction (fun c4 => c2 ⟨c3, c4⟩))
     ·exact .inl c3
    rw [e, Bool.true_and]
    refine Ev.step (f := fun k => instr_Right.l0 k h xs (xs.length : Int) ((i + 1 : Nat) : Int) op a1 a2 a3 a4 a5 a6 a7 l) (fun k => ?_) (ih (i + 1) (by omega) (by omega))
    rw [instr_Right.l0, if_pos (by omega), if_pos (by omega), if_pos (by omega), if_neg (by rw [rd_S52 xs i hlt]; exact c1), rd_S52 xs i hlt, wrap_succ i (by omega)]
    by_cases c3 : Go.bits .and .i64 h (xs[i]).f0 = 0
    ·rw [if_pos c3, if_pos (Classical.byContradiction (fun c4 => c2 ⟨c3, c4⟩))]
    ·rw [if_neg c3]
def fieldsV (h n m b : Int) : Bool :=
 (bt h 16 || (if bt h 32 then decide (n = 0 ∨ n = 1) else decide (0 ≤ n) && (bt h 64 || decide (n = 0)))) &&
 (if bt h 128 then decide (0 ≤ m) && decide (m ≠ n) else if bt h 2048 then decide (3 ≤ m ∧ m ≤ 8 ∨ m = 20 ∨ m = 21) && (decide (m ≠ 21) || decide (b = 0)) else decide (m = 0))
theorem tells_val (m : Int) : instr_tells.f m = some (decide (3 ≤ m ∧ m ≤ 8 ∨ m = 20 ∨ m = 21)) := by
 unfold instr_tells.f
 repeat' split
 all_goals
  congr 1
  first | (rw [Bool.eq_iff_iff]; simp; omega) | (apply Eq.symm; simp; omega)
theorem fields_j (h a0 a1 a2 a3 a4 a5 a6 a7 : Int) (l : List Int) (k : Nat) : instr_fields.j0 (k + 1) h a0 a1 a2 a3 a4 a5 a6 a7 l = some (if bt h 128 then decide (0 ≤ a6) && decide (a6 ≠ a5) else if bt h 2048 then decide (3 ≤ a6 ∧ a6 ≤ 8 ∨ a6 = 20 ∨ a6 = 21) && (decide (a6 ≠ 21) || decide (a3 = 0)) else decide (a6 = 0)) := by
 rw [instr_fields.j0, tells_val]
 unfold bt
 by_cases c1 : Go.bits .and .i64 h 128 = 0
 ·rw [if_pos c1]
  by_cases c2 : Go.bits .and .i64 h 2048 = 0
  ·rw [if_pos c2]; simp [c1, c2, Bool.beq_eq_decide_eq]
  ·rw [if_neg c2, Option.bind_some]
   by_cases c3 : 3 ≤ a6 ∧ a6 ≤ 8 ∨ a6 = 20 ∨ a6 = 21
   ·rw [decide_eq_true c3, if_pos rfl]
    by_cases c4 : a6 = 21
    ·rw [if_pos c4]; simp [c1, c2, c4, Bool.beq_eq_decide_eq]
    ·rw [if_neg c4]; simp [c1, c2, c4]
   ·rw [decide_eq_false c3, if_neg (by simp)]; simp [c1, c2]
 ·rw [if_neg c1]
  by_cases c3 : a6 ≥ 0
  ·rw [if_pos c3]; have : 0 ≤ a6 := c3; simp [c1, this, bne, Bool.beq_eq_decide_eq]
  ·rw [if_neg c3]; have : ¬ 0 ≤ a6 := c3; simp [c1, this]
theorem fields_val (h a0 a1 a2 a3 a4 a5 a6 a7 : Int) (l : List Int) (k : Nat) : instr_fields.f (k + 1) a0 a1 a2 a3 a4 a5 a6 a7 l h = some (fieldsV h a5 a6 a3) := by
 unfold instr_fields.f
 rw [fields_j]
 unfold fieldsV
 generalize (if bt h 128 then decide (0 ≤ a6) && decide (a6 ≠ a5) else if bt h 2048 then decide (3 ≤ a6 ∧ a6 ≤ 8 ∨ a6 = 20 ∨ a6 = 21) && (decide (a6 ≠ 21) || decide (a3 = 0)) else decide (a6 = 0)) = T
 unfold bt
 by_cases c1 : Go.bits .and .i64 h 16 = 0
 ·rw [if_pos c1]
  by_cases c2 : Go.bits .and .i64 h 32 = 0
  ·rw [if_pos c2]
   by_cases c3 : a5 < 0
   ·rw [if_pos c3]; have : ¬ 0 ≤ a5 := by omega
    simp [c1, c2, this]
   ·rw [if_neg c3]; have : 0 ≤ a5 := by omega
    by_cases c4 : Go.bits .and .i64 h 64 = 0
    ·rw [if_pos c4]
     by_cases c5 : a5 = 0
     ·rw [if_pos c5]; simp [c1, c2, c4, c5]
     ·rw [if_neg c5]; simp [c1, c2, c4, c5]
    ·rw [if_neg c4]; simp [c1, c2, c4, this]
  ·rw [if_neg c2]
   by_cases c5 : a5 = 0
   ·rw [if_pos c5]; simp [c1, c2, c5]
   ·rw [if_neg c5]
    by_cases c6 : a5 = 1
    ·rw [if_pos c6]; simp [c1, c2, c6]
    ·rw [if_neg c6]; simp [c1, c2, c5, c6]
 ·rw [if_neg c1]; simp [c1]
def rightV2 (op dst a b c n m site : Int) (l : List Int) : Bool :=
 decide (hasV op ≠ 0) && fieldsV (hasV op) n m b && (([⟨1, dst⟩, ⟨2, a⟩, ⟨4, b⟩, ⟨8, c⟩, ⟨256, site⟩] : List S96).all (fitV2 (hasV op)) && argsV (hasV op) op l)
theorem right_ev2 (op dst a b c n m site : Int) (l : List Int) (hl : l.length < 4611686018427387904) : Ev (fun k => instr_Right.f k op dst a b c n m site l) (rightV2 op dst a b c n m site l) := by
 unfold instr_Right.f instr_has.f rightV2
 by_cases h0 : hasV op = 0
 ·refine Ev.congr (f := fun k => instr_Right.j0 k (hasV op) true op dst a b c n m site l) (fun k => by rw [Option.bind_some, if_pos h0]) ?_
  refine Ev.step (f := fun _ => some false) (fun k => by rw [instr_Right.j0, if_pos rfl]) ?_
  simp only [h0, ne_eq, not_true, decide_false, Bool.false_and]
  exact Ev.now _
 ·have key : Ev (fun k => (instr_fields.f k op dst a b c n m site l (hasV op)).bind fun t => instr_Right.j0 k (hasV op) (!t) op dst a b c n m site l) (decide (hasV op ≠ 0) && fieldsV (hasV op) n m b && (([⟨1, dst⟩, ⟨2, a⟩, ⟨4, b⟩, ⟨8, c⟩, ⟨256, site⟩] : List S96).all (fitV2 (hasV op)) && argsV (hasV op) op l)) := by
   refine Ev.step (f := fun k => instr_Right.j0 (k + 1) (hasV op) (!(fieldsV (hasV op) n m b)) op dst a b c n m site l) (fun k => by rw [fields_val, Option.bind_some]) ?_
   rw [decide_eq_true h0, Bool.true_and]
   cases hf : fieldsV (hasV op) n m b with
   | false =>
    rw [Bool.false_and]
    exact Ev.congr (fun k => by rw [instr_Right.j0, if_pos (by rfl)]) (Ev.now _)
   | true =>
    rw [Bool.true_and]
    refine Ev.congr (f := fun k => instr_Right.l0 k (hasV op) ([⟨1, dst⟩, ⟨2, a⟩, ⟨4, b⟩, ⟨8, c⟩, ⟨256, site⟩] : List S96) ((([⟨1, dst⟩, ⟨2, a⟩, ⟨4, b⟩, ⟨8, c⟩, ⟨256, site⟩] : List S96).length : Nat) : Int) ((0 : Nat) : Int) op dst a b c n m site l) (fun k => by rw [instr_Right.j0, if_neg (by simp), Option.bind_some]; rfl) ?_
    exact right_loop (hasV op) op ([⟨1, dst⟩, ⟨2, a⟩, ⟨4, b⟩, ⟨8, c⟩, ⟨256, site⟩] : List S96) l dst a b c n m site hl (by simp) _ 0 rfl (by omega)
  exact Ev.congr (fun k => by rw [Option.bind_some, if_neg h0]) key
end Go.Proofs.Ytgbpkbfghonllaa.Pure

/- A part of it. -/
import Derived.Test.YtgbpkbfghonllaaFcP0
import Derived.Test.YtgbpkbfghonllaaFcM23
namespace Go.Proofs.Ytgbpkbfghonllaa.P
open Go.RowKit Go.Proofs.YtgbpkbfghonllaaW.PrintWords Go.Proofs.YtgbpkbfghonllaaW.PrintLast Go.Proofs.YtgbpkbfghonllaaW.PrintMore
attribute [local go_sem] max2_int min2_int max_two min_two max_three min_three max_four min_four   
set_option linter.unusedVariables false
set_option linter.unusedSimpArgs false
open Go.Sort
theorem rr_wrap_id {x : Int} (h0 : -9223372036854775808 ≤ x) (h1 : x ≤ 9223372036854775807) : wrap64 x = x := by unfold wrap64; omega
theorem rr_wrap_succ (i : Nat) (h : i < 4611686018427387904) : wrap64 ((i : Int) + 1) = ((i + 1 : Nat) : Int) := by rw [rr_wrap_id] <;> omega
theorem rr_rd_nat (l : List Int) (i : Nat) (h : i < l.length) : rd l (i : Int) = l[i] := by simp [rd, List.getD_eq_getElem?_getD, h]
theorem rr_dec_mem_ne {x a : Int} {xs : List Int} (h : x ≠ a) : decide (a ∈ x :: xs) = decide (a ∈ xs) := by simp [Ne.symm h]
theorem rr_dec_mem_eq {x a : Int} {xs : List Int} (h : x = a) : decide (a ∈ x :: xs) = true := by simp [h]
theorem rr_hasInt_from (l : List Int) (a : Int) (hl : l.length < 4611686018427387904) : ∀ d i, l.length - i = d → i ≤ l.length → Ev (fun k => balustradebase_HasInt.l0 k l a (i : Int)) (decide (a ∈ l.drop i)) := by
 intro d
 induction d with
 | zero =>
  intro i hd hi
  obtain rfl : i = l.length := by omega
  apply Ev.step
  ·intro k
   rw [balustradebase_HasInt.l0, if_neg (by omega)]
  ·simp
   exact Ev.now _
 | succ d ih =>
  intro i hd hi
  have hlt : i < l.length := by omega
  rw [List.drop_eq_getElem_cons hlt]
  by_cases h : l[i] = a
  ·apply Ev.step
   ·intro k
    rw [balustradebase_HasInt.l0, if_pos (by omega), if_pos (by omega), if_pos (by rw [rr_rd_nat l i hlt]; exact h)]
   ·rw [rr_dec_mem_eq h]
    exact Ev.now _
  ·apply Ev.step
   ·intro k
    rw [balustradebase_HasInt.l0, if_pos (by omega), if_pos (by omega), if_neg (by rw [rr_rd_nat l i hlt]; exact h), rr_wrap_succ i (by omega)]
   ·rw [rr_dec_mem_ne h]
    exact ih (i + 1) (by omega) (by omega)
theorem rr_hasInt_ev (l : List Int) (a : Int) (hl : l.length < 4611686018427387904) : Ev (fun k => balustradebase_HasInt.f k l a) (decide (a ∈ l)) := rr_hasInt_from l a hl l.length 0 (by omega) (by omega)
def rr_fitsV (x : Bool) (n : Int) : Bool := decide (n = 0) || (x && decide (0 < n))
def rr_twoV (op : Int) : Bool := decide (3 ≤ op ∧ op ≤ 16) || decide (op ∈ ([29, 32, 33, 34, 35, 37] : List Int))
def rr_oneV (op : Int) : Bool := decide (op ∈ ([23, 24, 25, 26, 27, 28, 31, 36, 38, 40, 42, 43] : List Int))
def rr_wrV (op : Int) : Bool := decide (3 ≤ op ∧ op ≤ 16) || decide (20 ≤ op ∧ op ≤ 29) || decide (op = 39) || decide (op = 44) || decide (op = 45)
def rr_ckV (op : Int) : Bool := decide (31 ≤ op ∧ op ≤ 38)
theorem rr_fits_val (x : Bool) (n : Int) : balustraderef15_fits.f x n = some (rr_fitsV x n) := by
 unfold balustraderef15_fits.f rr_fitsV
 by_cases h : n = 0
 ·simp [h]
 ·cases x <;> simp [h]
theorem rr_wr_val (op : Int) : balustraderef15_Writes.f op = some (rr_wrV op) := by
 unfold balustraderef15_Writes.f rr_wrV
 repeat' split
 all_goals
  congr 1
  rw [Bool.eq_iff_iff]
  simp
  try omega
theorem rr_ck_val (op : Int) : balustraderef15_Check.f op = some (rr_ckV op) := by
 unfold balustraderef15_Check.f rr_ckV
 split
 ·congr 1
  apply Eq.symm
  simp
  omega
 ·congr 1
  apply Eq.symm
  simp
  omega
theorem rr_one_ev (op : Int) : Ev (fun k => balustraderef15_one.f k op) (rr_oneV op) := by
 unfold balustraderef15_one.f
 exact Ev.bind (rr_hasInt_ev _ op (by decide)) (Ev.now _)
theorem rr_two_ev (op : Int) : Ev (fun k => balustraderef15_two.f k op) (rr_twoV op) := by
 unfold balustraderef15_two.f rr_twoV
 by_cases h1 : 3 ≤ op
 ·by_cases h2 : op ≤ 16
  ·refine Ev.congr (f := fun _ => some true) (fun k => by rw [if_pos (by omega), if_pos h2]) ?_
   rw [decide_eq_true ⟨h1, h2⟩, Bool.true_or]
   exact Ev.now _
  ·refine Ev.congr (f := fun k => (balustradebase_HasInt.f k ([29, 32, 33, 34, 35, 37] : List Int) op).bind fun t => some t) (fun k => by rw [if_pos (by omega), if_neg h2]) ?_
   rw [decide_eq_false (by omega), Bool.false_or]
   exact Ev.bind (rr_hasInt_ev _ op (by decide)) (Ev.now _)
 ·refine Ev.congr (f := fun k => (balustradebase_HasInt.f k ([29, 32, 33, 34, 35, 37] : List Int) op).bind fun t => some t) (fun k => by rw [if_neg (by omega)]) ?_
  rw [decide_eq_false (by omega), Bool.false_or]
  exact Ev.bind (rr_hasInt_ev _ op (by decide)) (Ev.now _)
theorem rr_two_c (op : Int) (w : World) : Calls Try.prog 32 #[.int .i64 op] w fun e w' => e = .returned (.bool (rr_twoV op)) ∧ Below w.heap.size w w' := by
 obtain ⟨k, h⟩ := (rr_two_ev op).rounds
 exact balustraderef15_two.calls k op _ w h
theorem rr_one_c (op : Int) (w : World) : Calls Try.prog 33 #[.int .i64 op] w fun e w' => e = .returned (.bool (rr_oneV op)) ∧ Below w.heap.size w w' := by
 obtain ⟨k, h⟩ := (rr_one_ev op).rounds
 exact balustraderef15_one.calls k op _ w h
def rr_bV (op : Int) : Bool := rr_twoV op || decide (op = 30) || decide (op = 45)
def rr_tailV (op n m : Int) (len : Nat) : Bool :=
 if op = 39 then decide (0 ≤ n ∧ m = 0 ∧ len ≤ 8)
 else if op = 44 then decide (n = 0 ∧ m = 0 ∧ 1 ≤ len)
 else if op = 45 then decide (n = 0 ∧ (3 ≤ m ∧ m ≤ 8 ∨ m = 20 ∨ m = 21) ∧ len = 0)
 else if 0 < len then false
 else if op = 20 then decide (m = 0)
 else if op = 21 then decide (m = 0 ∧ (n = 0 ∨ n = 1))
 else if op = 41 then decide (m = 0 ∧ 0 ≤ n)
 else if op = 42 then decide (0 ≤ m ∧ 0 ≤ n ∧ m ≠ n)
 else decide (n = 0 ∧ m = 0)
def rr_rightV (op dst a b c n m site : Int) (args : List Int) : Bool :=
 decide (3 ≤ op ∧ op ≤ 45 ∧ ¬ (16 < op ∧ op < 20)) && rr_fitsV (rr_wrV op) dst && rr_fitsV (rr_bV op || rr_oneV op) a && rr_fitsV (rr_bV op && (decide (op ≠ 45) || decide (m ≠ 21))) b && rr_fitsV (decide (op = 30)) c && rr_fitsV (rr_ckV op) site &&
  args.all (fun x => decide (0 ≤ x)) && rr_tailV op n m args.length
set_option maxHeartbeats 4000000 in
set_option maxRecDepth 100000 in
theorem rr_right_out (a0_0 a0_1 a0_2 a0_3 a0_4 a0_5 a0_6 a0_7 : Int) (A0_8 : Option Addr) (c0_8 : Nat) (l0_8 : List Int) (w : World) (h : ¬ (3 ≤ a0_0 ∧ a0_0 ≤ 45 ∧ ¬ (16 < a0_0 ∧ a0_0 < 20))) :
  Calls Try.prog 31 #[.agg #[.int .i64 a0_0, .int .i64 a0_1, .int .i64 a0_2, .int .i64 a0_3, .int .i64 a0_4, .int .i64 a0_5, .int .i64 a0_6, .int .i64 a0_7, .slice A0_8 l0_8.length c0_8]] w fun e w' => e = .returned (.bool false) ∧ Below w.heap.size w w' := by
 have HB := Aside0.mk (Below.refl w.heap.size w)
 have hu24 := Try.underlying42
 by_cases h1 : a0_0 < 3
 ·have t1 : decide (a0_0 < 3) = true := decide_eq_true h1
  clear h
  go_enter Try.func31, Try.ntmps31
  go_wp2
  go_ret
  exact ⟨rfl, below_alloc HB.out _⟩
 ·have t1 : decide (a0_0 < 3) = false := decide_eq_false h1
  by_cases h2 : 45 < a0_0
  ·have t2 : decide (45 < a0_0) = true := decide_eq_true h2
   clear h
   go_enter Try.func31, Try.ntmps31
   go_wp2
   go_ret
   exact ⟨rfl, below_alloc HB.out _⟩
  ·have t2 : decide (45 < a0_0) = false := decide_eq_false h2
   have t3 : decide (16 < a0_0) = true := decide_eq_true (by omega)
   have t4 : decide (a0_0 < 20) = true := decide_eq_true (by omega)
   clear h
   go_enter Try.func31, Try.ntmps31
   go_wp2
   go_ret
   exact ⟨rfl, below_alloc HB.out _⟩
def rr_BoxAt (w : World) (B : Nat) (cs : Array Value) : Prop := w.heap[B]? = some (.cells cs 42 (0, 0))
theorem rr_BoxAt.cell {w : World} {B : Nat} {cs : Array Value} (h : rr_BoxAt w B cs) (i : Nat) (v : Value) (hv : cs[i]? = some v) : w.cell? ⟨B, i, none⟩ = some v := by simp [World.cell?, show w.heap[B]? = _ from h, hv]
theorem rr_BoxAt.below {w w1 : World} {B : Nat} {cs : Array Value} (h : rr_BoxAt w B cs) (hb : Below w.heap.size w w1) : rr_BoxAt w1 B cs := (hb.block B (blk_lt h)).trans h
def rr_okV (op dst a b c m site : Int) : Bool := rr_fitsV (rr_wrV op) dst && rr_fitsV (rr_bV op || rr_oneV op) a && rr_fitsV (rr_bV op && (op != 45 || m != 21)) b && rr_fitsV (op == 30) c && rr_fitsV (rr_ckV op) site
theorem rr_right_ok (op dst a b c n m site : Int) (l : List Int) (h : rr_okV op dst a b c m site = false) : rr_rightV op dst a b c n m site l = false := by
 have e : (rr_fitsV (rr_wrV op) dst && rr_fitsV (rr_bV op || rr_oneV op) a && rr_fitsV (rr_bV op && (decide (op ≠ 45) || decide (m ≠ 21))) b && rr_fitsV (decide (op = 30)) c && rr_fitsV (rr_ckV op) site) = false := by
  rw [← h]; unfold rr_okV
  rw [show decide (op ≠ 45) = (op != 45) by rw [Bool.eq_iff_iff]; simp, show decide (m ≠ 21) = (m != 21) by rw [Bool.eq_iff_iff]; simp, show decide (op = 30) = (op == 30) by rw [Bool.eq_iff_iff]; simp]
 have key : ∀ p x1 x2 x3 x4 x5 y z : Bool, (x1 && x2 && x3 && x4 && x5) = false → (p && x1 && x2 && x3 && x4 && x5 && y && z) = false := by decide
 exact key _ _ _ _ _ _ _ _ e
theorem rr_right_args (op dst a b c n m site : Int) (l : List Int) (j : Nat) (hj : j < l.length) (hx : rd l (j : Int) < 0) : rr_rightV op dst a b c n m site l = false := by
 have : l.all (fun x => decide (0 ≤ x)) = false := by
  rw [List.all_eq_false]
  refine ⟨l[j], List.getElem_mem hj, ?_⟩
  rw [rr_rd_nat l j hj] at hx
  simp
  omega
 simp [rr_rightV, this]
theorem rr_right_tail (op dst a b c n m site : Int) (l : List Int) (h0 : 3 ≤ op ∧ op ≤ 45 ∧ ¬ (16 < op ∧ op < 20)) (h1 : rr_okV op dst a b c m site = true) (ha : ∀ t : Nat, t < l.length → 0 ≤ rd l (t : Int)) : rr_rightV op dst a b c n m site l = rr_tailV op n m l.length := by
 have : l.all (fun x => decide (0 ≤ x)) = true := by
  rw [List.all_eq_true]
  intro x hx
  obtain ⟨t, ht, rfl⟩ := List.getElem_of_mem hx
  have := ha t ht
  rw [rr_rd_nat l t ht] at this
  simpa using this
 have e : (rr_fitsV (rr_wrV op) dst && rr_fitsV (rr_bV op || rr_oneV op) a && rr_fitsV (rr_bV op && (decide (op ≠ 45) || decide (m ≠ 21))) b && rr_fitsV (decide (op = 30)) c && rr_fitsV (rr_ckV op) site) = true := by
  rw [← h1]; unfold rr_okV
  rw [show decide (op ≠ 45) = (op != 45) by rw [Bool.eq_iff_iff]; simp, show decide (m ≠ 21) = (m != 21) by rw [Bool.eq_iff_iff]; simp, show decide (op = 30) = (op == 30) by rw [Bool.eq_iff_iff]; simp]
 unfold rr_rightV
 simp only [Bool.and_eq_true] at e
 obtain ⟨⟨⟨⟨e1, e2⟩, e3⟩, e4⟩, e5⟩ := e
 rw [decide_eq_true h0, e1, e2, e3, e4, e5, this]
 simp
theorem rr_rg_of {f : FuncId} {args : Array Value} {w : World} {d : Nat} {os : Array Obj} {v : Value} (h : Calls Try.prog f args (grow (redrawn w d) os) fun e w' => e = .returned v ∧ ∃ m, w' = (grow (redrawn w d) os).drewN m) :
  Calls Try.prog f args (grow (redrawn w d) os) fun e w'' => e = .returned v ∧ ∃ p : Regrown, w'' = grow (redrawn w p.d) p.os :=
 Calls.regrown_of (h.mono fun e w' h => ⟨h.1, by obtain ⟨m, hm⟩ := h.2; rw [hm]; exact pw_below_drewN (Below.refl _ _) m⟩)
theorem rr_fits_q (x : Bool) (n : Int) (v : Bool) (hv : rr_fitsV x n = v) (w : World) (d : Nat) (os : Array Obj) : Calls Try.prog 64 #[.bool x, .int .i64 n] (grow (redrawn w d) os) fun e w'' => e = .returned (.bool v) ∧ ∃ p : Regrown, w'' = grow (redrawn w p.d) p.os := by
 subst hv
 exact rr_rg_of ((balustraderef15_fits.calls x n _ _ (rr_fits_val x n)).mono (fun e w' h => by rcases h with ⟨rfl, ⟨nd, rfl⟩⟩; exact ⟨rfl, nd, rfl⟩))
theorem rr_wr_q (op : Int) (w : World) (d : Nat) (os : Array Obj) : Calls Try.prog 34 #[.int .i64 op] (grow (redrawn w d) os) fun e w'' => e = .returned (.bool (rr_wrV op)) ∧ ∃ p : Regrown, w'' = grow (redrawn w p.d) p.os :=
 rr_rg_of ((balustraderef15_Writes.calls op _ _ (rr_wr_val op)).mono (fun e w' h => by rcases h with ⟨rfl, ⟨nd, rfl⟩⟩; exact ⟨rfl, nd, rfl⟩))
theorem rr_ck_q (op : Int) (w : World) (d : Nat) (os : Array Obj) : Calls Try.prog 19 #[.int .i64 op] (grow (redrawn w d) os) fun e w'' => e = .returned (.bool (rr_ckV op)) ∧ ∃ p : Regrown, w'' = grow (redrawn w p.d) p.os :=
 rr_rg_of ((balustraderef15_Check.calls op _ _ (rr_ck_val op)).mono (fun e w' h => by rcases h with ⟨rfl, ⟨nd, rfl⟩⟩; exact ⟨rfl, nd, rfl⟩))
theorem rr_one_q (op : Int) (w : World) (d : Nat) (os : Array Obj) : Calls Try.prog 33 #[.int .i64 op] (grow (redrawn w d) os) fun e w'' => e = .returned (.bool (rr_oneV op)) ∧ ∃ p : Regrown, w'' = grow (redrawn w p.d) p.os := Calls.regrown_of (rr_one_c op _)
set_option maxHeartbeats 16000000 in
set_option maxRecDepth 100000 in
theorem rr_right_in (a0_0 a0_1 a0_2 a0_3 a0_4 a0_5 a0_6 a0_7 : Int) (A0_8 : Option Addr) (c0_8 : Nat) (l0_8 : List Int) (w : World) (h0 : 3 ≤ a0_0 ∧ a0_0 ≤ 45 ∧ ¬ (16 < a0_0 ∧ a0_0 < 20)) (hr : Kd.C (Kd.int .i64) w A0_8 l0_8.length l0_8) (hl : l0_8.length < 4611686018427387904) :
  Calls Try.prog 31 #[.agg #[.int .i64 a0_0, .int .i64 a0_1, .int .i64 a0_2, .int .i64 a0_3, .int .i64 a0_4, .int .i64 a0_5, .int .i64 a0_6, .int .i64 a0_7, .slice A0_8 l0_8.length c0_8]] w fun e w' => e = .returned (.bool (rr_rightV a0_0 a0_1 a0_2 a0_3 a0_4 a0_5 a0_6 a0_7 l0_8)) ∧ Below w.heap.size w w' := by
 have hu24 := Try.underlying42
 have HR := Aside0.mk hr
 have HLL := Aside0.mk hl
 have HOP := Aside0.mk h0
 clear hr hl h0
 go_enter Try.func31, Try.ntmps31
 go_upto_region 1 with (fail)
 go_cut [22] (fun v22 wc => v22 = .bool false ∧ Aside0 (rr_BoxAt wc w.heap.size #[.int .i64 a0_0, .int .i64 a0_1, .int .i64 a0_2, .int .i64 a0_3, .int .i64 a0_4, .int .i64 a0_5, .int .i64 a0_6, .int .i64 a0_7, .slice A0_8 l0_8.length c0_8]) ∧ Aside0 (Below w.heap.size w wc))
 case first =>
  as_aux_lemma =>
  have t1 : decide (a0_0 < 3) = false := decide_eq_false (by have := HOP.out; omega)
  have t2 : decide (45 < a0_0) = false := decide_eq_false (by have := HOP.out; omega)
  by_cases h16 : 16 < a0_0
  ·have t3 : decide (16 < a0_0) = true := decide_eq_true h16
   have t4 : decide (a0_0 < 20) = false := decide_eq_false (by have := HOP.out; omega)
   clear h16
   go_wp2
   go_meet
   case rel => exact ⟨rfl, ⟨heap_alloc_new w _⟩, ⟨below_alloc (Below.refl _ _) _⟩⟩
  ·have t3 : decide (16 < a0_0) = false := decide_eq_false h16
   clear h16
   go_wp2
   go_meet
   case rel => exact ⟨rfl, ⟨heap_alloc_new w _⟩, ⟨below_alloc (Below.refl _ _) _⟩⟩
 case rest =>
 obtain ⟨rfl, HX, HB⟩ := hcut
 obtain ⟨w1, hw1⟩ : ∃ x, x = wc := ⟨_, rfl⟩
 subst hw1
 have k0 := HX.out.cell 0 _ rfl
 go_upto_region 3 with (fail)
 go_cut [3] (fun v3 wc => ∃ bv : Bool, v3 = .bool bv ∧ Aside0 (rr_bV a0_0 = bv) ∧ Aside0 (rr_BoxAt wc w.heap.size #[.int .i64 a0_0, .int .i64 a0_1, .int .i64 a0_2, .int .i64 a0_3, .int .i64 a0_4, .int .i64 a0_5, .int .i64 a0_6, .int .i64 a0_7, .slice A0_8 l0_8.length c0_8]) ∧ Aside0 (Below w.heap.size w wc))
 case first =>
  cases ht : rr_twoV a0_0
  ·have HT := Aside0.mk ht
   clear ht
   by_cases e30 : a0_0 = 30
   ·have t1 : (a0_0 == 30) = true := beq_iff_eq.mpr e30
    have HBV := Aside0.mk (show rr_bV a0_0 = true by simp [rr_bV, e30])
    clear e30
    go_wp2_with (first | (go_at_call 32; ((with_reducible refine (rr_two_c a0_0 _).mono ?_); rintro e w' ⟨rfl, hb⟩; rw [HT.out]; have HX2 := Aside0.mk (HX.out.below hb); have HB2 := Aside0.mk (below_step HB.out hb); have j0 := HX2.out.cell 0 _ rfl; clear hb HX HB k0)))
    go_meet
    case rel => exact ⟨true, rfl, HBV, HX2, HB2⟩
   ·have t1 : (a0_0 == 30) = false := beq_eq_false_iff_ne.mpr e30
    have HBV := Aside0.mk (show rr_bV a0_0 = (a0_0 == 45) by simp [rr_bV, e30, HT.out, Bool.beq_eq_decide_eq]; try rfl)
    clear e30
    go_wp2_with (first | (go_at_call 32; ((with_reducible refine (rr_two_c a0_0 _).mono ?_); rintro e w' ⟨rfl, hb⟩; rw [HT.out]; have HX2 := Aside0.mk (HX.out.below hb); have HB2 := Aside0.mk (below_step HB.out hb); have j0 := HX2.out.cell 0 _ rfl; clear hb HX HB k0)))
    go_meet
    case rel => exact ⟨a0_0 == 45, rfl, HBV, HX2, HB2⟩
  ·have HT := Aside0.mk ht
   have HBV := Aside0.mk (show rr_bV a0_0 = true by simp [rr_bV, ht])
   clear ht
   go_wp2_with (first | (go_at_call 32; ((with_reducible refine (rr_two_c a0_0 _).mono ?_); rintro e w' ⟨rfl, hb⟩; rw [HT.out]; have HX2 := Aside0.mk (HX.out.below hb); have HB2 := Aside0.mk (below_step HB.out hb); have j0 := HX2.out.cell 0 _ rfl; clear hb HX HB k0)))
   go_meet
   case rel => exact ⟨true, rfl, HBV, HX2, HB2⟩
 case rest =>
 clear HX HB k0 w1
 obtain ⟨bv, rfl, HBV, HX, HB⟩ := hcut
 obtain ⟨w1, hw1⟩ : ∃ x, x = wc := ⟨_, rfl⟩
 subst hw1
 go_upto_region 4 with (fail)
 go_cut [89] (fun v89 wc => ∃ q : Bool, v89 = .bool (!q) ∧ Aside0 (rr_okV a0_0 a0_1 a0_2 a0_3 a0_4 a0_6 a0_7 = q) ∧ Aside0 (rr_BoxAt wc w.heap.size #[.int .i64 a0_0, .int .i64 a0_1, .int .i64 a0_2, .int .i64 a0_3, .int .i64 a0_4, .int .i64 a0_5, .int .i64 a0_6, .int .i64 a0_7, .slice A0_8 l0_8.length c0_8]) ∧ Aside0 (Below w.heap.size w wc))
 case first =>
  have c0 := cell_regrown (HX.out.cell 0 _ rfl)
  have c1 := cell_regrown (HX.out.cell 1 _ rfl)
  have c2 := cell_regrown (HX.out.cell 2 _ rfl)
  have c3 := cell_regrown (HX.out.cell 3 _ rfl)
  have c4 := cell_regrown (HX.out.cell 4 _ rfl)
  have c6 := cell_regrown (HX.out.cell 6 _ rfl)
  have c7 := cell_regrown (HX.out.cell 7 _ rfl)
  have HXB : ∀ p : Regrown, Aside0 (rr_BoxAt (grow (redrawn w1 p.d) p.os) w.heap.size #[.int .i64 a0_0, .int .i64 a0_1, .int .i64 a0_2, .int .i64 a0_3, .int .i64 a0_4, .int .i64 a0_5, .int .i64 a0_6, .int .i64 a0_7, .slice A0_8 l0_8.length c0_8]) ∧ Aside0 (Below w.heap.size w (grow (redrawn w1 p.d) p.os)) := fun p => ⟨⟨HX.out.below (below_regrown w1 p.d p.os)⟩, ⟨below_step HB.out (below_regrown w1 p.d p.os)⟩⟩
  have HXA := Aside0.mk HXB
  clear HXB HX HB
  cases bv
  ·as_aux_lemma =>
    clear c6
    cases v1 : rr_fitsV (rr_wrV a0_0) a0_1
    ·have V1 := Aside0.mk v1
     clear v1
     refine wp_region_quiet_below (by kernel_rfl) (by kernel_rfl) ?_
     repeat (first | go_big_quiet_step ((first | (go_at_call 34; exact rr_wr_q _ _ _ _) | (go_at_call_of 64 (Value.int IntKind.i64 a0_1); exact rr_fits_q _ _ _ V1.out _ _ _) | (go_at_call 33; exact rr_one_q _ _ _ _))) | quiet_step ((first | (go_at_call 34; exact rr_wr_q _ _ _ _) | (go_at_call_of 64 (Value.int IntKind.i64 a0_1); exact rr_fits_q _ _ _ V1.out _ _ _) | (go_at_call 33; exact rr_one_q _ _ _ _))))
     refine wpQuiet_nil ?_
     intro _ hw'
     obtain ⟨p, hw''⟩ := hw'
     subst hw''
     go_wp2
     go_meet
     case rel => exact ⟨false, rfl, ⟨by unfold rr_okV; rw [HBV.out]; simp only [Bool.false_or, Bool.false_and]; rw [V1.out]; simp⟩, HXA.out p⟩
    ·have V1 := Aside0.mk v1
     clear v1
     cases v2 : rr_fitsV (rr_oneV a0_0) a0_2
     ·have V2 := Aside0.mk v2
      clear v2
      refine wp_region_quiet_below (by kernel_rfl) (by kernel_rfl) ?_
      repeat (first | go_big_quiet_step ((first | (go_at_call 34; exact rr_wr_q _ _ _ _) | (go_at_call_of 64 (Value.int IntKind.i64 a0_1); exact rr_fits_q _ _ _ V1.out _ _ _) | (go_at_call 33; exact rr_one_q _ _ _ _) | (go_at_call_of 64 (Value.int IntKind.i64 a0_2); exact rr_fits_q _ _ _ V2.out _ _ _))) | quiet_step ((first | (go_at_call 34; exact rr_wr_q _ _ _ _) | (go_at_call_of 64 (Value.int IntKind.i64 a0_1); exact rr_fits_q _ _ _ V1.out _ _ _) | (go_at_call 33; exact rr_one_q _ _ _ _) | (go_at_call_of 64 (Value.int IntKind.i64 a0_2); exact rr_fits_q _ _ _ V2.out _ _ _))))
      refine wpQuiet_nil ?_
      intro _ hw'
      obtain ⟨p, hw''⟩ := hw'
      subst hw''
      go_wp2
      go_meet
      case rel => exact ⟨false, rfl, ⟨by unfold rr_okV; rw [HBV.out]; simp only [Bool.false_or, Bool.false_and]; rw [V1.out]; rw [V2.out]; simp⟩, HXA.out p⟩
     ·have V2 := Aside0.mk v2
      clear v2
      cases v3 : rr_fitsV (false) a0_3
      ·have V3 := Aside0.mk v3
       clear v3
       refine wp_region_quiet_below (by kernel_rfl) (by kernel_rfl) ?_
       repeat (first | go_big_quiet_step ((first | (go_at_call 34; exact rr_wr_q _ _ _ _) | (go_at_call_of 64 (Value.int IntKind.i64 a0_1); exact rr_fits_q _ _ _ V1.out _ _ _) | (go_at_call 33; exact rr_one_q _ _ _ _) | (go_at_call_of 64 (Value.int IntKind.i64 a0_2); exact rr_fits_q _ _ _ V2.out _ _ _) | (go_at_call_of 64 (Value.int IntKind.i64 a0_3); exact rr_fits_q _ _ _ V3.out _ _ _))) | quiet_step ((first | (go_at_call 34; exact rr_wr_q _ _ _ _) | (go_at_call_of 64 (Value.int IntKind.i64 a0_1); exact rr_fits_q _ _ _ V1.out _ _ _) | (go_at_call 33; exact rr_one_q _ _ _ _) | (go_at_call_of 64 (Value.int IntKind.i64 a0_2); exact rr_fits_q _ _ _ V2.out _ _ _) | (go_at_call_of 64 (Value.int IntKind.i64 a0_3); exact rr_fits_q _ _ _ V3.out _ _ _))))
       refine wpQuiet_nil ?_
       intro _ hw'
       obtain ⟨p, hw''⟩ := hw'
       subst hw''
       go_wp2
       go_meet
       case rel => exact ⟨false, rfl, ⟨by unfold rr_okV; rw [HBV.out]; simp only [Bool.false_or, Bool.false_and]; rw [V1.out]; rw [V2.out]; rw [V3.out]; simp⟩, HXA.out p⟩
      ·have V3 := Aside0.mk v3
       clear v3
       cases v4 : rr_fitsV (a0_0 == 30) a0_4
       ·have V4 := Aside0.mk v4
        clear v4
        refine wp_region_quiet_below (by kernel_rfl) (by kernel_rfl) ?_
        repeat (first | go_big_quiet_step ((first | (go_at_call 34; exact rr_wr_q _ _ _ _) | (go_at_call_of 64 (Value.int IntKind.i64 a0_1); exact rr_fits_q _ _ _ V1.out _ _ _) | (go_at_call 33; exact rr_one_q _ _ _ _) | (go_at_call_of 64 (Value.int IntKind.i64 a0_2); exact rr_fits_q _ _ _ V2.out _ _ _) | (go_at_call_of 64 (Value.int IntKind.i64 a0_3); exact rr_fits_q _ _ _ V3.out _ _ _) | (go_at_call_of 64 (Value.int IntKind.i64 a0_4); exact rr_fits_q _ _ _ V4.out _ _ _))) | quiet_step ((first | (go_at_call 34; exact rr_wr_q _ _ _ _) | (go_at_call_of 64 (Value.int IntKind.i64 a0_1); exact rr_fits_q _ _ _ V1.out _ _ _) | (go_at_call 33; exact rr_one_q _ _ _ _) | (go_at_call_of 64 (Value.int IntKind.i64 a0_2); exact rr_fits_q _ _ _ V2.out _ _ _) | (go_at_call_of 64 (Value.int IntKind.i64 a0_3); exact rr_fits_q _ _ _ V3.out _ _ _) | (go_at_call_of 64 (Value.int IntKind.i64 a0_4); exact rr_fits_q _ _ _ V4.out _ _ _))))
        refine wpQuiet_nil ?_
        intro _ hw'
        obtain ⟨p, hw''⟩ := hw'
        subst hw''
        go_wp2
        go_meet
        case rel => exact ⟨false, rfl, ⟨by unfold rr_okV; rw [HBV.out]; simp only [Bool.false_or, Bool.false_and]; rw [V1.out]; rw [V2.out]; rw [V3.out]; rw [V4.out]; simp⟩, HXA.out p⟩
       ·have V4 := Aside0.mk v4
        clear v4
        cases v5 : rr_fitsV (rr_ckV a0_0) a0_7
        ·have V5 := Aside0.mk v5
         clear v5
         refine wp_region_quiet_below (by kernel_rfl) (by kernel_rfl) ?_
         repeat (first | go_big_quiet_step ((first | (go_at_call 34; exact rr_wr_q _ _ _ _) | (go_at_call_of 64 (Value.int IntKind.i64 a0_1); exact rr_fits_q _ _ _ V1.out _ _ _) | (go_at_call 33; exact rr_one_q _ _ _ _) | (go_at_call_of 64 (Value.int IntKind.i64 a0_2); exact rr_fits_q _ _ _ V2.out _ _ _) | (go_at_call_of 64 (Value.int IntKind.i64 a0_3); exact rr_fits_q _ _ _ V3.out _ _ _) | (go_at_call_of 64 (Value.int IntKind.i64 a0_4); exact rr_fits_q _ _ _ V4.out _ _ _) | (go_at_call 19; exact rr_ck_q _ _ _ _) | (go_at_call_of 64 (Value.int IntKind.i64 a0_7); exact rr_fits_q _ _ _ V5.out _ _ _))) | quiet_step ((first | (go_at_call 34; exact rr_wr_q _ _ _ _) | (go_at_call_of 64 (Value.int IntKind.i64 a0_1); exact rr_fits_q _ _ _ V1.out _ _ _) | (go_at_call 33; exact rr_one_q _ _ _ _) | (go_at_call_of 64 (Value.int IntKind.i64 a0_2); exact rr_fits_q _ _ _ V2.out _ _ _) | (go_at_call_of 64 (Value.int IntKind.i64 a0_3); exact rr_fits_q _ _ _ V3.out _ _ _) | (go_at_call_of 64 (Value.int IntKind.i64 a0_4); exact rr_fits_q _ _ _ V4.out _ _ _) | (go_at_call 19; exact rr_ck_q _ _ _ _) | (go_at_call_of 64 (Value.int IntKind.i64 a0_7); exact rr_fits_q _ _ _ V5.out _ _ _))))
         refine wpQuiet_nil ?_
         intro _ hw'
         obtain ⟨p, hw''⟩ := hw'
         subst hw''
         go_wp2
         go_meet
         case rel => exact ⟨false, rfl, ⟨by unfold rr_okV; rw [HBV.out]; simp only [Bool.false_or, Bool.false_and]; rw [V1.out]; rw [V2.out]; rw [V3.out]; rw [V4.out]; rw [V5.out]; simp⟩, HXA.out p⟩
        ·have V5 := Aside0.mk v5
         clear v5
         refine wp_region_quiet_below (by kernel_rfl) (by kernel_rfl) ?_
         repeat (first | go_big_quiet_step ((first | (go_at_call 34; exact rr_wr_q _ _ _ _) | (go_at_call_of 64 (Value.int IntKind.i64 a0_1); exact rr_fits_q _ _ _ V1.out _ _ _) | (go_at_call 33; exact rr_one_q _ _ _ _) | (go_at_call_of 64 (Value.int IntKind.i64 a0_2); exact rr_fits_q _ _ _ V2.out _ _ _) | (go_at_call_of 64 (Value.int IntKind.i64 a0_3); exact rr_fits_q _ _ _ V3.out _ _ _) | (go_at_call_of 64 (Value.int IntKind.i64 a0_4); exact rr_fits_q _ _ _ V4.out _ _ _) | (go_at_call 19; exact rr_ck_q _ _ _ _) | (go_at_call_of 64 (Value.int IntKind.i64 a0_7); exact rr_fits_q _ _ _ V5.out _ _ _))) | quiet_step ((first | (go_at_call 34; exact rr_wr_q _ _ _ _) | (go_at_call_of 64 (Value.int IntKind.i64 a0_1); exact rr_fits_q _ _ _ V1.out _ _ _) | (go_at_call 33; exact rr_one_q _ _ _ _) | (go_at_call_of 64 (Value.int IntKind.i64 a0_2); exact rr_fits_q _ _ _ V2.out _ _ _) | (go_at_call_of 64 (Value.int IntKind.i64 a0_3); exact rr_fits_q _ _ _ V3.out _ _ _) | (go_at_call_of 64 (Value.int IntKind.i64 a0_4); exact rr_fits_q _ _ _ V4.out _ _ _) | (go_at_call 19; exact rr_ck_q _ _ _ _) | (go_at_call_of 64 (Value.int IntKind.i64 a0_7); exact rr_fits_q _ _ _ V5.out _ _ _))))
         refine wpQuiet_nil ?_
         intro _ hw'
         obtain ⟨p, hw''⟩ := hw'
         subst hw''
         go_wp2
         go_meet
         case rel => exact ⟨true, rfl, ⟨by unfold rr_okV; rw [HBV.out]; simp only [Bool.false_or, Bool.false_and]; rw [V1.out]; rw [V2.out]; rw [V3.out]; rw [V4.out]; rw [V5.out]; simp⟩, HXA.out p⟩
  ·by_cases e45 : a0_0 = 45
   ·as_aux_lemma =>
    have n45 : (a0_0 != 45) = false := bne_eq_false_iff_eq.mpr e45
    have N45 := Aside0.mk n45
    clear e45
    cases v1 : rr_fitsV (rr_wrV a0_0) a0_1
    ·have V1 := Aside0.mk v1
     clear v1
     refine wp_region_quiet_below (by kernel_rfl) (by kernel_rfl) ?_
     repeat (first | go_big_quiet_step ((first | (go_at_call 34; exact rr_wr_q _ _ _ _) | (go_at_call_of 64 (Value.int IntKind.i64 a0_1); exact rr_fits_q _ _ _ V1.out _ _ _))) | quiet_step ((first | (go_at_call 34; exact rr_wr_q _ _ _ _) | (go_at_call_of 64 (Value.int IntKind.i64 a0_1); exact rr_fits_q _ _ _ V1.out _ _ _))))
     refine wpQuiet_nil ?_
     intro _ hw'
     obtain ⟨p, hw''⟩ := hw'
     subst hw''
     go_wp2
     go_meet
     case rel => exact ⟨false, rfl, ⟨by unfold rr_okV; rw [HBV.out]; rw [N45.out]; simp only [Bool.true_or, Bool.true_and, Bool.false_or]; rw [V1.out]; simp⟩, HXA.out p⟩
    ·have V1 := Aside0.mk v1
     clear v1
     cases v2 : rr_fitsV (true) a0_2
     ·have V2 := Aside0.mk v2
      clear v2
      refine wp_region_quiet_below (by kernel_rfl) (by kernel_rfl) ?_
      repeat (first | go_big_quiet_step ((first | (go_at_call 34; exact rr_wr_q _ _ _ _) | (go_at_call_of 64 (Value.int IntKind.i64 a0_1); exact rr_fits_q _ _ _ V1.out _ _ _) | (go_at_call_of 64 (Value.int IntKind.i64 a0_2); exact rr_fits_q _ _ _ V2.out _ _ _))) | quiet_step ((first | (go_at_call 34; exact rr_wr_q _ _ _ _) | (go_at_call_of 64 (Value.int IntKind.i64 a0_1); exact rr_fits_q _ _ _ V1.out _ _ _) | (go_at_call_of 64 (Value.int IntKind.i64 a0_2); exact rr_fits_q _ _ _ V2.out _ _ _))))
      refine wpQuiet_nil ?_
      intro _ hw'
      obtain ⟨p, hw''⟩ := hw'
      subst hw''
      go_wp2
      go_meet
      case rel => exact ⟨false, rfl, ⟨by unfold rr_okV; rw [HBV.out]; rw [N45.out]; simp only [Bool.true_or, Bool.true_and, Bool.false_or]; rw [V1.out]; rw [V2.out]; simp⟩, HXA.out p⟩
     ·have V2 := Aside0.mk v2
      clear v2
      cases v3 : rr_fitsV (a0_6 != 21) a0_3
      ·have V3 := Aside0.mk v3
       clear v3
       refine wp_region_quiet_below (by kernel_rfl) (by kernel_rfl) ?_
       repeat (first | go_big_quiet_step ((first | (go_at_call 34; exact rr_wr_q _ _ _ _) | (go_at_call_of 64 (Value.int IntKind.i64 a0_1); exact rr_fits_q _ _ _ V1.out _ _ _) | (go_at_call_of 64 (Value.int IntKind.i64 a0_2); exact rr_fits_q _ _ _ V2.out _ _ _) | (go_at_call_of 64 (Value.int IntKind.i64 a0_3); exact rr_fits_q _ _ _ V3.out _ _ _))) | quiet_step ((first | (go_at_call 34; exact rr_wr_q _ _ _ _) | (go_at_call_of 64 (Value.int IntKind.i64 a0_1); exact rr_fits_q _ _ _ V1.out _ _ _) | (go_at_call_of 64 (Value.int IntKind.i64 a0_2); exact rr_fits_q _ _ _ V2.out _ _ _) | (go_at_call_of 64 (Value.int IntKind.i64 a0_3); exact rr_fits_q _ _ _ V3.out _ _ _))))
       refine wpQuiet_nil ?_
       intro _ hw'
       obtain ⟨p, hw''⟩ := hw'
       subst hw''
       go_wp2
       go_meet
       case rel => exact ⟨false, rfl, ⟨by unfold rr_okV; rw [HBV.out]; rw [N45.out]; simp only [Bool.true_or, Bool.true_and, Bool.false_or]; rw [V1.out]; rw [V2.out]; rw [V3.out]; simp⟩, HXA.out p⟩
      ·have V3 := Aside0.mk v3
       clear v3
       cases v4 : rr_fitsV (a0_0 == 30) a0_4
       ·have V4 := Aside0.mk v4
        clear v4
        refine wp_region_quiet_below (by kernel_rfl) (by kernel_rfl) ?_
        repeat (first | go_big_quiet_step ((first | (go_at_call 34; exact rr_wr_q _ _ _ _) | (go_at_call_of 64 (Value.int IntKind.i64 a0_1); exact rr_fits_q _ _ _ V1.out _ _ _) | (go_at_call_of 64 (Value.int IntKind.i64 a0_2); exact rr_fits_q _ _ _ V2.out _ _ _) | (go_at_call_of 64 (Value.int IntKind.i64 a0_3); exact rr_fits_q _ _ _ V3.out _ _ _) | (go_at_call_of 64 (Value.int IntKind.i64 a0_4); exact rr_fits_q _ _ _ V4.out _ _ _))) | quiet_step ((first | (go_at_call 34; exact rr_wr_q _ _ _ _) | (go_at_call_of 64 (Value.int IntKind.i64 a0_1); exact rr_fits_q _ _ _ V1.out _ _ _) | (go_at_call_of 64 (Value.int IntKind.i64 a0_2); exact rr_fits_q _ _ _ V2.out _ _ _) | (go_at_call_of 64 (Value.int IntKind.i64 a0_3); exact rr_fits_q _ _ _ V3.out _ _ _) | (go_at_call_of 64 (Value.int IntKind.i64 a0_4); exact rr_fits_q _ _ _ V4.out _ _ _))))
        refine wpQuiet_nil ?_
        intro _ hw'
        obtain ⟨p, hw''⟩ := hw'
        subst hw''
        go_wp2
        go_meet
        case rel => exact ⟨false, rfl, ⟨by unfold rr_okV; rw [HBV.out]; rw [N45.out]; simp only [Bool.true_or, Bool.true_and, Bool.false_or]; rw [V1.out]; rw [V2.out]; rw [V3.out]; rw [V4.out]; simp⟩, HXA.out p⟩
       ·have V4 := Aside0.mk v4
        clear v4
        cases v5 : rr_fitsV (rr_ckV a0_0) a0_7
        ·have V5 := Aside0.mk v5
         clear v5
         refine wp_region_quiet_below (by kernel_rfl) (by kernel_rfl) ?_
         repeat (first | go_big_quiet_step ((first | (go_at_call 34; exact rr_wr_q _ _ _ _) | (go_at_call_of 64 (Value.int IntKind.i64 a0_1); exact rr_fits_q _ _ _ V1.out _ _ _) | (go_at_call_of 64 (Value.int IntKind.i64 a0_2); exact rr_fits_q _ _ _ V2.out _ _ _) | (go_at_call_of 64 (Value.int IntKind.i64 a0_3); exact rr_fits_q _ _ _ V3.out _ _ _) | (go_at_call_of 64 (Value.int IntKind.i64 a0_4); exact rr_fits_q _ _ _ V4.out _ _ _) | (go_at_call 19; exact rr_ck_q _ _ _ _) | (go_at_call_of 64 (Value.int IntKind.i64 a0_7); exact rr_fits_q _ _ _ V5.out _ _ _))) | quiet_step ((first | (go_at_call 34; exact rr_wr_q _ _ _ _) | (go_at_call_of 64 (Value.int IntKind.i64 a0_1); exact rr_fits_q _ _ _ V1.out _ _ _) | (go_at_call_of 64 (Value.int IntKind.i64 a0_2); exact rr_fits_q _ _ _ V2.out _ _ _) | (go_at_call_of 64 (Value.int IntKind.i64 a0_3); exact rr_fits_q _ _ _ V3.out _ _ _) | (go_at_call_of 64 (Value.int IntKind.i64 a0_4); exact rr_fits_q _ _ _ V4.out _ _ _) | (go_at_call 19; exact rr_ck_q _ _ _ _) | (go_at_call_of 64 (Value.int IntKind.i64 a0_7); exact rr_fits_q _ _ _ V5.out _ _ _))))
         refine wpQuiet_nil ?_
         intro _ hw'
         obtain ⟨p, hw''⟩ := hw'
         subst hw''
         go_wp2
         go_meet
         case rel => exact ⟨false, rfl, ⟨by unfold rr_okV; rw [HBV.out]; rw [N45.out]; simp only [Bool.true_or, Bool.true_and, Bool.false_or]; rw [V1.out]; rw [V2.out]; rw [V3.out]; rw [V4.out]; rw [V5.out]; simp⟩, HXA.out p⟩
        ·have V5 := Aside0.mk v5
         clear v5
         refine wp_region_quiet_below (by kernel_rfl) (by kernel_rfl) ?_
         repeat (first | go_big_quiet_step ((first | (go_at_call 34; exact rr_wr_q _ _ _ _) | (go_at_call_of 64 (Value.int IntKind.i64 a0_1); exact rr_fits_q _ _ _ V1.out _ _ _) | (go_at_call_of 64 (Value.int IntKind.i64 a0_2); exact rr_fits_q _ _ _ V2.out _ _ _) | (go_at_call_of 64 (Value.int IntKind.i64 a0_3); exact rr_fits_q _ _ _ V3.out _ _ _) | (go_at_call_of 64 (Value.int IntKind.i64 a0_4); exact rr_fits_q _ _ _ V4.out _ _ _) | (go_at_call 19; exact rr_ck_q _ _ _ _) | (go_at_call_of 64 (Value.int IntKind.i64 a0_7); exact rr_fits_q _ _ _ V5.out _ _ _))) | quiet_step ((first | (go_at_call 34; exact rr_wr_q _ _ _ _) | (go_at_call_of 64 (Value.int IntKind.i64 a0_1); exact rr_fits_q _ _ _ V1.out _ _ _) | (go_at_call_of 64 (Value.int IntKind.i64 a0_2); exact rr_fits_q _ _ _ V2.out _ _ _) | (go_at_call_of 64 (Value.int IntKind.i64 a0_3); exact rr_fits_q _ _ _ V3.out _ _ _) | (go_at_call_of 64 (Value.int IntKind.i64 a0_4); exact rr_fits_q _ _ _ V4.out _ _ _) | (go_at_call 19; exact rr_ck_q _ _ _ _) | (go_at_call_of 64 (Value.int IntKind.i64 a0_7); exact rr_fits_q _ _ _ V5.out _ _ _))))
         refine wpQuiet_nil ?_
         intro _ hw'
         obtain ⟨p, hw''⟩ := hw'
         subst hw''
         go_wp2
         go_meet
         case rel => exact ⟨true, rfl, ⟨by unfold rr_okV; rw [HBV.out]; rw [N45.out]; simp only [Bool.true_or, Bool.true_and, Bool.false_or]; rw [V1.out]; rw [V2.out]; rw [V3.out]; rw [V4.out]; rw [V5.out]; simp⟩, HXA.out p⟩
   ·as_aux_lemma =>
    have n45 : (a0_0 != 45) = true := bne_iff_ne.mpr e45
    have N45 := Aside0.mk n45
    clear e45 c6
    cases v1 : rr_fitsV (rr_wrV a0_0) a0_1
    ·have V1 := Aside0.mk v1
     clear v1
     refine wp_region_quiet_below (by kernel_rfl) (by kernel_rfl) ?_
     repeat (first | go_big_quiet_step ((first | (go_at_call 34; exact rr_wr_q _ _ _ _) | (go_at_call_of 64 (Value.int IntKind.i64 a0_1); exact rr_fits_q _ _ _ V1.out _ _ _))) | quiet_step ((first | (go_at_call 34; exact rr_wr_q _ _ _ _) | (go_at_call_of 64 (Value.int IntKind.i64 a0_1); exact rr_fits_q _ _ _ V1.out _ _ _))))
     refine wpQuiet_nil ?_
     intro _ hw'
     obtain ⟨p, hw''⟩ := hw'
     subst hw''
     go_wp2
     go_meet
     case rel => exact ⟨false, rfl, ⟨by unfold rr_okV; rw [HBV.out]; rw [N45.out]; simp only [Bool.true_or, Bool.true_and]; rw [V1.out]; simp⟩, HXA.out p⟩
    ·have V1 := Aside0.mk v1
     clear v1
     cases v2 : rr_fitsV (true) a0_2
     ·have V2 := Aside0.mk v2
      clear v2
      refine wp_region_quiet_below (by kernel_rfl) (by kernel_rfl) ?_
      repeat (first | go_big_quiet_step ((first | (go_at_call 34; exact rr_wr_q _ _ _ _) | (go_at_call_of 64 (Value.int IntKind.i64 a0_1); exact rr_fits_q _ _ _ V1.out _ _ _) | (go_at_call_of 64 (Value.int IntKind.i64 a0_2); exact rr_fits_q _ _ _ V2.out _ _ _))) | quiet_step ((first | (go_at_call 34; exact rr_wr_q _ _ _ _) | (go_at_call_of 64 (Value.int IntKind.i64 a0_1); exact rr_fits_q _ _ _ V1.out _ _ _) | (go_at_call_of 64 (Value.int IntKind.i64 a0_2); exact rr_fits_q _ _ _ V2.out _ _ _))))
      refine wpQuiet_nil ?_
      intro _ hw'
      obtain ⟨p, hw''⟩ := hw'
      subst hw''
      go_wp2
      go_meet
      case rel => exact ⟨false, rfl, ⟨by unfold rr_okV; rw [HBV.out]; rw [N45.out]; simp only [Bool.true_or, Bool.true_and]; rw [V1.out]; rw [V2.out]; simp⟩, HXA.out p⟩
     ·have V2 := Aside0.mk v2
      clear v2
      cases v3 : rr_fitsV (true) a0_3
      ·have V3 := Aside0.mk v3
       clear v3
       refine wp_region_quiet_below (by kernel_rfl) (by kernel_rfl) ?_
       repeat (first | go_big_quiet_step ((first | (go_at_call 34; exact rr_wr_q _ _ _ _) | (go_at_call_of 64 (Value.int IntKind.i64 a0_1); exact rr_fits_q _ _ _ V1.out _ _ _) | (go_at_call_of 64 (Value.int IntKind.i64 a0_2); exact rr_fits_q _ _ _ V2.out _ _ _) | (go_at_call_of 64 (Value.int IntKind.i64 a0_3); exact rr_fits_q _ _ _ V3.out _ _ _))) | quiet_step ((first | (go_at_call 34; exact rr_wr_q _ _ _ _) | (go_at_call_of 64 (Value.int IntKind.i64 a0_1); exact rr_fits_q _ _ _ V1.out _ _ _) | (go_at_call_of 64 (Value.int IntKind.i64 a0_2); exact rr_fits_q _ _ _ V2.out _ _ _) | (go_at_call_of 64 (Value.int IntKind.i64 a0_3); exact rr_fits_q _ _ _ V3.out _ _ _))))
       refine wpQuiet_nil ?_
       intro _ hw'
       obtain ⟨p, hw''⟩ := hw'
       subst hw''
       go_wp2
       go_meet
       case rel => exact ⟨false, rfl, ⟨by unfold rr_okV; rw [HBV.out]; rw [N45.out]; simp only [Bool.true_or, Bool.true_and]; rw [V1.out]; rw [V2.out]; rw [V3.out]; simp⟩, HXA.out p⟩
      ·have V3 := Aside0.mk v3
       clear v3
       cases v4 : rr_fitsV (a0_0 == 30) a0_4
       ·have V4 := Aside0.mk v4
        clear v4
        refine wp_region_quiet_below (by kernel_rfl) (by kernel_rfl) ?_
        repeat (first | go_big_quiet_step ((first | (go_at_call 34; exact rr_wr_q _ _ _ _) | (go_at_call_of 64 (Value.int IntKind.i64 a0_1); exact rr_fits_q _ _ _ V1.out _ _ _) | (go_at_call_of 64 (Value.int IntKind.i64 a0_2); exact rr_fits_q _ _ _ V2.out _ _ _) | (go_at_call_of 64 (Value.int IntKind.i64 a0_3); exact rr_fits_q _ _ _ V3.out _ _ _) | (go_at_call_of 64 (Value.int IntKind.i64 a0_4); exact rr_fits_q _ _ _ V4.out _ _ _))) | quiet_step ((first | (go_at_call 34; exact rr_wr_q _ _ _ _) | (go_at_call_of 64 (Value.int IntKind.i64 a0_1); exact rr_fits_q _ _ _ V1.out _ _ _) | (go_at_call_of 64 (Value.int IntKind.i64 a0_2); exact rr_fits_q _ _ _ V2.out _ _ _) | (go_at_call_of 64 (Value.int IntKind.i64 a0_3); exact rr_fits_q _ _ _ V3.out _ _ _) | (go_at_call_of 64 (Value.int IntKind.i64 a0_4); exact rr_fits_q _ _ _ V4.out _ _ _))))
        refine wpQuiet_nil ?_
        intro _ hw'
        obtain ⟨p, hw''⟩ := hw'
        subst hw''
        go_wp2
        go_meet
        case rel => exact ⟨false, rfl, ⟨by unfold rr_okV; rw [HBV.out]; rw [N45.out]; simp only [Bool.true_or, Bool.true_and]; rw [V1.out]; rw [V2.out]; rw [V3.out]; rw [V4.out]; simp⟩, HXA.out p⟩
       ·have V4 := Aside0.mk v4
        clear v4
        cases v5 : rr_fitsV (rr_ckV a0_0) a0_7
        ·have V5 := Aside0.mk v5
         clear v5
         refine wp_region_quiet_below (by kernel_rfl) (by kernel_rfl) ?_
         repeat (first | go_big_quiet_step ((first | (go_at_call 34; exact rr_wr_q _ _ _ _) | (go_at_call_of 64 (Value.int IntKind.i64 a0_1); exact rr_fits_q _ _ _ V1.out _ _ _) | (go_at_call_of 64 (Value.int IntKind.i64 a0_2); exact rr_fits_q _ _ _ V2.out _ _ _) | (go_at_call_of 64 (Value.int IntKind.i64 a0_3); exact rr_fits_q _ _ _ V3.out _ _ _) | (go_at_call_of 64 (Value.int IntKind.i64 a0_4); exact rr_fits_q _ _ _ V4.out _ _ _) | (go_at_call 19; exact rr_ck_q _ _ _ _) | (go_at_call_of 64 (Value.int IntKind.i64 a0_7); exact rr_fits_q _ _ _ V5.out _ _ _))) | quiet_step ((first | (go_at_call 34; exact rr_wr_q _ _ _ _) | (go_at_call_of 64 (Value.int IntKind.i64 a0_1); exact rr_fits_q _ _ _ V1.out _ _ _) | (go_at_call_of 64 (Value.int IntKind.i64 a0_2); exact rr_fits_q _ _ _ V2.out _ _ _) | (go_at_call_of 64 (Value.int IntKind.i64 a0_3); exact rr_fits_q _ _ _ V3.out _ _ _) | (go_at_call_of 64 (Value.int IntKind.i64 a0_4); exact rr_fits_q _ _ _ V4.out _ _ _) | (go_at_call 19; exact rr_ck_q _ _ _ _) | (go_at_call_of 64 (Value.int IntKind.i64 a0_7); exact rr_fits_q _ _ _ V5.out _ _ _))))
         refine wpQuiet_nil ?_
         intro _ hw'
         obtain ⟨p, hw''⟩ := hw'
         subst hw''
         go_wp2
         go_meet
         case rel => exact ⟨false, rfl, ⟨by unfold rr_okV; rw [HBV.out]; rw [N45.out]; simp only [Bool.true_or, Bool.true_and]; rw [V1.out]; rw [V2.out]; rw [V3.out]; rw [V4.out]; rw [V5.out]; simp⟩, HXA.out p⟩
        ·have V5 := Aside0.mk v5
         clear v5
         refine wp_region_quiet_below (by kernel_rfl) (by kernel_rfl) ?_
         repeat (first | go_big_quiet_step ((first | (go_at_call 34; exact rr_wr_q _ _ _ _) | (go_at_call_of 64 (Value.int IntKind.i64 a0_1); exact rr_fits_q _ _ _ V1.out _ _ _) | (go_at_call_of 64 (Value.int IntKind.i64 a0_2); exact rr_fits_q _ _ _ V2.out _ _ _) | (go_at_call_of 64 (Value.int IntKind.i64 a0_3); exact rr_fits_q _ _ _ V3.out _ _ _) | (go_at_call_of 64 (Value.int IntKind.i64 a0_4); exact rr_fits_q _ _ _ V4.out _ _ _) | (go_at_call 19; exact rr_ck_q _ _ _ _) | (go_at_call_of 64 (Value.int IntKind.i64 a0_7); exact rr_fits_q _ _ _ V5.out _ _ _))) | quiet_step ((first | (go_at_call 34; exact rr_wr_q _ _ _ _) | (go_at_call_of 64 (Value.int IntKind.i64 a0_1); exact rr_fits_q _ _ _ V1.out _ _ _) | (go_at_call_of 64 (Value.int IntKind.i64 a0_2); exact rr_fits_q _ _ _ V2.out _ _ _) | (go_at_call_of 64 (Value.int IntKind.i64 a0_3); exact rr_fits_q _ _ _ V3.out _ _ _) | (go_at_call_of 64 (Value.int IntKind.i64 a0_4); exact rr_fits_q _ _ _ V4.out _ _ _) | (go_at_call 19; exact rr_ck_q _ _ _ _) | (go_at_call_of 64 (Value.int IntKind.i64 a0_7); exact rr_fits_q _ _ _ V5.out _ _ _))))
         refine wpQuiet_nil ?_
         intro _ hw'
         obtain ⟨p, hw''⟩ := hw'
         subst hw''
         go_wp2
         go_meet
         case rel => exact ⟨true, rfl, ⟨by unfold rr_okV; rw [HBV.out]; rw [N45.out]; simp only [Bool.true_or, Bool.true_and]; rw [V1.out]; rw [V2.out]; rw [V3.out]; rw [V4.out]; rw [V5.out]; simp⟩, HXA.out p⟩
 case rest =>
 clear HX HB HBV w1
 obtain ⟨q, rfl, HQ, HX, HB⟩ := hcut
 obtain ⟨w1, hw1⟩ : ∃ x, x = wc := ⟨_, rfl⟩
 subst hw1
 cases q
 ·have HF := Aside0.mk (rr_right_ok a0_0 a0_1 a0_2 a0_3 a0_4 a0_5 a0_6 a0_7 l0_8 HQ.out)
  go_wp2
  go_ret
  exact ⟨by rw [HF.out]; rfl, HB.out⟩
 have K0 := HX.out.cell 0 _ rfl
 have K5 := HX.out.cell 5 _ rfl
 have K6 := HX.out.cell 6 _ rfl
 have K8 := HX.out.cell 8 _ rfl
 clear HX
 have HRW := Aside0.mk (Kd.C_below HR.out HB.out)
 go_wp2
 go_loopg [4] l0_8.length (fun kq v4 w2 => ∃ j : Nat, v4 = .int .i64 (j : Int) ∧ Aside0 (j + kq = l0_8.length) ∧ Aside0 (∀ t : Nat, t < j → 0 ≤ rd l0_8 (t : Int)) ∧ w1 = w2)
 case atStart => exact ⟨0, rfl, ⟨by omega⟩, ⟨fun t ht => absurd ht (by omega)⟩, rfl⟩
 case round =>
 obtain ⟨j, rfl, HJ, HA, rfl⟩ := hrel
 by_cases hlt : j < l0_8.length
 ·have p1 : (0 : Int) ≤ (j : Int) := by omega
  have p2 : (j : Int) < (l0_8.length : Int) := by omega
  obtain ⟨ad, e, hx⟩ := Kd.at_int HRW.out (j : Int) p1 p2
  cases e
  replace hx : w1.cell? (ad.add j) = some (.int .i64 (rd l0_8 (j : Int))) := by simpa using hx
  obtain ⟨x, hxe⟩ : ∃ x, rd l0_8 (j : Int) = x := ⟨_, rfl⟩
  rw [hxe] at hx
  have HLT := Aside0.mk hlt
  have HXE := Aside0.mk hxe
  clear hlt hxe
  by_cases hx0 : x < 0
  ·have t1 : decide (x < 0) = true := decide_eq_true hx0
   have HF := Aside0.mk (rr_right_args a0_0 a0_1 a0_2 a0_3 a0_4 a0_5 a0_6 a0_7 l0_8 j HLT.out (by rw [HXE.out]; exact hx0))
   go_wp2
   go_ret
   exact ⟨by rw [HF.out]; rfl, HB.out⟩
  ·have t1 : decide (x < 0) = false := decide_eq_false hx0
   have HX0 := Aside0.mk hx0
   have HW := Aside0.mk (rr_wrap_succ j (by have := HLT.out; have := HLL.out; omega))
   clear hx0
   go_wp2
   go_roundg (gk - 1)
   case measure => have := HJ.out; have := HLT.out; omega
   case rel => exact ⟨j + 1, by rw [HW.out], ⟨by have := HJ.out; have := HLT.out; omega⟩, ⟨fun t ht => by
     by_cases e : t = j
     ·subst e; rw [HXE.out]; have := HX0.out; omega
     ·exact HA.out t (by omega)⟩, rfl⟩
 ·have hj : j = l0_8.length := by have := HJ.out; omega
  subst hj
  clear hlt
  have HF := Aside0.mk (rr_right_tail a0_0 a0_1 a0_2 a0_3 a0_4 a0_5 a0_6 a0_7 l0_8 HOP.out HQ.out HA.out)
  by_cases e39 : a0_0 = 39
  ·as_aux_lemma =>
    have fe39 : (a0_0 == 39) = true := beq_iff_eq.mpr e39
    have Ae39 := Aside0.mk e39
    clear e39
    by_cases n0 : 0 ≤ a0_5
    ·
     have fn0 : decide (0 ≤ a0_5) = true := decide_eq_true n0
     have An0 := Aside0.mk n0
     clear n0
     by_cases m0 : a0_6 = 0
     ·
      have fm0 : (a0_6 == 0) = true := beq_iff_eq.mpr m0
      have Am0 := Aside0.mk m0
      clear m0
      go_wp2
      go_ret
      exact ⟨by rw [HF.out]; exact congrArg (fun b => Ending.returned (.bool b)) (by have := Ae39.out; have := An0.out; have := Am0.out; clear HF; subst_vars; unfold rr_tailV; first | rfl | (rw [Bool.eq_iff_iff]; simp_all; done) | (rw [Bool.eq_iff_iff]; simp_all; omega)), HB.out⟩
     ·
      have fm0 : (a0_6 == 0) = false := beq_eq_false_iff_ne.mpr m0
      have Am0 := Aside0.mk m0
      clear m0
      go_wp2
      go_ret
      exact ⟨by rw [HF.out]; exact congrArg (fun b => Ending.returned (.bool b)) (by have := Ae39.out; have := An0.out; have := Am0.out; clear HF; subst_vars; unfold rr_tailV; first | rfl | (rw [Bool.eq_iff_iff]; simp_all; done) | (rw [Bool.eq_iff_iff]; simp_all; omega)), HB.out⟩
    ·
     have fn0 : decide (0 ≤ a0_5) = false := decide_eq_false n0
     have An0 := Aside0.mk n0
     clear n0
     go_wp2
     go_ret
     exact ⟨by rw [HF.out]; exact congrArg (fun b => Ending.returned (.bool b)) (by have := Ae39.out; have := An0.out; clear HF; subst_vars; unfold rr_tailV; first | rfl | (rw [Bool.eq_iff_iff]; simp_all; done) | (rw [Bool.eq_iff_iff]; simp_all; omega)), HB.out⟩
  ·
   have fe39 : (a0_0 == 39) = false := beq_eq_false_iff_ne.mpr e39
   have Ae39 := Aside0.mk e39
   clear e39
   by_cases e44 : a0_0 = 44
   ·as_aux_lemma =>
     have fe44 : (a0_0 == 44) = true := beq_iff_eq.mpr e44
     have Ae44 := Aside0.mk e44
     clear e44
     by_cases n0 : a0_5 = 0
     ·
      have fn0 : (a0_5 == 0) = true := beq_iff_eq.mpr n0
      have An0 := Aside0.mk n0
      clear n0
      by_cases m0 : a0_6 = 0
      ·
       have fm0 : (a0_6 == 0) = true := beq_iff_eq.mpr m0
       have Am0 := Aside0.mk m0
       clear m0
       go_wp2
       go_ret
       exact ⟨by rw [HF.out]; exact congrArg (fun b => Ending.returned (.bool b)) (by have := Ae39.out; have := Ae44.out; have := An0.out; have := Am0.out; clear HF; subst_vars; unfold rr_tailV; first | rfl | (rw [Bool.eq_iff_iff]; simp_all; done) | (rw [Bool.eq_iff_iff]; simp_all; omega)), HB.out⟩
      ·
       have fm0 : (a0_6 == 0) = false := beq_eq_false_iff_ne.mpr m0
       have Am0 := Aside0.mk m0
       clear m0
       go_wp2
       go_ret
       exact ⟨by rw [HF.out]; exact congrArg (fun b => Ending.returned (.bool b)) (by have := Ae39.out; have := Ae44.out; have := An0.out; have := Am0.out; clear HF; subst_vars; unfold rr_tailV; first | rfl | (rw [Bool.eq_iff_iff]; simp_all; done) | (rw [Bool.eq_iff_iff]; simp_all; omega)), HB.out⟩
     ·
      have fn0 : (a0_5 == 0) = false := beq_eq_false_iff_ne.mpr n0
      have An0 := Aside0.mk n0
      clear n0
      go_wp2
      go_ret
      exact ⟨by rw [HF.out]; exact congrArg (fun b => Ending.returned (.bool b)) (by have := Ae39.out; have := Ae44.out; have := An0.out; clear HF; subst_vars; unfold rr_tailV; first | rfl | (rw [Bool.eq_iff_iff]; simp_all; done) | (rw [Bool.eq_iff_iff]; simp_all; omega)), HB.out⟩
   ·
    have fe44 : (a0_0 == 44) = false := beq_eq_false_iff_ne.mpr e44
    have Ae44 := Aside0.mk e44
    clear e44
    by_cases e45 : a0_0 = 45
    ·as_aux_lemma =>
      have fe45 : (a0_0 == 45) = true := beq_iff_eq.mpr e45
      have Ae45 := Aside0.mk e45
      clear e45
      by_cases n0 : a0_5 = 0
      ·
       have fn0 : (a0_5 == 0) = true := beq_iff_eq.mpr n0
       have An0 := Aside0.mk n0
       clear n0
       by_cases x3 : 3 ≤ a0_6
       ·
        have fx3 : decide (3 ≤ a0_6) = true := decide_eq_true x3
        have Ax3 := Aside0.mk x3
        clear x3
        by_cases x8 : a0_6 ≤ 8
        ·
         have fx8 : decide (a0_6 ≤ 8) = true := decide_eq_true x8
         have Ax8 := Aside0.mk x8
         clear x8
         go_wp2
         go_ret
         exact ⟨by rw [HF.out]; exact congrArg (fun b => Ending.returned (.bool b)) (by have := Ae39.out; have := Ae44.out; have := Ae45.out; have := An0.out; have := Ax3.out; have := Ax8.out; clear HF; subst_vars; unfold rr_tailV; first | rfl | (rw [Bool.eq_iff_iff]; simp_all; done) | (rw [Bool.eq_iff_iff]; simp_all; omega)), HB.out⟩
        ·
         have fx8 : decide (a0_6 ≤ 8) = false := decide_eq_false x8
         have Ax8 := Aside0.mk x8
         clear x8
         by_cases x20 : a0_6 = 20
         ·
          have fx20 : (a0_6 == 20) = true := beq_iff_eq.mpr x20
          have Ax20 := Aside0.mk x20
          clear x20
          go_wp2
          go_ret
          exact ⟨by rw [HF.out]; exact congrArg (fun b => Ending.returned (.bool b)) (by have := Ae39.out; have := Ae44.out; have := Ae45.out; have := An0.out; have := Ax3.out; have := Ax8.out; have := Ax20.out; clear HF; subst_vars; unfold rr_tailV; first | rfl | (rw [Bool.eq_iff_iff]; simp_all; done) | (rw [Bool.eq_iff_iff]; simp_all; omega)), HB.out⟩
         ·
          have fx20 : (a0_6 == 20) = false := beq_eq_false_iff_ne.mpr x20
          have Ax20 := Aside0.mk x20
          clear x20
          by_cases x21 : a0_6 = 21
          ·
           have fx21 : (a0_6 == 21) = true := beq_iff_eq.mpr x21
           have Ax21 := Aside0.mk x21
           clear x21
           go_wp2
           go_ret
           exact ⟨by rw [HF.out]; exact congrArg (fun b => Ending.returned (.bool b)) (by have := Ae39.out; have := Ae44.out; have := Ae45.out; have := An0.out; have := Ax3.out; have := Ax8.out; have := Ax20.out; have := Ax21.out; clear HF; subst_vars; unfold rr_tailV; first | rfl | (rw [Bool.eq_iff_iff]; simp_all; done) | (rw [Bool.eq_iff_iff]; simp_all; omega)), HB.out⟩
          ·
           have fx21 : (a0_6 == 21) = false := beq_eq_false_iff_ne.mpr x21
           have Ax21 := Aside0.mk x21
           clear x21
           go_wp2
           go_ret
           exact ⟨by rw [HF.out]; exact congrArg (fun b => Ending.returned (.bool b)) (by have := Ae39.out; have := Ae44.out; have := Ae45.out; have := An0.out; have := Ax3.out; have := Ax8.out; have := Ax20.out; have := Ax21.out; clear HF; subst_vars; unfold rr_tailV; first | rfl | (rw [Bool.eq_iff_iff]; simp_all; done) | (rw [Bool.eq_iff_iff]; simp_all; omega)), HB.out⟩
       ·
        have fx3 : decide (3 ≤ a0_6) = false := decide_eq_false x3
        have Ax3 := Aside0.mk x3
        clear x3
        by_cases x20 : a0_6 = 20
        ·
         have fx20 : (a0_6 == 20) = true := beq_iff_eq.mpr x20
         have Ax20 := Aside0.mk x20
         clear x20
         go_wp2
         go_ret
         exact ⟨by rw [HF.out]; exact congrArg (fun b => Ending.returned (.bool b)) (by have := Ae39.out; have := Ae44.out; have := Ae45.out; have := An0.out; have := Ax3.out; have := Ax20.out; clear HF; subst_vars; unfold rr_tailV; first | rfl | (rw [Bool.eq_iff_iff]; simp_all; done) | (rw [Bool.eq_iff_iff]; simp_all; omega)), HB.out⟩
        ·
         have fx20 : (a0_6 == 20) = false := beq_eq_false_iff_ne.mpr x20
         have Ax20 := Aside0.mk x20
         clear x20
         by_cases x21 : a0_6 = 21
         ·
          have fx21 : (a0_6 == 21) = true := beq_iff_eq.mpr x21
          have Ax21 := Aside0.mk x21
          clear x21
          go_wp2
          go_ret
          exact ⟨by rw [HF.out]; exact congrArg (fun b => Ending.returned (.bool b)) (by have := Ae39.out; have := Ae44.out; have := Ae45.out; have := An0.out; have := Ax3.out; have := Ax20.out; have := Ax21.out; clear HF; subst_vars; unfold rr_tailV; first | rfl | (rw [Bool.eq_iff_iff]; simp_all; done) | (rw [Bool.eq_iff_iff]; simp_all; omega)), HB.out⟩
         ·
          have fx21 : (a0_6 == 21) = false := beq_eq_false_iff_ne.mpr x21
          have Ax21 := Aside0.mk x21
          clear x21
          go_wp2
          go_ret
          exact ⟨by rw [HF.out]; exact congrArg (fun b => Ending.returned (.bool b)) (by have := Ae39.out; have := Ae44.out; have := Ae45.out; have := An0.out; have := Ax3.out; have := Ax20.out; have := Ax21.out; clear HF; subst_vars; unfold rr_tailV; first | rfl | (rw [Bool.eq_iff_iff]; simp_all; done) | (rw [Bool.eq_iff_iff]; simp_all; omega)), HB.out⟩
      ·
       have fn0 : (a0_5 == 0) = false := beq_eq_false_iff_ne.mpr n0
       have An0 := Aside0.mk n0
       clear n0
       go_wp2
       go_ret
       exact ⟨by rw [HF.out]; exact congrArg (fun b => Ending.returned (.bool b)) (by have := Ae39.out; have := Ae44.out; have := Ae45.out; have := An0.out; clear HF; subst_vars; unfold rr_tailV; first | rfl | (rw [Bool.eq_iff_iff]; simp_all; done) | (rw [Bool.eq_iff_iff]; simp_all; omega)), HB.out⟩
    ·
     have fe45 : (a0_0 == 45) = false := beq_eq_false_iff_ne.mpr e45
     have Ae45 := Aside0.mk e45
     clear e45
     by_cases hz : 0 < l0_8.length
     ·as_aux_lemma =>
       have fz : decide (0 < l0_8.length) = true := decide_eq_true hz
       have gz : 0 < l0_8.length := hz
       have Ahz := Aside0.mk hz
       clear hz
       go_wp2
       go_ret
       exact ⟨by rw [HF.out]; exact congrArg (fun b => Ending.returned (.bool b)) (by have := Ae39.out; have := Ae44.out; have := Ae45.out; have := Ahz.out; clear HF; subst_vars; unfold rr_tailV; first | rfl | (rw [Bool.eq_iff_iff]; simp_all; done) | (rw [Bool.eq_iff_iff]; simp_all; omega)), HB.out⟩
     ·
      have fz : decide (0 < l0_8.length) = false := decide_eq_false hz
      have gz : ¬ 0 < l0_8.length := hz
      have Ahz := Aside0.mk hz
      clear hz
      by_cases e20 : a0_0 = 20
      ·
       have fe20 : (a0_0 == 20) = true := beq_iff_eq.mpr e20
       have Ae20 := Aside0.mk e20
       clear e20
       go_wp2
       go_ret
       exact ⟨by rw [HF.out]; exact congrArg (fun b => Ending.returned (.bool b)) (by have := Ae39.out; have := Ae44.out; have := Ae45.out; have := Ahz.out; have := Ae20.out; clear HF; subst_vars; unfold rr_tailV; first | rfl | (rw [Bool.eq_iff_iff]; simp_all; done) | (rw [Bool.eq_iff_iff]; simp_all; omega)), HB.out⟩
      ·
       have fe20 : (a0_0 == 20) = false := beq_eq_false_iff_ne.mpr e20
       have Ae20 := Aside0.mk e20
       clear e20
       by_cases e21 : a0_0 = 21
       ·
        have fe21 : (a0_0 == 21) = true := beq_iff_eq.mpr e21
        have Ae21 := Aside0.mk e21
        clear e21
        by_cases m0 : a0_6 = 0
        ·
         have fm0 : (a0_6 == 0) = true := beq_iff_eq.mpr m0
         have Am0 := Aside0.mk m0
         clear m0
         by_cases n0 : a0_5 = 0
         ·
          have fn0 : (a0_5 == 0) = true := beq_iff_eq.mpr n0
          have An0 := Aside0.mk n0
          clear n0
          go_wp2
          go_ret
          exact ⟨by rw [HF.out]; exact congrArg (fun b => Ending.returned (.bool b)) (by have := Ae39.out; have := Ae44.out; have := Ae45.out; have := Ahz.out; have := Ae20.out; have := Ae21.out; have := Am0.out; have := An0.out; clear HF; subst_vars; unfold rr_tailV; first | rfl | (rw [Bool.eq_iff_iff]; simp_all; done) | (rw [Bool.eq_iff_iff]; simp_all; omega)), HB.out⟩
         ·
          have fn0 : (a0_5 == 0) = false := beq_eq_false_iff_ne.mpr n0
          have An0 := Aside0.mk n0
          clear n0
          go_wp2
          go_ret
          exact ⟨by rw [HF.out]; exact congrArg (fun b => Ending.returned (.bool b)) (by have := Ae39.out; have := Ae44.out; have := Ae45.out; have := Ahz.out; have := Ae20.out; have := Ae21.out; have := Am0.out; have := An0.out; clear HF; subst_vars; unfold rr_tailV; first | rfl | (rw [Bool.eq_iff_iff]; simp_all; done) | (rw [Bool.eq_iff_iff]; simp_all; omega)), HB.out⟩
        ·
         have fm0 : (a0_6 == 0) = false := beq_eq_false_iff_ne.mpr m0
         have Am0 := Aside0.mk m0
         clear m0
         go_wp2
         go_ret
         exact ⟨by rw [HF.out]; exact congrArg (fun b => Ending.returned (.bool b)) (by have := Ae39.out; have := Ae44.out; have := Ae45.out; have := Ahz.out; have := Ae20.out; have := Ae21.out; have := Am0.out; clear HF; subst_vars; unfold rr_tailV; first | rfl | (rw [Bool.eq_iff_iff]; simp_all; done) | (rw [Bool.eq_iff_iff]; simp_all; omega)), HB.out⟩
       ·
        have fe21 : (a0_0 == 21) = false := beq_eq_false_iff_ne.mpr e21
        have Ae21 := Aside0.mk e21
        clear e21
        by_cases e41 : a0_0 = 41
        ·
         have fe41 : (a0_0 == 41) = true := beq_iff_eq.mpr e41
         have Ae41 := Aside0.mk e41
         clear e41
         by_cases m0 : a0_6 = 0
         ·
          have fm0 : (a0_6 == 0) = true := beq_iff_eq.mpr m0
          have Am0 := Aside0.mk m0
          clear m0
          go_wp2
          go_ret
          exact ⟨by rw [HF.out]; exact congrArg (fun b => Ending.returned (.bool b)) (by have := Ae39.out; have := Ae44.out; have := Ae45.out; have := Ahz.out; have := Ae20.out; have := Ae21.out; have := Ae41.out; have := Am0.out; clear HF; subst_vars; unfold rr_tailV; first | rfl | (rw [Bool.eq_iff_iff]; simp_all; done) | (rw [Bool.eq_iff_iff]; simp_all; omega)), HB.out⟩
         ·
          have fm0 : (a0_6 == 0) = false := beq_eq_false_iff_ne.mpr m0
          have Am0 := Aside0.mk m0
          clear m0
          go_wp2
          go_ret
          exact ⟨by rw [HF.out]; exact congrArg (fun b => Ending.returned (.bool b)) (by have := Ae39.out; have := Ae44.out; have := Ae45.out; have := Ahz.out; have := Ae20.out; have := Ae21.out; have := Ae41.out; have := Am0.out; clear HF; subst_vars; unfold rr_tailV; first | rfl | (rw [Bool.eq_iff_iff]; simp_all; done) | (rw [Bool.eq_iff_iff]; simp_all; omega)), HB.out⟩
        ·
         have fe41 : (a0_0 == 41) = false := beq_eq_false_iff_ne.mpr e41
         have Ae41 := Aside0.mk e41
         clear e41
         by_cases e42 : a0_0 = 42
         ·
          have fe42 : (a0_0 == 42) = true := beq_iff_eq.mpr e42
          have Ae42 := Aside0.mk e42
          clear e42
          by_cases m0 : 0 ≤ a0_6
          ·
           have fm0 : decide (0 ≤ a0_6) = true := decide_eq_true m0
           have Am0 := Aside0.mk m0
           clear m0
           by_cases n0 : 0 ≤ a0_5
           ·
            have fn0 : decide (0 ≤ a0_5) = true := decide_eq_true n0
            have An0 := Aside0.mk n0
            clear n0
            go_wp2
            go_ret
            exact ⟨by rw [HF.out]; exact congrArg (fun b => Ending.returned (.bool b)) (by have := Ae39.out; have := Ae44.out; have := Ae45.out; have := Ahz.out; have := Ae20.out; have := Ae21.out; have := Ae41.out; have := Ae42.out; have := Am0.out; have := An0.out; clear HF; subst_vars; unfold rr_tailV; first | rfl | (rw [Bool.eq_iff_iff]; simp_all; done) | (rw [Bool.eq_iff_iff]; simp_all; omega)), HB.out⟩
           ·
            have fn0 : decide (0 ≤ a0_5) = false := decide_eq_false n0
            have An0 := Aside0.mk n0
            clear n0
            go_wp2
            go_ret
            exact ⟨by rw [HF.out]; exact congrArg (fun b => Ending.returned (.bool b)) (by have := Ae39.out; have := Ae44.out; have := Ae45.out; have := Ahz.out; have := Ae20.out; have := Ae21.out; have := Ae41.out; have := Ae42.out; have := Am0.out; have := An0.out; clear HF; subst_vars; unfold rr_tailV; first | rfl | (rw [Bool.eq_iff_iff]; simp_all; done) | (rw [Bool.eq_iff_iff]; simp_all; omega)), HB.out⟩
          ·
           have fm0 : decide (0 ≤ a0_6) = false := decide_eq_false m0
           have Am0 := Aside0.mk m0
           clear m0
           go_wp2
           go_ret
           exact ⟨by rw [HF.out]; exact congrArg (fun b => Ending.returned (.bool b)) (by have := Ae39.out; have := Ae44.out; have := Ae45.out; have := Ahz.out; have := Ae20.out; have := Ae21.out; have := Ae41.out; have := Ae42.out; have := Am0.out; clear HF; subst_vars; unfold rr_tailV; first | rfl | (rw [Bool.eq_iff_iff]; simp_all; done) | (rw [Bool.eq_iff_iff]; simp_all; omega)), HB.out⟩
         ·
          have fe42 : (a0_0 == 42) = false := beq_eq_false_iff_ne.mpr e42
          have Ae42 := Aside0.mk e42
          clear e42
          by_cases n0 : a0_5 = 0
          ·
           have fn0 : (a0_5 == 0) = true := beq_iff_eq.mpr n0
           have An0 := Aside0.mk n0
           clear n0
           go_wp2
           go_ret
           exact ⟨by rw [HF.out]; exact congrArg (fun b => Ending.returned (.bool b)) (by have := Ae39.out; have := Ae44.out; have := Ae45.out; have := Ahz.out; have := Ae20.out; have := Ae21.out; have := Ae41.out; have := Ae42.out; have := An0.out; clear HF; subst_vars; unfold rr_tailV; first | rfl | (rw [Bool.eq_iff_iff]; simp_all; done) | (rw [Bool.eq_iff_iff]; simp_all; omega)), HB.out⟩
          ·
           have fn0 : (a0_5 == 0) = false := beq_eq_false_iff_ne.mpr n0
           have An0 := Aside0.mk n0
           clear n0
           go_wp2
           go_ret
           exact ⟨by rw [HF.out]; exact congrArg (fun b => Ending.returned (.bool b)) (by have := Ae39.out; have := Ae44.out; have := Ae45.out; have := Ahz.out; have := Ae20.out; have := Ae21.out; have := Ae41.out; have := Ae42.out; have := An0.out; clear HF; subst_vars; unfold rr_tailV; first | rfl | (rw [Bool.eq_iff_iff]; simp_all; done) | (rw [Bool.eq_iff_iff]; simp_all; omega)), HB.out⟩
open Go.Sort in
def balustraderef15_Right.f (a0_0 a0_1 a0_2 a0_3 a0_4 a0_5 a0_6 a0_7 : Int) (l0_8 : List Int) : Option Bool := if l0_8.length < 4611686018427387904 then some (rr_rightV a0_0 a0_1 a0_2 a0_3 a0_4 a0_5 a0_6 a0_7 l0_8) else none
theorem balustraderef15_Right.calls (a0_0 a0_1 a0_2 a0_3 a0_4 a0_5 a0_6 a0_7 : Int) (A0_8 : Option Addr) (c0_8 : Nat) (l0_8 : List Int) (r : Bool) (w : World) (hr0_8 : Kd.C (Kd.int .i64) w A0_8 l0_8.length l0_8) (hc0_8 : l0_8.length ≤ c0_8) (h : balustraderef15_Right.f a0_0 a0_1 a0_2 a0_3 a0_4 a0_5 a0_6 a0_7 l0_8 = some r) :
  Calls Try.prog 31 #[.agg #[.int .i64 a0_0, .int .i64 a0_1, .int .i64 a0_2, .int .i64 a0_3, .int .i64 a0_4, .int .i64 a0_5, .int .i64 a0_6, .int .i64 a0_7, .slice A0_8 l0_8.length c0_8]] w fun e w' => e = .returned (.bool r) ∧ Below w.heap.size w w' := by
 unfold balustraderef15_Right.f at h
 by_cases hl : l0_8.length < 4611686018427387904
 ·rw [if_pos hl] at h
  obtain rfl := Option.some.inj h
  by_cases h0 : 3 ≤ a0_0 ∧ a0_0 ≤ 45 ∧ ¬ (16 < a0_0 ∧ a0_0 < 20)
  ·exact rr_right_in a0_0 a0_1 a0_2 a0_3 a0_4 a0_5 a0_6 a0_7 A0_8 c0_8 l0_8 w h0 hr0_8 hl
  ·have e : rr_rightV a0_0 a0_1 a0_2 a0_3 a0_4 a0_5 a0_6 a0_7 l0_8 = false := by
    unfold rr_rightV
    rw [decide_eq_false h0]
    simp
   rw [e]
   exact rr_right_out a0_0 a0_1 a0_2 a0_3 a0_4 a0_5 a0_6 a0_7 A0_8 c0_8 l0_8 w h0
 ·rw [if_neg hl] at h
  cases h
end Go.Proofs.Ytgbpkbfghonllaa.P

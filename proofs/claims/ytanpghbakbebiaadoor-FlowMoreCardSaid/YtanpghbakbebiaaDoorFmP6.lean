/- A part of it. -/
import Derived.Test.YtanpghbakbebiaaDoorFmZ
import Derived.Test.YtanpghbakbebiaaDoorFmP0
import Derived.Test.YtanpghbakbebiaaDoorFmP1
import Derived.Test.YtanpghbakbebiaaDoorFmP2
import Derived.Test.YtanpghbakbebiaaDoorFmP5
namespace Go.Proofs.YtanpghbakbebiaaDoor.P
open Go.RowKit Go.Proofs.YtanpghbakbebiaaDoorW.PrintWords Go.Proofs.YtanpghbakbebiaaDoorW.PrintLast Go.Proofs.YtanpghbakbebiaaDoorW.PrintMore
attribute [local go_sem] max2_int min2_int max_two min_two max_three min_three max_four min_four   
set_option linter.unusedVariables false
set_option linter.unusedSimpArgs false
theorem goesD_ {P : Program} {ops : Array Oper} {Q : Exit → Act → World → Prop} {oi : Oper} {N : Option Tmp} {a : Act} {w : World} {K : Act → World → Prop} {f : FuncId} {fn : Func} {ops_ : Array Operand} {ts : Array TypeId} (hf : P.funcs[f]? = some fn) (hname : (fn.name == "runtime.NumGoroutine") = false) (hb : fn.body.isSome = true) (args : Array Value)
  (hw : Region.wanted oi (yielded ops a.tmps) = true) (hN : oi.dst = N) {c : Operand} (hop : oi.op = .call { callee := .value c, args := ops_, argTypes := ts }) (hc : a.eval c = .func (.func f) #[] #[]) (hargs : ops_.map a.eval = args)
  (h : Calls P f args w fun e w' => ∃ v, e = .returned v ∧ K (a.put N v) w') : if Region.wanted oi (yielded ops a.tmps) = true then Oper.wp P oi a w K Q else K (a.put N undef) w := by
 refine call_ f args hw hN ?_ h
 have he := enters_ hf hname hb args w
 unfold execOp
 simp [hop, resolve, Deferred.ofValue, invoke, hc, hargs, he]
def fl_none (k : Nat) (al : Bool) (x : Int) : Option (List Int) := if al = true then bits_Full.f k x else bits_New.f x
def fl_meet (k : Nat) (al : Bool) (a b : List Int) : Option (List Int) := if al = true then bits_And.f k a b else bits_Or.f k a b
def fl_begins (bk : Bool) (l2 : List (List Int)) (a1 : Int) : Bool := if bk = true then (((rd_L1 l2 a1).length : Int) == 0) else (a1 == 0)
theorem fl_none.mono (al : Bool) (x : Int) (k : Nat) : LeO (fl_none k al x) (fl_none (k + 1) al x) := by
 unfold fl_none
 exact LeO.ite (bits_Full.mono _ _) (LeO.refl _)
theorem fl_meet.mono (al : Bool) (a b : List Int) (k : Nat) : LeO (fl_meet k al a b) (fl_meet (k + 1) al a b) := by
 unfold fl_meet
 exact LeO.ite (bits_And.mono _ _ _) (bits_Or.mono _ _ _)
def flow_Problem_from.l0 : Nat → Bool → List (List Int) → List Int → Int → List Int → Option (List Int)
 | 0, _, _, _, _, _ => none
 | k + 1, al, tt, ah, i, o => if i < (ah.length : Int) then (if 0 ≤ i ∧ 0 ≤ rd ah i ∧ rd ah i < (tt.length : Int) then (fl_meet k al o (rd_L3 tt (rd ah i))).bind fun o' => flow_Problem_from.l0 k al tt ah (wrap64 (i + 1)) o' else none) else some o
def flow_Problem_from.f (k : Nat) (l0_0 : List (List Int)) (a0_1 : Bool) (a0_2 : Bool) (a0_3 : Int) (l0_4 : List (List Int)) (l0_5 : List (List Int)) (l0_6 : List Int) (a1 : Int) (l2 : List (List Int)) (l3 : List (List Int)) : Option (List Int) :=
 if 0 ≤ a1 ∧ a1 < (l2.length : Int) then ((fl_none k a0_2 a0_3).bind fun o0 => ((if fl_begins a0_1 l2 a1 = true then fl_meet k a0_2 o0 l0_6 else some o0)).bind fun o1 => flow_Problem_from.l0 k a0_2 l3 (rd_L1 l2 a1) 0 o1) else none
theorem flow_Problem_from.mono_l : ∀ k al tt ah i o, LeO (flow_Problem_from.l0 k al tt ah i o) (flow_Problem_from.l0 (k + 1) al tt ah i o) := by
 intro k
 induction k with
 | zero => intro al tt ah i o; exact LeO.none _
 | succ k ih =>
  intro al tt ah i o
  unfold flow_Problem_from.l0
  exact LeO.ite (LeO.ite (LeO.bind (fl_meet.mono _ _ _ k) (fun _ => ih _ _ _ _ _)) (LeO.refl _)) (LeO.refl _)
theorem flow_Problem_from.mono : ∀ a0 a1 a2 a3 a4 a5 a6 a7 a8 a9 k, LeO (flow_Problem_from.f k a0 a1 a2 a3 a4 a5 a6 a7 a8 a9) (flow_Problem_from.f (k + 1) a0 a1 a2 a3 a4 a5 a6 a7 a8 a9) := by
 intro a0 a1 a2 a3 a4 a5 a6 a7 a8 a9 k
 unfold flow_Problem_from.f
 exact LeO.ite (LeO.bind (fl_none.mono _ _ k) (fun _ => LeO.bind (LeO.ite (fl_meet.mono _ _ _ k) (LeO.refl _)) (fun _ => flow_Problem_from.mono_l _ _ _ _ _ _))) (LeO.refl _)
set_option maxHeartbeats 16000000 in
set_option maxRecDepth 100000 in
theorem flow_Problem_from.calls (k : Nat) (A0_0 : Option Addr) (c0_0 : Nat) (l0_0 : List (List Int)) (a0_1 : Bool) (a0_2 : Bool) (a0_3 : Int) (A0_4 : Option Addr) (c0_4 : Nat) (l0_4 : List (List Int)) (A0_5 : Option Addr) (c0_5 : Nat) (l0_5 : List (List Int)) (A0_6 : Option Addr) (c0_6 : Nat) (l0_6 : List Int) (a1 : Int) (A2 : Option Addr) (c2 : Nat) (l2 : List (List Int)) (A3 : Option Addr) (c3 : Nat) (l3 : List (List Int)) (r : List Int) (w : World) (hr0_0 : Kd.C (Kd.slice 3 (Kd.int .i64)) w A0_0 l0_0.length l0_0) (hc0_0 : l0_0.length ≤ c0_0) (hr0_4 : Kd.C (Kd.slice 72 (Kd.int .u64)) w A0_4 l0_4.length l0_4) (hc0_4 : l0_4.length ≤ c0_4) (hr0_5 : Kd.C (Kd.slice 72 (Kd.int .u64)) w A0_5 l0_5.length l0_5) (hc0_5 : l0_5.length ≤ c0_5) (hr0_6 : Kd.C (Kd.int .u64) w A0_6 l0_6.length l0_6) (hc0_6 : l0_6.length ≤ c0_6) (hr2 : Kd.C (Kd.slice 3 (Kd.int .i64)) w A2 l2.length l2) (hc2 : l2.length ≤ c2) (hr3 : Kd.C (Kd.slice 72 (Kd.int .u64)) w A3 l3.length l3) (hc3 : l3.length ≤ c3) (h : flow_Problem_from.f k l0_0 a0_1 a0_2 a0_3 l0_4 l0_5 l0_6 a1 l2 l3 = some r) :
  Calls Tryd.prog 31 #[.agg #[.slice A0_0 l0_0.length c0_0, .bool a0_1, .bool a0_2, .int .i64 a0_3, .slice A0_4 l0_4.length c0_4, .slice A0_5 l0_5.length c0_5, .slice A0_6 l0_6.length c0_6], .int .i64 a1, .slice A2 l2.length c2, .slice A3 l3.length c3] w fun e w' => ∃ v0_ : Value, e = .returned (v0_) ∧ Kd.R (Kd.int .u64) 72 w' w.heap.size (fun _ => True) v0_ r ∧ Below w.heap.size w w' := by
 unfold flow_Problem_from.f at h
 by_cases hk : 0 ≤ a1 ∧ a1 < (l2.length : Int)
 rotate_left
 ·rw [if_neg hk] at h; cases h
 rw [if_pos hk] at h
 obtain ⟨o0, hN, h⟩ := Option.bind_eq_some_iff.mp h
 obtain ⟨o1, hM, h⟩ := Option.bind_eq_some_iff.mp h
 obtain ⟨hk0, hk1⟩ := hk
 have hu32 := Tryd.underlying32
 have hu61 := Tryd.underlying61
 have HR6 := Aside0.mk hr0_6
 have HC6 := Aside0.mk hc0_6
 have HR3 := Aside0.mk hr3
 obtain ⟨ad2, A9, c9, eA2, hx9, hl9, hi9⟩ := at_L1 hr2 a1 hk0 hk1
 cases eA2
 have HR9 := Aside0.mk hi9
 have HX9 := Aside0.mk hx9
 obtain ⟨ah, eah⟩ : ∃ l, rd_L1 l2 a1 = l := ⟨_, rfl⟩
 rw [eah] at h hx9 HX9 HR9
 obtain ⟨cb, ecb⟩ : ∃ b, fl_begins a0_1 l2 a1 = b := ⟨_, rfl⟩
 rw [ecb] at hM
 unfold fl_begins at ecb
 rw [eah] at ecb
 have t0 : decide (0 ≤ a1) = true := decide_eq_true hk0
 have t1 : decide (a1 < (l2.length : Int)) = true := decide_eq_true hk1
 have hk0' := eq_true hk0
 have hk1' := eq_true hk1
 have HH := Aside0.mk h
 have BP := Aside0.mk (blk_new w (.cells #[.slice A0_0 l0_0.length c0_0, .bool a0_1, .bool a0_2, .int .i64 a0_3, .slice A0_4 l0_4.length c0_4, .slice A0_5 l0_5.length c0_5, .slice A0_6 l0_6.length c0_6] 32))
 have HB := Aside0.mk (below_alloc (Below.refl w.heap.size w) (.cells #[.slice A0_0 l0_0.length c0_0, .bool a0_1, .bool a0_2, .int .i64 a0_3, .slice A0_4 l0_4.length c0_4, .slice A0_5 l0_5.length c0_5, .slice A0_6 l0_6.length c0_6] 32))
 clear h hr0_0 hc0_0 hr0_4 hc0_4 hr0_5 hc0_5 hr0_6 hc0_6 hr2 hr3 hi9 hx9 hl9 hc2 hc3 eah hk0 hk1
 cases a0_2
 ·cases a0_1 <;> cases cb
  all_goals
   unfold fl_none at hN
   unfold fl_meet at hM
   simp only [if_true, Bool.false_eq_true, if_false] at hN hM ecb
   have HN := Aside0.mk hN
   clear hN
   first
    | (obtain rfl := Option.some.inj hM; have HM : Aside0 True := ⟨trivial⟩)
    | have HM := Aside0.mk hM
   clear hM
   go_enter Tryd.func31, Tryd.ntmps31
   go_upto_region 1 with (fail)
   generalize w.alloc (.cells #[.slice A0_0 l0_0.length c0_0, .bool _, .bool _, .int .i64 a0_3, .slice A0_4 l0_4.length c0_4, .slice A0_5 l0_5.length c0_5, .slice A0_6 l0_6.length c0_6] 32) = W at *
   have p0 := (blk_cell BP.out 0).trans rfl; have p1 := (blk_cell BP.out 1).trans rfl; have p2 := (blk_cell BP.out 2).trans rfl; have p3 := (blk_cell BP.out 3).trans rfl; have p4 := (blk_cell BP.out 4).trans rfl; have p5 := (blk_cell BP.out 5).trans rfl; have p6 := (blk_cell BP.out 6).trans rfl; (try have lt0 := (blk_cell BL.out 0).trans rfl); (try have lt1 := (blk_cell BL.out 1).trans rfl); have x9 := pw_cell_below HB.out HX9.out; (try simp only [List.getElem?_toArray, List.getElem?_cons_zero, List.getElem?_cons_succ] at p0 p1 p2 p3 p4 p5 p6); (try simp only [List.getElem?_toArray, List.getElem?_cons_zero, List.getElem?_cons_succ] at lt0 lt1)
   go_upto_region 2 with ((go_at_call 27; ((with_reducible refine (flow_Problem_of.calls A0_0 c0_0 l0_0 _ _ a0_3 A0_4 c0_4 l0_4 A0_5 c0_5 l0_5 A0_6 c0_6 l0_6 _).mono ?_); rintro e W1 ⟨rfl, hb⟩; (replace BP := Aside0.mk (blk_below BP.out hb); (try replace BL := Aside0.mk (blk_below BL.out hb))); (have n0_ := Aside0.mk (below_step (zB) hb); clear HB; have HB := n0_; clear n0_); clear hb; (try simp only [if_true, Bool.false_eq_true, if_false]); have p0 := (blk_cell BP.out 0).trans rfl; have p1 := (blk_cell BP.out 1).trans rfl; have p2 := (blk_cell BP.out 2).trans rfl; have p3 := (blk_cell BP.out 3).trans rfl; have p4 := (blk_cell BP.out 4).trans rfl; have p5 := (blk_cell BP.out 5).trans rfl; have p6 := (blk_cell BP.out 6).trans rfl; (try have lt0 := (blk_cell BL.out 0).trans rfl); (try have lt1 := (blk_cell BL.out 1).trans rfl); have x9 := pw_cell_below HB.out HX9.out; (try simp only [List.getElem?_toArray, List.getElem?_cons_zero, List.getElem?_cons_succ] at p0 p1 p2 p3 p4 p5 p6); (try simp only [List.getElem?_toArray, List.getElem?_cons_zero, List.getElem?_cons_succ] at lt0 lt1))))
   have BL := Aside0.mk (blk_new W1 (.cells #[(.func (.func 22) #[] #[]), (.func (.func 15) #[] #[])] 61))
   replace BP := Aside0.mk (blk_alloc BP.out (.cells #[(.func (.func 22) #[] #[]), (.func (.func 15) #[] #[])] 61))
   replace HB := Aside0.mk (below_alloc HB.out (.cells #[(.func (.func 22) #[] #[]), (.func (.func 15) #[] #[])] 61))
   generalize HWX : (World.alloc W1 _) = W2 at *
   clear HWX p0 p1 p2 p3 p4 p5 p6 x9
   generalize W1.heap.size = gl at *
   have p0 := (blk_cell BP.out 0).trans rfl; have p1 := (blk_cell BP.out 1).trans rfl; have p2 := (blk_cell BP.out 2).trans rfl; have p3 := (blk_cell BP.out 3).trans rfl; have p4 := (blk_cell BP.out 4).trans rfl; have p5 := (blk_cell BP.out 5).trans rfl; have p6 := (blk_cell BP.out 6).trans rfl; (try have lt0 := (blk_cell BL.out 0).trans rfl); (try have lt1 := (blk_cell BL.out 1).trans rfl); have x9 := pw_cell_below HB.out HX9.out; (try simp only [List.getElem?_toArray, List.getElem?_cons_zero, List.getElem?_cons_succ] at p0 p1 p2 p3 p4 p5 p6); (try simp only [List.getElem?_toArray, List.getElem?_cons_zero, List.getElem?_cons_succ] at lt0 lt1)
   go_wp2_with (first | (go_at_call 22; ((with_reducible refine (bits_New.calls a0_3 o0 _ HN.out).mono ?_); rintro e w' ⟨v_, rfl, ho, hb⟩; have n1_ := Aside0.mk (Kd.R_lower ho (below_size (zB))); (replace BP := Aside0.mk (blk_below BP.out hb); (try replace BL := Aside0.mk (blk_below BL.out hb))); (have n0_ := Aside0.mk (below_step (zB) hb); clear HB; have HB := n0_; clear n0_); (try clear HO); have HO := n1_; clear n1_ ho hb; obtain ⟨A_, c_, eA_⟩ := Kd.R_slice HO.out; subst eA_; have p0 := (blk_cell BP.out 0).trans rfl; have p1 := (blk_cell BP.out 1).trans rfl; have p2 := (blk_cell BP.out 2).trans rfl; have p3 := (blk_cell BP.out 3).trans rfl; have p4 := (blk_cell BP.out 4).trans rfl; have p5 := (blk_cell BP.out 5).trans rfl; have p6 := (blk_cell BP.out 6).trans rfl; (try have lt0 := (blk_cell BL.out 0).trans rfl); (try have lt1 := (blk_cell BL.out 1).trans rfl); have x9 := pw_cell_below HB.out HX9.out; (try simp only [List.getElem?_toArray, List.getElem?_cons_zero, List.getElem?_cons_succ] at p0 p1 p2 p3 p4 p5 p6); (try simp only [List.getElem?_toArray, List.getElem?_cons_zero, List.getElem?_cons_succ] at lt0 lt1))) | (go_at_call 42; ((with_reducible refine (bits_Full.calls k a0_3 o0 _ HN.out).mono ?_); rintro e w' ⟨v_, rfl, ho, hb⟩; have n1_ := Aside0.mk (Kd.R_lower ho (below_size (zB))); (replace BP := Aside0.mk (blk_below BP.out hb); (try replace BL := Aside0.mk (blk_below BL.out hb))); (have n0_ := Aside0.mk (below_step (zB) hb); clear HB; have HB := n0_; clear n0_); (try clear HO); have HO := n1_; clear n1_ ho hb; obtain ⟨A_, c_, eA_⟩ := Kd.R_slice HO.out; subst eA_; have p0 := (blk_cell BP.out 0).trans rfl; have p1 := (blk_cell BP.out 1).trans rfl; have p2 := (blk_cell BP.out 2).trans rfl; have p3 := (blk_cell BP.out 3).trans rfl; have p4 := (blk_cell BP.out 4).trans rfl; have p5 := (blk_cell BP.out 5).trans rfl; have p6 := (blk_cell BP.out 6).trans rfl; (try have lt0 := (blk_cell BL.out 0).trans rfl); (try have lt1 := (blk_cell BL.out 1).trans rfl); have x9 := pw_cell_below HB.out HX9.out; (try simp only [List.getElem?_toArray, List.getElem?_cons_zero, List.getElem?_cons_succ] at p0 p1 p2 p3 p4 p5 p6); (try simp only [List.getElem?_toArray, List.getElem?_cons_zero, List.getElem?_cons_succ] at lt0 lt1))) | (go_at_call 43; ((with_reducible refine (bits_And.calls k _ _ _ _ _ l0_6 o1 _ (zC (Kd.R_reads' HO.out).2.2) (Kd.R_reads' HO.out).2.1 (zC (Kd.C_below HR6.out HB.out)) HC6.out HM.out).mono ?_); rintro e w' ⟨v_, rfl, ho, hb⟩; have n1_ := Aside0.mk (Kd.R_lower ho (below_size (zB))); (replace BP := Aside0.mk (blk_below BP.out hb); (try replace BL := Aside0.mk (blk_below BL.out hb))); (have n0_ := Aside0.mk (below_step (zB) hb); clear HB; have HB := n0_; clear n0_); (try clear HO); have HO := n1_; clear n1_ ho hb; obtain ⟨A_, c_, eA_⟩ := Kd.R_slice HO.out; subst eA_; have p0 := (blk_cell BP.out 0).trans rfl; have p1 := (blk_cell BP.out 1).trans rfl; have p2 := (blk_cell BP.out 2).trans rfl; have p3 := (blk_cell BP.out 3).trans rfl; have p4 := (blk_cell BP.out 4).trans rfl; have p5 := (blk_cell BP.out 5).trans rfl; have p6 := (blk_cell BP.out 6).trans rfl; (try have lt0 := (blk_cell BL.out 0).trans rfl); (try have lt1 := (blk_cell BL.out 1).trans rfl); have x9 := pw_cell_below HB.out HX9.out; (try simp only [List.getElem?_toArray, List.getElem?_cons_zero, List.getElem?_cons_succ] at p0 p1 p2 p3 p4 p5 p6); (try simp only [List.getElem?_toArray, List.getElem?_cons_zero, List.getElem?_cons_succ] at lt0 lt1))) | (go_at_call 15; ((with_reducible refine (bits_Or.calls k _ _ _ _ _ l0_6 o1 _ (zC (Kd.R_reads' HO.out).2.2) (Kd.R_reads' HO.out).2.1 (zC (Kd.C_below HR6.out HB.out)) HC6.out HM.out).mono ?_); rintro e w' ⟨v_, rfl, ho, hb⟩; have n1_ := Aside0.mk (Kd.R_lower ho (below_size (zB))); (replace BP := Aside0.mk (blk_below BP.out hb); (try replace BL := Aside0.mk (blk_below BL.out hb))); (have n0_ := Aside0.mk (below_step (zB) hb); clear HB; have HB := n0_; clear n0_); (try clear HO); have HO := n1_; clear n1_ ho hb; obtain ⟨A_, c_, eA_⟩ := Kd.R_slice HO.out; subst eA_; have p0 := (blk_cell BP.out 0).trans rfl; have p1 := (blk_cell BP.out 1).trans rfl; have p2 := (blk_cell BP.out 2).trans rfl; have p3 := (blk_cell BP.out 3).trans rfl; have p4 := (blk_cell BP.out 4).trans rfl; have p5 := (blk_cell BP.out 5).trans rfl; have p6 := (blk_cell BP.out 6).trans rfl; (try have lt0 := (blk_cell BL.out 0).trans rfl); (try have lt1 := (blk_cell BL.out 1).trans rfl); have x9 := pw_cell_below HB.out HX9.out; (try simp only [List.getElem?_toArray, List.getElem?_cons_zero, List.getElem?_cons_succ] at p0 p1 p2 p3 p4 p5 p6); (try simp only [List.getElem?_toArray, List.getElem?_cons_zero, List.getElem?_cons_succ] at lt0 lt1))))
   trace_state
   go_loopg [10, 50] k (fun kq v10 v50 w' => ∃ (o : List Int) (i : Int) (A : Option Addr) (c : Nat), v10 = .slice A o.length c ∧ v50 = .int .i64 i ∧ Aside0 (flow_Problem_from.l0 kq _ l3 ah i o = some r) ∧ Aside0 (kq ≤ k) ∧ Aside0 (Kd.R (Kd.int .u64) 72 w' w.heap.size (fun _ => True) (.slice A o.length c) o) ∧ Aside0 (w'.heap[w.heap.size]? = some (.cells #[.slice A0_0 l0_0.length c0_0, .bool _, .bool _, .int .i64 a0_3, .slice A0_4 l0_4.length c0_4, .slice A0_5 l0_5.length c0_5, .slice A0_6 l0_6.length c0_6] 32 (0, 0))) ∧ Aside0 (w'.heap[gl]? = some (.cells #[(.func (.func 22) #[] #[]), (.func (.func 15) #[] #[])] 61 (0, 0))) ∧ Aside0 (Below w.heap.size w w'))
   case atStart => exact ⟨_, 0, _, _, rfl, rfl, HH, ⟨Nat.le_refl _⟩, HO, BP, BL, HB⟩
   case round =>
    clear HH HN HM HO BP BL HB p0 p1 p2 p3 p4 p5 p6 x9 lt0 lt1
    obtain ⟨o, i, A_, c_, rfl, rfl, HA, HK1, HO, BP, BL, HB⟩ := hrel
    cases gk with
    | zero => exact absurd HA.out (by simp [flow_Problem_from.l0])
    | succ k1 =>
     have H := HA.out
     clear HA
     simp only [flow_Problem_from.l0] at H
     have p0 := (blk_cell BP.out 0).trans rfl; have p1 := (blk_cell BP.out 1).trans rfl; have p2 := (blk_cell BP.out 2).trans rfl; have p3 := (blk_cell BP.out 3).trans rfl; have p4 := (blk_cell BP.out 4).trans rfl; have p5 := (blk_cell BP.out 5).trans rfl; have p6 := (blk_cell BP.out 6).trans rfl; (try have lt0 := (blk_cell BL.out 0).trans rfl); (try have lt1 := (blk_cell BL.out 1).trans rfl); have x9 := pw_cell_below HB.out HX9.out; (try simp only [List.getElem?_toArray, List.getElem?_cons_zero, List.getElem?_cons_succ] at p0 p1 p2 p3 p4 p5 p6); (try simp only [List.getElem?_toArray, List.getElem?_cons_zero, List.getElem?_cons_succ] at lt0 lt1)
     by_cases ci : i < (ah.length : Int)
     ·rw [if_pos ci] at H
      by_cases cj : 0 ≤ i ∧ 0 ≤ rd ah i ∧ rd ah i < (l3.length : Int)
      rotate_left
      ·rw [if_neg cj] at H; cases H
      rw [if_pos cj] at H
      obtain ⟨o2, hE, H⟩ := Option.bind_eq_some_iff.mp H
      unfold fl_meet at hE
      simp only [if_true, Bool.false_eq_true, if_false] at hE
      have HE := Aside0.mk hE
      have HH := Aside0.mk H
      obtain ⟨ci0, cj0, cj1⟩ := cj
      obtain ⟨ad4, e4, hx4⟩ := Kd.at_int HR9.out i ci0 ci
      cases e4
      obtain ⟨ad5, A5_, c5_, e5, hx5, hl5, hi5⟩ := at_L3 HR3.out (rd ah i) cj0 cj1
      cases e5
      have HRE := Aside0.mk hi5
      have HCE := Aside0.mk hl5
      have HX5 := Aside0.mk hx5
      replace hx4 := pw_cell_below HB.out hx4
      replace hx5 := pw_cell_below HB.out hx5
      have b1 : decide (i < (ah.length : Int)) = true := decide_eq_true ci
      have b2 : decide (0 ≤ i) = true := decide_eq_true ci0
      have b3 : decide (0 ≤ rd ah i) = true := decide_eq_true cj0
      have b4 : decide (rd ah i < (l3.length : Int)) = true := decide_eq_true cj1
      replace ci := eq_true ci
      replace ci0 := eq_true ci0
      replace cj0 := eq_true cj0
      replace cj1 := eq_true cj1
      clear hE H hi5 hl5
      have b5 : (0 ≤ rd ah i ∧ rd ah i < (l3.length : Int)) = True := by simp [cj0, cj1]
      go_upto_region 8 with (fail)
      refine start_ (n := 9) (S := fun w' => w'.cell? ⟨gl, 1, none⟩ = some (.func (.func 15) #[] #[]) ∧ w'.cell? (ad5.add (rd ah i).toNat) = some (.slice A5_ (rd_L3 l3 (rd ah i)).length c5_)) (ds := []) #[false, false, false, false, false, false, false, false, false] (by kernel_rfl) rfl rfl ⟨((blk_cell BL.out 1).trans rfl), (pw_cell_below HB.out HX5.out)⟩ (fun hHeld => ?_)
      refine pT 0 (some 54) (zb 9 1) (h := ?_)
      refine pT 2 (some 56) (zb 9 5) (h := ?_)
      refine pT 3 (some 57) (zb 9 13) (h := ?_)
      refine pT 4 (some 58) (zb 9 29) (h := ?_)
      refine pT 5 (some 59) (zb 9 61) (h := ?_)
      refine tT 1 (some 55) (zb 9 63) hHeld (h := ?_)
      refine tT 6 (some 60) (zb 9 127) hHeld (h := ?_)
      refine one_ (i := 7) (N := some 61) (zb 9 255) rfl rfl (by kernel_rfl) (by decide) (fun K hK => ?_)
      refine goesD_ Tryd.func15 (by kernel_rfl) rfl #[.slice A_ o.length c_, .slice A5_ (rd_L3 l3 (rd ah i)).length c5_] (by rfl) rfl rfl (by rfl) (by simp only [List.map_toArray, List.map_cons, List.map_nil]; rfl) ?_
      with_reducible refine (bits_Or.calls k1 _ _ o _ _ (rd_L3 l3 (rd ah i)) o2 _ (zC (Kd.R_reads' HO.out).2.2) (Kd.R_reads' HO.out).2.1 (zC (Kd.C_below HRE.out HB.out)) HCE.out HE.out).mono ?_
      rintro e w5 ⟨v_, rfl, ho, hb⟩
      refine ⟨_, rfl, ?_⟩
      have n1_ := Aside0.mk (Kd.R_lower ho (below_size (zB)))
      replace BP := Aside0.mk (blk_below (blk_drew BP.out) hb)
      replace BL := Aside0.mk (blk_below (blk_drew BL.out) hb)
      have n0_ := Aside0.mk (below_step (zB) hb)
      clear HB HO
      have HB := n0_
      have HO := n1_
      clear n0_ n1_ ho hb
      obtain ⟨A2_, c2_, eA_⟩ := Kd.R_slice HO.out
      subst eA_
      refine hK.out _ _ ⟨((blk_cell BL.out 1).trans rfl), (pw_cell_below HB.out HX5.out)⟩ (fun hHeld => ?_)
      clear hK K
      refine nN (some 61) (h := ?_)
      refine pT 8 (some 10) (zb 9 511) (h := ?_)
      refine done_ (by kernel_rfl) ?_
      clear hHeld
      go_wp2
      go_roundg k1
      case measure => have := HK1.out; omega
      case rel => exact ⟨o2, wrap64 (i + 1), _, _, rfl, rfl, HH, ⟨by have := HK1.out; omega⟩, HO, BP, BL, HB⟩
     ·rw [if_neg ci] at H
      obtain rfl := Option.some.inj H
      have b1 : decide (i < (ah.length : Int)) = false := decide_eq_false ci
      clear ci H
      go_wp2
      go_ret
      exact ⟨_, rfl, zR HO.out, zB⟩
 ·cases a0_1 <;> cases cb
  all_goals
   unfold fl_none at hN
   unfold fl_meet at hM
   simp only [if_true, Bool.false_eq_true, if_false] at hN hM ecb
   have HN := Aside0.mk hN
   clear hN
   first
    | (obtain rfl := Option.some.inj hM; have HM : Aside0 True := ⟨trivial⟩)
    | have HM := Aside0.mk hM
   clear hM
   go_enter Tryd.func31, Tryd.ntmps31
   go_upto_region 1 with (fail)
   generalize w.alloc (.cells #[.slice A0_0 l0_0.length c0_0, .bool _, .bool _, .int .i64 a0_3, .slice A0_4 l0_4.length c0_4, .slice A0_5 l0_5.length c0_5, .slice A0_6 l0_6.length c0_6] 32) = W at *
   have p0 := (blk_cell BP.out 0).trans rfl; have p1 := (blk_cell BP.out 1).trans rfl; have p2 := (blk_cell BP.out 2).trans rfl; have p3 := (blk_cell BP.out 3).trans rfl; have p4 := (blk_cell BP.out 4).trans rfl; have p5 := (blk_cell BP.out 5).trans rfl; have p6 := (blk_cell BP.out 6).trans rfl; (try have lt0 := (blk_cell BL.out 0).trans rfl); (try have lt1 := (blk_cell BL.out 1).trans rfl); have x9 := pw_cell_below HB.out HX9.out; (try simp only [List.getElem?_toArray, List.getElem?_cons_zero, List.getElem?_cons_succ] at p0 p1 p2 p3 p4 p5 p6); (try simp only [List.getElem?_toArray, List.getElem?_cons_zero, List.getElem?_cons_succ] at lt0 lt1)
   go_upto_region 2 with ((go_at_call 27; ((with_reducible refine (flow_Problem_of.calls A0_0 c0_0 l0_0 _ _ a0_3 A0_4 c0_4 l0_4 A0_5 c0_5 l0_5 A0_6 c0_6 l0_6 _).mono ?_); rintro e W1 ⟨rfl, hb⟩; (replace BP := Aside0.mk (blk_below BP.out hb); (try replace BL := Aside0.mk (blk_below BL.out hb))); (have n0_ := Aside0.mk (below_step (zB) hb); clear HB; have HB := n0_; clear n0_); clear hb; (try simp only [if_true, Bool.false_eq_true, if_false]); have p0 := (blk_cell BP.out 0).trans rfl; have p1 := (blk_cell BP.out 1).trans rfl; have p2 := (blk_cell BP.out 2).trans rfl; have p3 := (blk_cell BP.out 3).trans rfl; have p4 := (blk_cell BP.out 4).trans rfl; have p5 := (blk_cell BP.out 5).trans rfl; have p6 := (blk_cell BP.out 6).trans rfl; (try have lt0 := (blk_cell BL.out 0).trans rfl); (try have lt1 := (blk_cell BL.out 1).trans rfl); have x9 := pw_cell_below HB.out HX9.out; (try simp only [List.getElem?_toArray, List.getElem?_cons_zero, List.getElem?_cons_succ] at p0 p1 p2 p3 p4 p5 p6); (try simp only [List.getElem?_toArray, List.getElem?_cons_zero, List.getElem?_cons_succ] at lt0 lt1))))
   have BL := Aside0.mk (blk_new W1 (.cells #[(.func (.func 42) #[] #[]), (.func (.func 43) #[] #[])] 61))
   replace BP := Aside0.mk (blk_alloc BP.out (.cells #[(.func (.func 42) #[] #[]), (.func (.func 43) #[] #[])] 61))
   replace HB := Aside0.mk (below_alloc HB.out (.cells #[(.func (.func 42) #[] #[]), (.func (.func 43) #[] #[])] 61))
   generalize HWX : (World.alloc W1 _) = W2 at *
   clear HWX p0 p1 p2 p3 p4 p5 p6 x9
   generalize W1.heap.size = gl at *
   have p0 := (blk_cell BP.out 0).trans rfl; have p1 := (blk_cell BP.out 1).trans rfl; have p2 := (blk_cell BP.out 2).trans rfl; have p3 := (blk_cell BP.out 3).trans rfl; have p4 := (blk_cell BP.out 4).trans rfl; have p5 := (blk_cell BP.out 5).trans rfl; have p6 := (blk_cell BP.out 6).trans rfl; (try have lt0 := (blk_cell BL.out 0).trans rfl); (try have lt1 := (blk_cell BL.out 1).trans rfl); have x9 := pw_cell_below HB.out HX9.out; (try simp only [List.getElem?_toArray, List.getElem?_cons_zero, List.getElem?_cons_succ] at p0 p1 p2 p3 p4 p5 p6); (try simp only [List.getElem?_toArray, List.getElem?_cons_zero, List.getElem?_cons_succ] at lt0 lt1)
   go_wp2_with (first | (go_at_call 22; ((with_reducible refine (bits_New.calls a0_3 o0 _ HN.out).mono ?_); rintro e w' ⟨v_, rfl, ho, hb⟩; have n1_ := Aside0.mk (Kd.R_lower ho (below_size (zB))); (replace BP := Aside0.mk (blk_below BP.out hb); (try replace BL := Aside0.mk (blk_below BL.out hb))); (have n0_ := Aside0.mk (below_step (zB) hb); clear HB; have HB := n0_; clear n0_); (try clear HO); have HO := n1_; clear n1_ ho hb; obtain ⟨A_, c_, eA_⟩ := Kd.R_slice HO.out; subst eA_; have p0 := (blk_cell BP.out 0).trans rfl; have p1 := (blk_cell BP.out 1).trans rfl; have p2 := (blk_cell BP.out 2).trans rfl; have p3 := (blk_cell BP.out 3).trans rfl; have p4 := (blk_cell BP.out 4).trans rfl; have p5 := (blk_cell BP.out 5).trans rfl; have p6 := (blk_cell BP.out 6).trans rfl; (try have lt0 := (blk_cell BL.out 0).trans rfl); (try have lt1 := (blk_cell BL.out 1).trans rfl); have x9 := pw_cell_below HB.out HX9.out; (try simp only [List.getElem?_toArray, List.getElem?_cons_zero, List.getElem?_cons_succ] at p0 p1 p2 p3 p4 p5 p6); (try simp only [List.getElem?_toArray, List.getElem?_cons_zero, List.getElem?_cons_succ] at lt0 lt1))) | (go_at_call 42; ((with_reducible refine (bits_Full.calls k a0_3 o0 _ HN.out).mono ?_); rintro e w' ⟨v_, rfl, ho, hb⟩; have n1_ := Aside0.mk (Kd.R_lower ho (below_size (zB))); (replace BP := Aside0.mk (blk_below BP.out hb); (try replace BL := Aside0.mk (blk_below BL.out hb))); (have n0_ := Aside0.mk (below_step (zB) hb); clear HB; have HB := n0_; clear n0_); (try clear HO); have HO := n1_; clear n1_ ho hb; obtain ⟨A_, c_, eA_⟩ := Kd.R_slice HO.out; subst eA_; have p0 := (blk_cell BP.out 0).trans rfl; have p1 := (blk_cell BP.out 1).trans rfl; have p2 := (blk_cell BP.out 2).trans rfl; have p3 := (blk_cell BP.out 3).trans rfl; have p4 := (blk_cell BP.out 4).trans rfl; have p5 := (blk_cell BP.out 5).trans rfl; have p6 := (blk_cell BP.out 6).trans rfl; (try have lt0 := (blk_cell BL.out 0).trans rfl); (try have lt1 := (blk_cell BL.out 1).trans rfl); have x9 := pw_cell_below HB.out HX9.out; (try simp only [List.getElem?_toArray, List.getElem?_cons_zero, List.getElem?_cons_succ] at p0 p1 p2 p3 p4 p5 p6); (try simp only [List.getElem?_toArray, List.getElem?_cons_zero, List.getElem?_cons_succ] at lt0 lt1))) | (go_at_call 43; ((with_reducible refine (bits_And.calls k _ _ _ _ _ l0_6 o1 _ (zC (Kd.R_reads' HO.out).2.2) (Kd.R_reads' HO.out).2.1 (zC (Kd.C_below HR6.out HB.out)) HC6.out HM.out).mono ?_); rintro e w' ⟨v_, rfl, ho, hb⟩; have n1_ := Aside0.mk (Kd.R_lower ho (below_size (zB))); (replace BP := Aside0.mk (blk_below BP.out hb); (try replace BL := Aside0.mk (blk_below BL.out hb))); (have n0_ := Aside0.mk (below_step (zB) hb); clear HB; have HB := n0_; clear n0_); (try clear HO); have HO := n1_; clear n1_ ho hb; obtain ⟨A_, c_, eA_⟩ := Kd.R_slice HO.out; subst eA_; have p0 := (blk_cell BP.out 0).trans rfl; have p1 := (blk_cell BP.out 1).trans rfl; have p2 := (blk_cell BP.out 2).trans rfl; have p3 := (blk_cell BP.out 3).trans rfl; have p4 := (blk_cell BP.out 4).trans rfl; have p5 := (blk_cell BP.out 5).trans rfl; have p6 := (blk_cell BP.out 6).trans rfl; (try have lt0 := (blk_cell BL.out 0).trans rfl); (try have lt1 := (blk_cell BL.out 1).trans rfl); have x9 := pw_cell_below HB.out HX9.out; (try simp only [List.getElem?_toArray, List.getElem?_cons_zero, List.getElem?_cons_succ] at p0 p1 p2 p3 p4 p5 p6); (try simp only [List.getElem?_toArray, List.getElem?_cons_zero, List.getElem?_cons_succ] at lt0 lt1))) | (go_at_call 15; ((with_reducible refine (bits_Or.calls k _ _ _ _ _ l0_6 o1 _ (zC (Kd.R_reads' HO.out).2.2) (Kd.R_reads' HO.out).2.1 (zC (Kd.C_below HR6.out HB.out)) HC6.out HM.out).mono ?_); rintro e w' ⟨v_, rfl, ho, hb⟩; have n1_ := Aside0.mk (Kd.R_lower ho (below_size (zB))); (replace BP := Aside0.mk (blk_below BP.out hb); (try replace BL := Aside0.mk (blk_below BL.out hb))); (have n0_ := Aside0.mk (below_step (zB) hb); clear HB; have HB := n0_; clear n0_); (try clear HO); have HO := n1_; clear n1_ ho hb; obtain ⟨A_, c_, eA_⟩ := Kd.R_slice HO.out; subst eA_; have p0 := (blk_cell BP.out 0).trans rfl; have p1 := (blk_cell BP.out 1).trans rfl; have p2 := (blk_cell BP.out 2).trans rfl; have p3 := (blk_cell BP.out 3).trans rfl; have p4 := (blk_cell BP.out 4).trans rfl; have p5 := (blk_cell BP.out 5).trans rfl; have p6 := (blk_cell BP.out 6).trans rfl; (try have lt0 := (blk_cell BL.out 0).trans rfl); (try have lt1 := (blk_cell BL.out 1).trans rfl); have x9 := pw_cell_below HB.out HX9.out; (try simp only [List.getElem?_toArray, List.getElem?_cons_zero, List.getElem?_cons_succ] at p0 p1 p2 p3 p4 p5 p6); (try simp only [List.getElem?_toArray, List.getElem?_cons_zero, List.getElem?_cons_succ] at lt0 lt1))))
   trace_state
   go_loopg [10, 50] k (fun kq v10 v50 w' => ∃ (o : List Int) (i : Int) (A : Option Addr) (c : Nat), v10 = .slice A o.length c ∧ v50 = .int .i64 i ∧ Aside0 (flow_Problem_from.l0 kq _ l3 ah i o = some r) ∧ Aside0 (kq ≤ k) ∧ Aside0 (Kd.R (Kd.int .u64) 72 w' w.heap.size (fun _ => True) (.slice A o.length c) o) ∧ Aside0 (w'.heap[w.heap.size]? = some (.cells #[.slice A0_0 l0_0.length c0_0, .bool _, .bool _, .int .i64 a0_3, .slice A0_4 l0_4.length c0_4, .slice A0_5 l0_5.length c0_5, .slice A0_6 l0_6.length c0_6] 32 (0, 0))) ∧ Aside0 (w'.heap[gl]? = some (.cells #[(.func (.func 42) #[] #[]), (.func (.func 43) #[] #[])] 61 (0, 0))) ∧ Aside0 (Below w.heap.size w w'))
   case atStart => exact ⟨_, 0, _, _, rfl, rfl, HH, ⟨Nat.le_refl _⟩, HO, BP, BL, HB⟩
   case round =>
    clear HH HN HM HO BP BL HB p0 p1 p2 p3 p4 p5 p6 x9 lt0 lt1
    obtain ⟨o, i, A_, c_, rfl, rfl, HA, HK1, HO, BP, BL, HB⟩ := hrel
    cases gk with
    | zero => exact absurd HA.out (by simp [flow_Problem_from.l0])
    | succ k1 =>
     have H := HA.out
     clear HA
     simp only [flow_Problem_from.l0] at H
     have p0 := (blk_cell BP.out 0).trans rfl; have p1 := (blk_cell BP.out 1).trans rfl; have p2 := (blk_cell BP.out 2).trans rfl; have p3 := (blk_cell BP.out 3).trans rfl; have p4 := (blk_cell BP.out 4).trans rfl; have p5 := (blk_cell BP.out 5).trans rfl; have p6 := (blk_cell BP.out 6).trans rfl; (try have lt0 := (blk_cell BL.out 0).trans rfl); (try have lt1 := (blk_cell BL.out 1).trans rfl); have x9 := pw_cell_below HB.out HX9.out; (try simp only [List.getElem?_toArray, List.getElem?_cons_zero, List.getElem?_cons_succ] at p0 p1 p2 p3 p4 p5 p6); (try simp only [List.getElem?_toArray, List.getElem?_cons_zero, List.getElem?_cons_succ] at lt0 lt1)
     by_cases ci : i < (ah.length : Int)
     ·rw [if_pos ci] at H
      by_cases cj : 0 ≤ i ∧ 0 ≤ rd ah i ∧ rd ah i < (l3.length : Int)
      rotate_left
      ·rw [if_neg cj] at H; cases H
      rw [if_pos cj] at H
      obtain ⟨o2, hE, H⟩ := Option.bind_eq_some_iff.mp H
      unfold fl_meet at hE
      simp only [if_true, Bool.false_eq_true, if_false] at hE
      have HE := Aside0.mk hE
      have HH := Aside0.mk H
      obtain ⟨ci0, cj0, cj1⟩ := cj
      obtain ⟨ad4, e4, hx4⟩ := Kd.at_int HR9.out i ci0 ci
      cases e4
      obtain ⟨ad5, A5_, c5_, e5, hx5, hl5, hi5⟩ := at_L3 HR3.out (rd ah i) cj0 cj1
      cases e5
      have HRE := Aside0.mk hi5
      have HCE := Aside0.mk hl5
      have HX5 := Aside0.mk hx5
      replace hx4 := pw_cell_below HB.out hx4
      replace hx5 := pw_cell_below HB.out hx5
      have b1 : decide (i < (ah.length : Int)) = true := decide_eq_true ci
      have b2 : decide (0 ≤ i) = true := decide_eq_true ci0
      have b3 : decide (0 ≤ rd ah i) = true := decide_eq_true cj0
      have b4 : decide (rd ah i < (l3.length : Int)) = true := decide_eq_true cj1
      replace ci := eq_true ci
      replace ci0 := eq_true ci0
      replace cj0 := eq_true cj0
      replace cj1 := eq_true cj1
      clear hE H hi5 hl5
      have b5 : (0 ≤ rd ah i ∧ rd ah i < (l3.length : Int)) = True := by simp [cj0, cj1]
      go_upto_region 8 with (fail)
      refine start_ (n := 9) (S := fun w' => w'.cell? ⟨gl, 1, none⟩ = some (.func (.func 43) #[] #[]) ∧ w'.cell? (ad5.add (rd ah i).toNat) = some (.slice A5_ (rd_L3 l3 (rd ah i)).length c5_)) (ds := []) #[false, false, false, false, false, false, false, false, false] (by kernel_rfl) rfl rfl ⟨((blk_cell BL.out 1).trans rfl), (pw_cell_below HB.out HX5.out)⟩ (fun hHeld => ?_)
      refine pT 0 (some 54) (zb 9 1) (h := ?_)
      refine pT 2 (some 56) (zb 9 5) (h := ?_)
      refine pT 3 (some 57) (zb 9 13) (h := ?_)
      refine pT 4 (some 58) (zb 9 29) (h := ?_)
      refine pT 5 (some 59) (zb 9 61) (h := ?_)
      refine tT 1 (some 55) (zb 9 63) hHeld (h := ?_)
      refine tT 6 (some 60) (zb 9 127) hHeld (h := ?_)
      refine one_ (i := 7) (N := some 61) (zb 9 255) rfl rfl (by kernel_rfl) (by decide) (fun K hK => ?_)
      refine goesD_ Tryd.func43 (by kernel_rfl) rfl #[.slice A_ o.length c_, .slice A5_ (rd_L3 l3 (rd ah i)).length c5_] (by rfl) rfl rfl (by rfl) (by simp only [List.map_toArray, List.map_cons, List.map_nil]; rfl) ?_
      with_reducible refine (bits_And.calls k1 _ _ o _ _ (rd_L3 l3 (rd ah i)) o2 _ (zC (Kd.R_reads' HO.out).2.2) (Kd.R_reads' HO.out).2.1 (zC (Kd.C_below HRE.out HB.out)) HCE.out HE.out).mono ?_
      rintro e w5 ⟨v_, rfl, ho, hb⟩
      refine ⟨_, rfl, ?_⟩
      have n1_ := Aside0.mk (Kd.R_lower ho (below_size (zB)))
      replace BP := Aside0.mk (blk_below (blk_drew BP.out) hb)
      replace BL := Aside0.mk (blk_below (blk_drew BL.out) hb)
      have n0_ := Aside0.mk (below_step (zB) hb)
      clear HB HO
      have HB := n0_
      have HO := n1_
      clear n0_ n1_ ho hb
      obtain ⟨A2_, c2_, eA_⟩ := Kd.R_slice HO.out
      subst eA_
      refine hK.out _ _ ⟨((blk_cell BL.out 1).trans rfl), (pw_cell_below HB.out HX5.out)⟩ (fun hHeld => ?_)
      clear hK K
      refine nN (some 61) (h := ?_)
      refine pT 8 (some 10) (zb 9 511) (h := ?_)
      refine done_ (by kernel_rfl) ?_
      clear hHeld
      go_wp2
      go_roundg k1
      case measure => have := HK1.out; omega
      case rel => exact ⟨o2, wrap64 (i + 1), _, _, rfl, rfl, HH, ⟨by have := HK1.out; omega⟩, HO, BP, BL, HB⟩
     ·rw [if_neg ci] at H
      obtain rfl := Option.some.inj H
      have b1 : decide (i < (ah.length : Int)) = false := decide_eq_false ci
      clear ci H
      go_wp2
      go_ret
      exact ⟨_, rfl, zR HO.out, zB⟩
def flow_Problem_to.f (k : Nat) (l0_0 : List (List Int)) (a0_1 : Bool) (a0_2 : Bool) (a0_3 : Int) (l0_4 : List (List Int)) (l0_5 : List (List Int)) (l0_6 : List Int) (a1 : Int) (l2 : List Int) : Option (List Int) := if 0 ≤ a1 then (if a1 < (l0_4.length : Int) then (if a1 < (l0_5.length : Int) then ((bits_Less.f k l2 (rd_L3 l0_5 a1)).bind fun t175 => ((bits_Or.f k (rd_L3 l0_4 a1) t175).bind fun t178 => (some t178))) else (none)) else (none)) else (none)
theorem flow_Problem_to.mono : ∀ a0 a1 a2 a3 a4 a5 a6 a7 a8 k, LeO (flow_Problem_to.f k a0 a1 a2 a3 a4 a5 a6 a7 a8) (flow_Problem_to.f (k + 1) a0 a1 a2 a3 a4 a5 a6 a7 a8) := by
 intro a0 a1 a2 a3 a4 a5 a6 a7 a8 k
 unfold flow_Problem_to.f
 repeat' first
   | (with_reducible exact bits_Less.mono _ _ _)
   | (with_reducible exact bits_Or.mono _ _ _)
   | (with_reducible exact LeO.refl _)
   | (with_reducible exact LeO.none _)
   | (with_reducible refine LeO.ite ?_ ?_)
   | (with_reducible refine LeO.bind ?_ (fun _ => ?_))
   | exact bits_Less.mono _ _ _
   | exact bits_Or.mono _ _ _
   | exact LeO.none _
   | refine LeO.ite ?_ ?_
   | refine LeO.bind ?_ (fun _ => ?_)
def flow_Problem_to.T1 : Bool × List (List Nat × List Nat) := (true, [([], []), ([0], [0]), ([], []), ([1, 2], [1, 2]), ([3], [3]), ([], []), ([], []), ([6], [6]), ([], []), ([7, 8], [7, 8]), ([9], [9]), ([5, 10], [5, 10]), ([4, 11, 11], [4, 11]), ([12, 12, 0, 1, 2, 3, 4, 5, 6, 7, 8, 9, 10, 11, 12], [12])])
def flow_Problem_to.B1 : List Nat := [0, 1, 0, 7, 15, 0, 0, 64, 0, 448, 960, 2016, 4095, 8191]
theorem flow_Problem_to.tab1 : rtab .any (opsOf Tryd.f32 1) = flow_Problem_to.T1 := by kernel_rfl
theorem flow_Problem_to.bits1 : waitsOk flow_Problem_to.T1.2 flow_Problem_to.B1 = true := by kernel_rfl
set_option maxHeartbeats 8000000 in
set_option maxRecDepth 100000 in
theorem flow_Problem_to.calls (k : Nat) (A0_0 : Option Addr) (c0_0 : Nat) (l0_0 : List (List Int)) (a0_1 : Bool) (a0_2 : Bool) (a0_3 : Int) (A0_4 : Option Addr) (c0_4 : Nat) (l0_4 : List (List Int)) (A0_5 : Option Addr) (c0_5 : Nat) (l0_5 : List (List Int)) (A0_6 : Option Addr) (c0_6 : Nat) (l0_6 : List Int) (a1 : Int) (A2 : Option Addr) (c2 : Nat) (l2 : List Int) (r : List Int) (w : World) (hr0_0 : Kd.C (Kd.slice 3 (Kd.int .i64)) w A0_0 l0_0.length l0_0) (hc0_0 : l0_0.length ≤ c0_0) (hr0_4 : Kd.C (Kd.slice 72 (Kd.int .u64)) w A0_4 l0_4.length l0_4) (hc0_4 : l0_4.length ≤ c0_4) (hr0_5 : Kd.C (Kd.slice 72 (Kd.int .u64)) w A0_5 l0_5.length l0_5) (hc0_5 : l0_5.length ≤ c0_5) (hr0_6 : Kd.C (Kd.int .u64) w A0_6 l0_6.length l0_6) (hc0_6 : l0_6.length ≤ c0_6) (hr2 : Kd.C (Kd.int .u64) w A2 l2.length l2) (hc2 : l2.length ≤ c2) (h : flow_Problem_to.f k l0_0 a0_1 a0_2 a0_3 l0_4 l0_5 l0_6 a1 l2 = some r) :
  Calls Tryd.prog 32 #[.agg #[.slice A0_0 l0_0.length c0_0, .bool a0_1, .bool a0_2, .int .i64 a0_3, .slice A0_4 l0_4.length c0_4, .slice A0_5 l0_5.length c0_5, .slice A0_6 l0_6.length c0_6], .int .i64 a1, .slice A2 l2.length c2] w fun e w' => ∃ v0_ : Value, e = .returned (v0_) ∧ Kd.R (Kd.int .u64) 72 w' w.heap.size (fun _ => True) v0_ r ∧ Below w.heap.size w w' := by
 have hu32 := Tryd.underlying32
 have HR0_0 := Aside0.mk hr0_0
 have HC0_0 := Aside0.mk hc0_0
 clear hr0_0 hc0_0
 have HR0_4 := Aside0.mk hr0_4
 have HC0_4 := Aside0.mk hc0_4
 clear hr0_4 hc0_4
 have HR0_5 := Aside0.mk hr0_5
 have HC0_5 := Aside0.mk hc0_5
 clear hr0_5 hc0_5
 have HR0_6 := Aside0.mk hr0_6
 have HC0_6 := Aside0.mk hc0_6
 clear hr0_6 hc0_6
 have HR2 := Aside0.mk hr2
 have HC2 := Aside0.mk hc2
 clear hr2 hc2
 have HB := Aside0.mk (Below.refl w.heap.size w)
 have H : (if 0 ≤ a1 then (if a1 < (l0_4.length : Int) then (if a1 < (l0_5.length : Int) then ((bits_Less.f k l2 (rd_L3 l0_5 a1)).bind fun t175 => ((bits_Or.f k (rd_L3 l0_4 a1) t175).bind fun t178 => (some t178))) else (none)) else (none)) else (none)) = some r := h
 clear h
 by_cases c4 : 0 ≤ a1
 ·rw [if_pos c4] at H
  have c4b0 : decide (0 ≤ a1) = true := decide_eq_true c4
  clear c4
  by_cases c5 : a1 < (l0_4.length : Int)
  ·rw [if_pos c5] at H
   have c5b0 : decide (a1 < (l0_4.length : Int)) = true := decide_eq_true c5
   clear c5
   by_cases c6 : a1 < (l0_5.length : Int)
   ·rw [if_pos c6] at H
    have c6b0 : decide (a1 < (l0_5.length : Int)) = true := decide_eq_true c6
    clear c6
    replace H := Option.bind_eq_some_iff.mp H
    obtain ⟨t175, A70, H⟩ := H
    replace H : ((bits_Or.f k (rd_L3 l0_4 a1) t175).bind fun t178 => (some t178)) = some r := H
    have A7 := Aside0.mk A70
    clear A70
    replace H := Option.bind_eq_some_iff.mp H
    obtain ⟨t178, A80, H⟩ := H
    replace H : (some t178) = some r := H
    have A8 := Aside0.mk A80
    clear A80
    obtain rfl := Option.some.inj H
    go_enter Tryd.func32, Tryd.ntmps32
    try go_wp2_with (first | ((with_reducible refine gate_dst (N := 3) rfl ?_); refine box_event ?hg (N := 3) ?hd (cs := #[.slice A0_0 l0_0.length c0_0, .bool a0_1, .bool a0_2, .int .i64 a0_3, .slice A0_4 l0_4.length c0_4, .slice A0_5 l0_5.length c0_5, .slice A0_6 l0_6.length c0_6]) (t := 32) ?hr ?_; (case hd => rfl); (case hg => rfl); (case hr => first | (go_simp; done) | (go_simp; rfl)); intro gb172 hg w9 hbox hb; have n0_ := Aside0.mk (below_step (zB) hb); have n1_ := Aside0.mk (hbox); have n2_ := Aside0.mk (zH hg : w.heap.size ≤ gb172); have n3_ := Aside0.mk (zH hg : w.heap.size ≤ gb172); clear HB; have HB := n0_; have BK172 := n1_; have GW172 := n2_; have GE172 := n3_; clear n0_ n1_ n2_ n3_; clear hb hbox hg))
    have n0_ := Aside0.mk (blk_drew BK172.out)
    have n1_ := Aside0.mk (below_drew1 HB.out)
    clear BK172
    clear HB
    have BK172 := n0_
    have HB := n1_
    clear n0_ n1_
    have p173 : 0 ≤ (a1 : Int) := zO
    have q173 : a1 < (l0_4.length : Int) := zO
    obtain ⟨ad173, A173_0, c173_0, e173, hx173_0, hl173_0, hi173_0⟩ := at_L3 HR0_4.out a1 p173 q173
    have hw173_0 := hx173_0
    cases e173
    replace hx173_0 := pw_cell_below HB.out hx173_0
    have HR173_0 := Aside0.mk hi173_0
    have HC173_0 := Aside0.mk hl173_0
    clear hi173_0 hl173_0
    replace p173 := eq_true p173
    replace q173 := eq_true q173
    have p174 : 0 ≤ (a1 : Int) := zO
    have q174 : a1 < (l0_5.length : Int) := zO
    obtain ⟨ad174, A174_0, c174_0, e174, hx174_0, hl174_0, hi174_0⟩ := at_L3 HR0_5.out a1 p174 q174
    have hw174_0 := hx174_0
    cases e174
    replace hx174_0 := pw_cell_below HB.out hx174_0
    have HR174_0 := Aside0.mk hi174_0
    have HC174_0 := Aside0.mk hl174_0
    clear hi174_0 hl174_0
    replace p174 := eq_true p174
    replace q174 := eq_true q174
    refine start_ (n := 14) (S := fun w' => w'.cell? ⟨gb172, 0, none⟩ = some (.slice A0_0 l0_0.length c0_0) ∧ w'.cell? ⟨gb172, 1, none⟩ = some (.bool a0_1) ∧ w'.cell? ⟨gb172, 2, none⟩ = some (.bool a0_2) ∧ w'.cell? ⟨gb172, 3, none⟩ = some (.int .i64 a0_3) ∧ w'.cell? ⟨gb172, 4, none⟩ = some (.slice (some ad173) l0_4.length c0_4) ∧ w'.cell? ⟨gb172, 5, none⟩ = some (.slice (some ad174) l0_5.length c0_5) ∧ w'.cell? ⟨gb172, 6, none⟩ = some (.slice A0_6 l0_6.length c0_6) ∧ w'.cell? (ad173.add (a1).toNat) = some (.slice A173_0 (rd_L3 l0_4 a1).length c173_0) ∧ w'.cell? (ad174.add (a1).toNat) = some (.slice A174_0 (rd_L3 l0_5 a1).length c174_0)) (ds := []) #[false, false, false, false, false, false, false, false, false, false, false, false, false, false] (by kernel_rfl) rfl rfl ⟨(blk_cell BK172.out 0).trans rfl, (blk_cell BK172.out 1).trans rfl, (blk_cell BK172.out 2).trans rfl, (blk_cell BK172.out 3).trans rfl, (blk_cell BK172.out 4).trans rfl, (blk_cell BK172.out 5).trans rfl, (blk_cell BK172.out 6).trans rfl, ((HB.out.cell (World.block_lt_of_cell? w _ hw173_0)).trans hw173_0), ((HB.out.cell (World.block_lt_of_cell? w _ hw174_0)).trans hw174_0)⟩ (fun hHeld => ?_); refine with_tabW flow_Problem_to.tab1 flow_Problem_to.bits1 (fun HT_ HW_ => ?_)
    generalize w9.drew = w10 at BK172 HB HR173_0 HR174_0 hx173_0 hx174_0 hHeld ⊢
    refine pure_ (i := 0) (N := some 7) (v := ?_) (a' := ?_) (zb 14 1) rfl rfl (any_of HT_.out (by kernel_rfl)) (fun _ _ _ h => h) (Or.inl ⟨by rfl, ?_⟩) ?_ ?_
    rotate_left
    ·intro w'
     go_simp
     with_reducible rfl
    rotate_left
    ·simp only [Act.put, List.setIfInBounds_toArray, List.set_cons_zero, List.set_cons_succ, i64_w, i32_w]
     rfl
    refine pure_ (i := 2) (N := some 9) (v := ?_) (a' := ?_) (zb 14 5) rfl rfl (any_of HT_.out (by kernel_rfl)) (fun _ _ _ h => h) (Or.inl ⟨by rfl, ?_⟩) ?_ ?_
    rotate_left
    ·intro w'
     go_simp
     with_reducible rfl
    rotate_left
    ·simp only [Act.put, List.setIfInBounds_toArray, List.set_cons_zero, List.set_cons_succ, i64_w, i32_w]
     rfl
    refine pure_ (i := 5) (N := some 12) (v := ?_) (a' := ?_) (zb 14 37) rfl rfl (any_of HT_.out (by kernel_rfl)) (fun _ _ _ h => h) (Or.inl ⟨by rfl, ?_⟩) ?_ ?_
    rotate_left
    ·intro w'
     go_simp
     with_reducible rfl
    rotate_left
    ·simp only [Act.put, List.setIfInBounds_toArray, List.set_cons_zero, List.set_cons_succ, i64_w, i32_w]
     rfl
    refine pure_ (i := 6) (N := some 13) (v := ?_) (a' := ?_) (zb 14 101) rfl rfl (any_of HT_.out (by kernel_rfl)) (fun _ _ _ h => h) (Or.inl ⟨by rfl, ?_⟩) ?_ ?_
    rotate_left
    ·intro w'
     go_simp
     with_reducible rfl
    rotate_left
    ·simp only [Act.put, List.setIfInBounds_toArray, List.set_cons_zero, List.set_cons_succ, i64_w, i32_w]
     rfl
    refine pure_ (i := 8) (N := some 15) (v := ?_) (a' := ?_) (zb 14 357) rfl rfl (any_of HT_.out (by kernel_rfl)) (fun _ _ _ h => h) (Or.inl ⟨by rfl, ?_⟩) ?_ ?_
    rotate_left
    ·intro w'
     go_simp
     with_reducible rfl
    rotate_left
    ·simp only [Act.put, List.setIfInBounds_toArray, List.set_cons_zero, List.set_cons_succ, i64_w, i32_w]
     rfl
    refine take_ (i := 1) (N := some 8) (v := ?_) (a' := ?_) (zb 14 359) rfl rfl (take_ofW HT_.out HW_.out (by kernel_rfl)) (fun _ _ _ h => h) (Or.inl ⟨by rfl, ?_⟩) hHeld ?_ ?_
    rotate_left
    ·rintro w' ⟨s0, s1, s2, s3, s4, s5, s6, s7, s8⟩
     go_simp
     with_reducible rfl
    rotate_left
    ·simp only [Act.put, List.setIfInBounds_toArray, List.set_cons_zero, List.set_cons_succ, i64_w, i32_w]
     rfl
    refine pure_ (i := 3) (N := some 10) (v := ?_) (a' := ?_) (zb 14 367) rfl rfl (any_of HT_.out (by kernel_rfl)) (fun _ _ _ h => h) (Or.inl ⟨by rfl, ?_⟩) ?_ ?_
    rotate_left
    ·intro w'
     go_simp
     with_reducible rfl
    rotate_left
    ·simp only [Act.put, List.setIfInBounds_toArray, List.set_cons_zero, List.set_cons_succ, i64_w, i32_w]
     rfl
    refine take_ (i := 4) (N := some 11) (v := ?_) (a' := ?_) (zb 14 383) rfl rfl (take_ofW HT_.out HW_.out (by kernel_rfl)) (fun _ _ _ h => h) (Or.inl ⟨by rfl, ?_⟩) hHeld ?_ ?_
    rotate_left
    ·rintro w' ⟨s0, s1, s2, s3, s4, s5, s6, s7, s8⟩
     go_simp
     with_reducible rfl
    rotate_left
    ·simp only [Act.put, List.setIfInBounds_toArray, List.set_cons_zero, List.set_cons_succ, i64_w, i32_w]
     rfl
    refine take_ (i := 7) (N := some 14) (v := ?_) (a' := ?_) (zb 14 511) rfl rfl (take_ofW HT_.out HW_.out (by kernel_rfl)) (fun _ _ _ h => h) (Or.inl ⟨by rfl, ?_⟩) hHeld ?_ ?_
    rotate_left
    ·rintro w' ⟨s0, s1, s2, s3, s4, s5, s6, s7, s8⟩
     go_simp
     with_reducible rfl
    rotate_left
    ·simp only [Act.put, List.setIfInBounds_toArray, List.set_cons_zero, List.set_cons_succ, i64_w, i32_w]
     rfl
    refine pure_ (i := 9) (N := some 16) (v := ?_) (a' := ?_) (zb 14 1023) rfl rfl (any_of HT_.out (by kernel_rfl)) (fun _ _ _ h => h) (Or.inl ⟨by rfl, ?_⟩) ?_ ?_
    rotate_left
    ·intro w'
     go_simp
     with_reducible rfl
    rotate_left
    ·simp only [Act.put, List.setIfInBounds_toArray, List.set_cons_zero, List.set_cons_succ, i64_w, i32_w]
     rfl
    refine take_ (i := 10) (N := some 17) (v := ?_) (a' := ?_) (zb 14 2047) rfl rfl (take_ofW HT_.out HW_.out (by kernel_rfl)) (fun _ _ _ h => h) (Or.inl ⟨by rfl, ?_⟩) hHeld ?_ ?_
    rotate_left
    ·rintro w' ⟨s0, s1, s2, s3, s4, s5, s6, s7, s8⟩
     go_simp
     with_reducible rfl
    rotate_left
    ·simp only [Act.put, List.setIfInBounds_toArray, List.set_cons_zero, List.set_cons_succ, i64_w, i32_w]
     rfl
    refine one_ (i := 11) (N := some 18) (zb 14 4095) rfl rfl (one_of HT_.out (by kernel_rfl)) (by decide) (fun K hK => ?_)
    refine goes_ Tryd.func17 (by kernel_rfl) rfl #[.slice A2 l2.length c2, .slice A174_0 (rd_L3 l0_5 a1).length c174_0] (by rfl) rfl rfl zE ?_
    with_reducible refine (bits_Less.calls k _ _ l2 _ _ (rd_L3 l0_5 a1) t175 _ ?side1 ?side2 ?side3 ?side4 A7.out).mono ?_
    (case side1 => exact zC (Kd.C_below HR2.out HB.out))
    (case side2 => exact HC2.out)
    (case side3 => exact zC (Kd.C_below HR174_0.out HB.out))
    (case side4 => exact HC174_0.out)
    rintro e w11 ⟨v176, rfl, ho0, hb⟩
    refine ⟨_, rfl, ?_⟩
    have n0_ := Aside0.mk (Kd.R_lower ho0 (below_size (zG)))
    have n1_ := Aside0.mk (blk_below (g := gb172) (o := .cells #[.slice A0_0 l0_0.length c0_0, .bool a0_1, .bool a0_2, .int .i64 a0_3, .slice (some ad173) l0_4.length c0_4, .slice (some ad174) l0_5.length c0_5, .slice A0_6 l0_6.length c0_6] 32 (0, 0)) (zK BK172.out) hb)
    have n2_ := Aside0.mk (below_step (zG) hb)
    clear BK172
    clear HB
    have HO177 := n0_
    have BK172 := n1_
    have HB := n2_
    clear n0_ n1_ n2_
    (try clear hb)
    (try clear hb2)
    (try clear hk)
    (try clear hi)
    (try clear ho0)
    obtain ⟨Ao12, co12, eo12⟩ := Kd.R_slice HO177.out
    (first | subst eo12 | (injection eo12 with f1_ f2_ f3_; have f4_ := f1_.symm; have f5_ := f3_.symm; clear f1_ f2_ f3_; subst f4_; subst f5_))
    refine hK.out _ _ ⟨(blk_cell BK172.out 0).trans rfl, (blk_cell BK172.out 1).trans rfl, (blk_cell BK172.out 2).trans rfl, (blk_cell BK172.out 3).trans rfl, (blk_cell BK172.out 4).trans rfl, (blk_cell BK172.out 5).trans rfl, (blk_cell BK172.out 6).trans rfl, ((HB.out.cell (World.block_lt_of_cell? w _ hw173_0)).trans hw173_0), ((HB.out.cell (World.block_lt_of_cell? w _ hw174_0)).trans hw174_0)⟩ (fun hHeld => ?_)
    clear hK K
    refine nN (some 18) (h := ?_)
    refine one_ (i := 12) (N := some 19) (zb 14 8191) rfl rfl (one_of HT_.out (by kernel_rfl)) (by decide) (fun K hK => ?_)
    refine goes_ Tryd.func15 (by kernel_rfl) rfl #[.slice A173_0 (rd_L3 l0_4 a1).length c173_0, .slice Ao12 t175.length co12] (by rfl) rfl rfl zE ?_
    with_reducible refine (bits_Or.calls k _ _ (rd_L3 l0_4 a1) _ _ t175 t178 _ ?side1 ?side2 ?side3 ?side4 A8.out).mono ?_
    (case side1 => exact zC (Kd.C_below HR173_0.out HB.out))
    (case side2 => exact HC173_0.out)
    (case side3 => exact zC (Kd.R_reads' HO177.out).2.2)
    (case side4 => exact (Kd.R_reads' HO177.out).2.1)
    rintro e w13 ⟨v179, rfl, ho0, hb⟩
    refine ⟨_, rfl, ?_⟩
    have n0_ := Aside0.mk (Kd.R_elder' (zR HO177.out) (Kd.R_base ho0) hb)
    have n1_ := Aside0.mk (Kd.R_lower (Kd.R_new' ho0 (Kd.R_lt (zR HO177.out))) (below_size (zG)))
    have n2_ := Aside0.mk (blk_below (g := gb172) (o := .cells #[.slice A0_0 l0_0.length c0_0, .bool a0_1, .bool a0_2, .int .i64 a0_3, .slice (some ad173) l0_4.length c0_4, .slice (some ad174) l0_5.length c0_5, .slice A0_6 l0_6.length c0_6] 32 (0, 0)) (zK BK172.out) hb)
    have n3_ := Aside0.mk (below_step (zG) hb)
    clear HO177
    clear BK172
    clear HB
    have HO177 := n0_
    have HO180 := n1_
    have BK172 := n2_
    have HB := n3_
    clear n0_ n1_ n2_ n3_
    (try clear hb)
    (try clear hb2)
    (try clear hk)
    (try clear hi)
    (try clear ho0)
    refine hK.out _ _ ⟨(blk_cell BK172.out 0).trans rfl, (blk_cell BK172.out 1).trans rfl, (blk_cell BK172.out 2).trans rfl, (blk_cell BK172.out 3).trans rfl, (blk_cell BK172.out 4).trans rfl, (blk_cell BK172.out 5).trans rfl, (blk_cell BK172.out 6).trans rfl, ((HB.out.cell (World.block_lt_of_cell? w _ hw173_0)).trans hw173_0), ((HB.out.cell (World.block_lt_of_cell? w _ hw174_0)).trans hw174_0)⟩ (fun hHeld => ?_)
    clear hK K
    refine nN (some 19) (h := ?_)
    refine pure_ (i := 13) (N := some 6) (v := ?_) (a' := ?_) (zb 14 16383) rfl rfl (any_of HT_.out (by kernel_rfl)) (fun _ _ _ h => h) (Or.inl ⟨by rfl, ?_⟩) ?_ ?_
    rotate_left
    ·intro w'
     go_simp
     with_reducible rfl
    rotate_left
    ·simp only [Act.put, List.setIfInBounds_toArray, List.set_cons_zero, List.set_cons_succ, i64_w, i32_w]
     rfl
    refine done_ (done_of HT_.out (by kernel_rfl)) ?_
    try go_wp2
    go_ret
    exact ⟨_, zV, by (with_reducible repeat (first | apply Kd.R_alloc | apply Kd.R_drewN | apply Kd.R_drew)); exact Kd.R_mono HO180.out (fun _ hk => trivial), zG⟩
   ·rw [if_neg c6] at H
    exact absurd H (by simp)
  ·rw [if_neg c5] at H
   exact absurd H (by simp)
 ·rw [if_neg c4] at H
  exact absurd H (by simp)
def bits_Same.l0 : Nat → List Int → List Int → Int → Int → Option (Bool)
 | 0, _, _, _, _ => none
 | k + 1, x0, x1, x10, x11 => if x11 < x10 then ((bits_Set_word.f x0 x11).bind fun t181 => ((bits_Set_word.f x1 x11).bind fun t182 => (if t181 = t182 then (bits_Same.l0 k x0 x1 x10 (wrap64 (x11 + 1))) else (some false)))) else (some true)
def bits_Same.f (k : Nat) (l0 : List Int) (l1 : List Int) : Option (Bool) := bits_Same.l0 k l0 l1 (mx (l0.length : Int) (l1.length : Int)) 0
theorem bits_Same.mono_l : ∀ k, (∀ y0 y1 y2 y3, LeO (bits_Same.l0 k y0 y1 y2 y3) (bits_Same.l0 (k + 1) y0 y1 y2 y3))
 | 0 => fun _ _ _ _ r h => by simp [bits_Same.l0] at h
 | k + 1 => by
  have ih0 := bits_Same.mono_l k
  ·intro y0 y1 y2 y3
   unfold bits_Same.l0
   repeat' first
   | (with_reducible exact ih0 _ _ _ _)
   | (with_reducible exact LeO.refl _)
   | (with_reducible exact LeO.none _)
   | (with_reducible refine LeO.ite ?_ ?_)
   | (with_reducible refine LeO.bind ?_ (fun _ => ?_))
   | exact ih0 _ _ _ _
   | exact LeO.none _
   | refine LeO.ite ?_ ?_
   | refine LeO.bind ?_ (fun _ => ?_)
theorem bits_Same.mono : ∀ a0 a1 k, LeO (bits_Same.f k a0 a1) (bits_Same.f (k + 1) a0 a1) := by
 intro a0 a1 k
 have ih0 := bits_Same.mono_l k
 unfold bits_Same.f
 repeat' first
   | (with_reducible exact ih0 _ _ _ _)
   | (with_reducible exact LeO.refl _)
   | (with_reducible exact LeO.none _)
   | (with_reducible refine LeO.ite ?_ ?_)
   | (with_reducible refine LeO.bind ?_ (fun _ => ?_))
   | exact ih0 _ _ _ _
   | exact LeO.none _
   | refine LeO.ite ?_ ?_
   | refine LeO.bind ?_ (fun _ => ?_)
set_option maxHeartbeats 8000000 in
set_option maxRecDepth 100000 in
theorem bits_Same.calls (k : Nat) (A0 : Option Addr) (c0 : Nat) (l0 : List Int) (A1 : Option Addr) (c1 : Nat) (l1 : List Int) (r : Bool) (w : World) (hr0 : Kd.C (Kd.int .u64) w A0 l0.length l0) (hc0 : l0.length ≤ c0) (hr1 : Kd.C (Kd.int .u64) w A1 l1.length l1) (hc1 : l1.length ≤ c1) (h : bits_Same.f k l0 l1 = some r) :
  Calls Tryd.prog 33 #[.slice A0 l0.length c0, .slice A1 l1.length c1] w fun e w' => e = .returned (.bool r) ∧ Below w.heap.size w w' := by
 have HR0 := Aside0.mk hr0
 have HC0 := Aside0.mk hc0
 clear hr0 hc0
 have HR1 := Aside0.mk hr1
 have HC1 := Aside0.mk hc1
 clear hr1 hc1
 have HB := Aside0.mk (Below.refl w.heap.size w)
 have H : (bits_Same.l0 k l0 l1 (mx (l0.length : Int) (l1.length : Int)) 0) = some r := h
 clear h
 obtain ⟨ji3, hji3⟩ : ∃ j_ : Int, (mx (l0.length : Int) (l1.length : Int)) = j_ := ⟨_, rfl⟩
 replace H : (bits_Same.l0 k l0 l1 ji3 0) = some r := by first | (rw [hji3] at H; exact H) | (simp only [hji3] at H ⊢; exact H)
 (try (have hji3l : 0 ≤ ji3 := by (rw [← hji3]; unfold mx; (repeat' split) <;> omega)))
 (try (have hji3m : 0 ≤ ji3 := by omega))
 have hji3_ : (if (l0.length : Int) < (l1.length : Int) then (l1.length : Int) else (l0.length : Int)) = ji3 := hji3
 (try (have hji3n := hji3_; simp only [Int.ofNat_lt, Int.ofNat_le] at hji3n))
 (try (have hji3n := hji3_; simp only [Int.ofNat_lt] at hji3n))
 (try (have hji3n := hji3_; simp only [Int.ofNat_le] at hji3n))
 have H' := Aside0.mk H
 clear H
 go_enter Tryd.func33, Tryd.ntmps33
 go_wp2
 go_loopg [11] k (fun kq v11 w' => ∃ (x11_1 : Int), v11 = .int .i64 x11_1 ∧ Aside0 (bits_Same.l0 kq l0 l1 ji3 x11_1 = some r) ∧ Aside0 (kq ≤ k) ∧ Aside0 (Below w.heap.size w w'))
 case atStart => exact ⟨(0), zQ, H', ⟨Nat.le_refl _⟩, ⟨zB⟩⟩
 case round =>
  clear H'
  (try clear c1); (try clear p2); (try clear c3)
  obtain ⟨x11_1, rfl, HA, HK1, HB⟩ := hrel
  cases gk with
  | zero => exact absurd HA.out (by simp [bits_Same.l0])
  | succ k1 =>
   have H := HA.out
   clear HA
   simp only [bits_Same.l0] at H
   by_cases c4 : x11_1 < ji3
   ·rw [if_pos c4] at H
    have c4b0 : decide (x11_1 < ji3) = true := decide_eq_true c4
    clear c4
    replace H := Option.bind_eq_some_iff.mp H
    obtain ⟨t181, A50, H⟩ := H
    replace H : ((bits_Set_word.f l1 x11_1).bind fun t182 => (if t181 = t182 then (bits_Same.l0 k1 l0 l1 ji3 (wrap64 (x11_1 + 1))) else (some false))) = some r := H
    have A5 := Aside0.mk A50
    clear A50
    replace H := Option.bind_eq_some_iff.mp H
    obtain ⟨t182, A60, H⟩ := H
    replace H : (if t181 = t182 then (bits_Same.l0 k1 l0 l1 ji3 (wrap64 (x11_1 + 1))) else (some false)) = some r := H
    have A6 := Aside0.mk A60
    clear A60
    by_cases c7 : t181 = t182
    ·rw [if_pos c7] at H
     have c7b0 : (t181 == t182) = true := beq_iff_eq.mpr c7
     have c7b1 : (t181 != t182) = false := bne_eq_false_iff_eq.mpr c7
     clear c7
     have H' := Aside0.mk H
     clear H
     go_wp2_with (first | ((with_reducible refine gate_callee (f := 36) rfl ?_); refine goesL_ (some 16) rfl rfl Tryd.func36 (by kernel_rfl) rfl #[.slice A0 l0.length c0, .int .i64 x11_1] rfl zE ?_; (with_reducible refine (bits_Set_word.calls _ _ l0 x11_1 t181 _ ?side1 ?side2 A5.out).mono ?_); (case side1 => exact zC (Kd.C_below HR0.out HB.out)); (case side2 => exact HC0.out); rintro e w' ⟨rfl, ⟨nd, rfl⟩⟩; refine ⟨_, rfl, ?_⟩) | ((with_reducible refine gate_callee (f := 36) rfl ?_); refine goesL_ (some 19) rfl rfl Tryd.func36 (by kernel_rfl) rfl #[.slice A1 l1.length c1, .int .i64 x11_1] rfl zE ?_; (with_reducible refine (bits_Set_word.calls _ _ l1 x11_1 t182 _ ?side1 ?side2 A6.out).mono ?_); (case side1 => exact zC (Kd.C_below HR1.out (zB))); (case side2 => exact HC1.out); rintro e w' ⟨rfl, ⟨nd, rfl⟩⟩; refine ⟨_, rfl, ?_⟩))
     go_roundg k1
     case measure => have := HK1.out; omega
     case rel => exact ⟨(wrap64 (x11_1 + 1)), zQ, H', ⟨by have := HK1.out; omega⟩, ⟨zB⟩⟩
    ·rw [if_neg c7] at H
     have c7b0 : (t181 == t182) = false := beq_eq_false_iff_ne.mpr c7
     have c7b1 : (t181 != t182) = true := bne_iff_ne.mpr c7
     obtain rfl := Option.some.inj H
     go_wp2_with (first | ((with_reducible refine gate_callee (f := 36) rfl ?_); refine goesL_ (some 16) rfl rfl Tryd.func36 (by kernel_rfl) rfl #[.slice A0 l0.length c0, .int .i64 x11_1] rfl zE ?_; (with_reducible refine (bits_Set_word.calls _ _ l0 x11_1 t181 _ ?side1 ?side2 A5.out).mono ?_); (case side1 => exact zC (Kd.C_below HR0.out HB.out)); (case side2 => exact HC0.out); rintro e w' ⟨rfl, ⟨nd, rfl⟩⟩; refine ⟨_, rfl, ?_⟩) | ((with_reducible refine gate_callee (f := 36) rfl ?_); refine goesL_ (some 19) rfl rfl Tryd.func36 (by kernel_rfl) rfl #[.slice A1 l1.length c1, .int .i64 x11_1] rfl zE ?_; (with_reducible refine (bits_Set_word.calls _ _ l1 x11_1 t182 _ ?side1 ?side2 A6.out).mono ?_); (case side1 => exact zC (Kd.C_below HR1.out (zB))); (case side2 => exact HC1.out); rintro e w' ⟨rfl, ⟨nd, rfl⟩⟩; refine ⟨_, rfl, ?_⟩))
     go_ret
     exact ⟨by first | rfl | (simp [errW_none, errW_some] <;> rfl) | (simp only [← hji3]; first | rfl | (simp [errW_none, errW_some] <;> rfl)) | (simp [*, errW_none, errW_some] <;> rfl), zB⟩
   ·rw [if_neg c4] at H
    have c4b0 : decide (x11_1 < ji3) = false := decide_eq_false c4
    clear c4
    obtain rfl := Option.some.inj H
    go_wp2
    go_ret
    exact ⟨by first | rfl | (simp [errW_none, errW_some] <;> rfl) | (simp only [← hji3]; first | rfl | (simp [errW_none, errW_some] <;> rfl)) | (simp [*, errW_none, errW_some] <;> rfl), zB⟩
end Go.Proofs.YtanpghbakbebiaaDoor.P

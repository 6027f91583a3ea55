/- A part of it. -/
import Derived.Test.YtgbpkbfghonllaaFcZ
import Derived.Test.YtgbpkbfghonllaaFcP0
import Derived.Test.YtgbpkbfghonllaaFcP6
import Derived.Test.YtgbpkbfghonllaaFcP8
import Derived.Test.YtgbpkbfghonllaaFcM23
import Derived.Test.YtgbpkbfghonllaaFcP7
import Derived.Test.YtgbpkbfghonllaaFcP10
namespace Go.Proofs.Ytgbpkbfghonllaa.P
open Go.RowKit Go.Proofs.YtgbpkbfghonllaaW.PrintWords Go.Proofs.YtgbpkbfghonllaaW.PrintLast Go.Proofs.YtgbpkbfghonllaaW.PrintMore
attribute [local go_sem] max2_int min2_int max_two min_two max_three min_three max_four min_four   
set_option linter.unusedVariables false
set_option linter.unusedSimpArgs false
def instr_Targets.j0 : Nat → Bool → Int → Int → Int → Int → Int → Int → Int → Int → List Int → Option (List Int)
 | 0, _, _, _, _, _, _, _, _, _, _ => none
 | k + 1, x3, x179000, x179001, x179002, x179003, x179004, x179005, x179006, x179007, x179008 => if x3 = true then (some ([] : List Int)) else (if x179000 = 41 then (some (([x179005] : List Int))) else (some (([x179005, x179006] : List Int))))
def instr_Targets.f (k : Nat) (a0_0 : Int) (a0_1 : Int) (a0_2 : Int) (a0_3 : Int) (a0_4 : Int) (a0_5 : Int) (a0_6 : Int) (a0_7 : Int) (l0_8 : List Int) : Option (List Int) := (instr_Right.f k a0_0 a0_1 a0_2 a0_3 a0_4 a0_5 a0_6 a0_7 l0_8).bind fun t179 => (if t179 = true then ((instr_Ends.f a0_0).bind fun t180 => (if t180 = true then (instr_Targets.j0 k (a0_0 == 43) a0_0 a0_1 a0_2 a0_3 a0_4 a0_5 a0_6 a0_7 l0_8) else (instr_Targets.j0 k true a0_0 a0_1 a0_2 a0_3 a0_4 a0_5 a0_6 a0_7 l0_8))) else (instr_Targets.j0 k true a0_0 a0_1 a0_2 a0_3 a0_4 a0_5 a0_6 a0_7 l0_8))
set_option maxHeartbeats 8000000 in
set_option maxRecDepth 100000 in
theorem instr_Targets.calls (k : Nat) (a0_0 : Int) (a0_1 : Int) (a0_2 : Int) (a0_3 : Int) (a0_4 : Int) (a0_5 : Int) (a0_6 : Int) (a0_7 : Int) (A0_8 : Option Addr) (c0_8 : Nat) (l0_8 : List Int) (r : List Int) (w : World) (hr0_8 : Kd.C (Kd.int .i64) w A0_8 l0_8.length l0_8) (hc0_8 : l0_8.length ≤ c0_8) (h : instr_Targets.f k a0_0 a0_1 a0_2 a0_3 a0_4 a0_5 a0_6 a0_7 l0_8 = some r) :
  Calls Try.prog 50 #[.agg #[.int .i64 a0_0, .int .i64 a0_1, .int .i64 a0_2, .int .i64 a0_3, .int .i64 a0_4, .int .i64 a0_5, .int .i64 a0_6, .int .i64 a0_7, .slice A0_8 l0_8.length c0_8]] w fun e w' => ∃ v0_ : Value, e = .returned (v0_) ∧ Kd.R (Kd.int .i64) 3 w' w.heap.size (fun _ => True) v0_ r ∧ Below w.heap.size w w' := by
 have hu42 := Try.underlying42
 have HR0_8 := Aside0.mk hr0_8
 have HC0_8 := Aside0.mk hc0_8
 clear hr0_8 hc0_8
 have HB := Aside0.mk (Below.refl w.heap.size w)
 have H : ((instr_Right.f k a0_0 a0_1 a0_2 a0_3 a0_4 a0_5 a0_6 a0_7 l0_8).bind fun t179 => (if t179 = true then ((instr_Ends.f a0_0).bind fun t180 => (if t180 = true then (instr_Targets.j0 k (a0_0 == 43) a0_0 a0_1 a0_2 a0_3 a0_4 a0_5 a0_6 a0_7 l0_8) else (instr_Targets.j0 k true a0_0 a0_1 a0_2 a0_3 a0_4 a0_5 a0_6 a0_7 l0_8))) else (instr_Targets.j0 k true a0_0 a0_1 a0_2 a0_3 a0_4 a0_5 a0_6 a0_7 l0_8))) = some r := h
 clear h
 have HC2 := Aside0.mk H
 clear H
 go_enter Try.func50, Try.ntmps50
 go_upto_region 1 with (first | ((with_reducible refine gate_dst (N := 1) rfl ?_); refine box_event ?hg (N := 1) ?hd (cs := #[.int .i64 a0_0, .int .i64 a0_1, .int .i64 a0_2, .int .i64 a0_3, .int .i64 a0_4, .int .i64 a0_5, .int .i64 a0_6, .int .i64 a0_7, .slice A0_8 l0_8.length c0_8]) (t := 42) ?hr ?_; (case hd => rfl); (case hg => rfl); (case hr => first | (go_simp; done) | (go_simp; rfl)); intro gb178 hg w3 hbox hb; have n0_ := Aside0.mk (below_step (zB) hb); have n1_ := Aside0.mk (hbox); have n2_ := Aside0.mk (zH hg : w.heap.size ≤ gb178); have n3_ := Aside0.mk (zH hg : w.heap.size ≤ gb178); clear HB; have HB := n0_; have BK178 := n1_; have GW178 := n2_; have GE178 := n3_; clear n0_ n1_ n2_ n3_; clear hb hbox hg))
 (try simp only [Act.put, List.setIfInBounds_toArray, List.set_cons_zero, List.set_cons_succ])
 go_cut [3] (fun v3 wc => ∃ (kq : Nat) (x3_1 : Bool), v3 = .bool x3_1 ∧ Aside0 (instr_Targets.j0 kq x3_1 a0_0 a0_1 a0_2 a0_3 a0_4 a0_5 a0_6 a0_7 l0_8 = some r) ∧ Aside0 (kq ≤ k) ∧ Aside0 (wc.heap[gb178]? = some (.cells #[.int .i64 a0_0, .int .i64 a0_1, .int .i64 a0_2, .int .i64 a0_3, .int .i64 a0_4, .int .i64 a0_5, .int .i64 a0_6, .int .i64 a0_7, (.slice A0_8 l0_8.length c0_8)] 42 (0, 0))) ∧ Aside0 (Below w.heap.size w wc))
 case first =>
  have H := HC2.out
  clear HC2
  replace H := Option.bind_eq_some_iff.mp H
  obtain ⟨t179, A40, H⟩ := H
  replace H : (if t179 = true then ((instr_Ends.f a0_0).bind fun t180 => (if t180 = true then (instr_Targets.j0 k (a0_0 == 43) a0_0 a0_1 a0_2 a0_3 a0_4 a0_5 a0_6 a0_7 l0_8) else (instr_Targets.j0 k true a0_0 a0_1 a0_2 a0_3 a0_4 a0_5 a0_6 a0_7 l0_8))) else (instr_Targets.j0 k true a0_0 a0_1 a0_2 a0_3 a0_4 a0_5 a0_6 a0_7 l0_8)) = some r := H
  have A4 := Aside0.mk A40
  clear A40
  by_cases c5 : t179 = true
  ·subst c5
   have H1 : ((instr_Ends.f a0_0).bind fun t180 => (if t180 = true then (instr_Targets.j0 k (a0_0 == 43) a0_0 a0_1 a0_2 a0_3 a0_4 a0_5 a0_6 a0_7 l0_8) else (instr_Targets.j0 k true a0_0 a0_1 a0_2 a0_3 a0_4 a0_5 a0_6 a0_7 l0_8))) = some r := by rw [if_pos rfl] at H; exact H
   clear H
   have H := H1
   clear H1
   replace H := Option.bind_eq_some_iff.mp H
   obtain ⟨t180, A60, H⟩ := H
   replace H : (if t180 = true then (instr_Targets.j0 k (a0_0 == 43) a0_0 a0_1 a0_2 a0_3 a0_4 a0_5 a0_6 a0_7 l0_8) else (instr_Targets.j0 k true a0_0 a0_1 a0_2 a0_3 a0_4 a0_5 a0_6 a0_7 l0_8)) = some r := H
   have A6 := Aside0.mk A60
   clear A60
   by_cases c7 : t180 = true
   ·subst c7
    have H1 : (instr_Targets.j0 k (a0_0 == 43) a0_0 a0_1 a0_2 a0_3 a0_4 a0_5 a0_6 a0_7 l0_8) = some r := by rw [if_pos rfl] at H; exact H
    clear H
    have H := H1
    clear H1
    have H' := Aside0.mk H
    clear H
    obtain ⟨hcz8_0, hcz8_1, hcz8_2, hcz8_3, hcz8_4, hcz8_5, hcz8_6, hcz8_7, hcz8_8⟩ := zc9 BK178.out
    obtain ⟨hfz8_0, hfz8_1, hfz8_2, hfz8_3, hfz8_4, hfz8_5, hfz8_6, hfz8_7, hfz8_8⟩ := zf9 BK178.out
    go_wp2_with (first | ((with_reducible refine gate_callee (f := 71) rfl ?_); refine goesL_ (some 5) rfl rfl Try.func71 (by kernel_rfl) rfl #[.agg #[.int .i64 a0_0, .int .i64 a0_1, .int .i64 a0_2, .int .i64 a0_3, .int .i64 a0_4, .int .i64 a0_5, .int .i64 a0_6, .int .i64 a0_7, .slice A0_8 l0_8.length c0_8]] rfl zE ?_; (with_reducible refine (instr_Right.calls k a0_0 a0_1 a0_2 a0_3 a0_4 a0_5 a0_6 a0_7 _ _ l0_8 true _ ?side1 ?side2 A4.out).mono ?_); (case side1 => exact zC (Kd.C_below HR0_8.out HB.out)); (case side2 => exact HC0_8.out); rintro e w9 ⟨rfl, hb⟩; refine ⟨_, rfl, ?_⟩; have n0_ := Aside0.mk (blk_below (g := gb178) (o := .cells #[.int .i64 a0_0, .int .i64 a0_1, .int .i64 a0_2, .int .i64 a0_3, .int .i64 a0_4, .int .i64 a0_5, .int .i64 a0_6, .int .i64 a0_7, .slice A0_8 l0_8.length c0_8] 42 (0, 0)) (zK BK178.out) hb); have n1_ := Aside0.mk (below_step (zG) hb); clear BK178; clear HB; have BK178 := n0_; have HB := n1_; clear n0_ n1_; (try clear hb); (try clear hb2); (try clear hk); (try clear hi); obtain ⟨hcz10_0, hcz10_1, hcz10_2, hcz10_3, hcz10_4, hcz10_5, hcz10_6, hcz10_7, hcz10_8⟩ := zc9 BK178.out; obtain ⟨hfz10_0, hfz10_1, hfz10_2, hfz10_3, hfz10_4, hfz10_5, hfz10_6, hfz10_7, hfz10_8⟩ := zf9 BK178.out) | (go_at_call 72; (with_reducible refine (instr_Ends.calls a0_0 true _ A6.out).mono ?_); rintro e w' ⟨rfl, ⟨nd, rfl⟩⟩))
    go_meet
    case rel => exact ⟨_, ((a0_0 == 43)), zQ, H', ⟨by first | omega | exact Nat.le_refl _⟩, ⟨zK BK178.out⟩, ⟨zG⟩⟩
   ·replace c7 := Bool.eq_false_iff.mpr c7
    subst c7
    have H1 : (instr_Targets.j0 k true a0_0 a0_1 a0_2 a0_3 a0_4 a0_5 a0_6 a0_7 l0_8) = some r := by rw [if_neg (show ¬ (false = true) by decide)] at H; exact H
    clear H
    have H := H1
    clear H1
    have H' := Aside0.mk H
    clear H
    obtain ⟨hcz11_0, hcz11_1, hcz11_2, hcz11_3, hcz11_4, hcz11_5, hcz11_6, hcz11_7, hcz11_8⟩ := zc9 BK178.out
    obtain ⟨hfz11_0, hfz11_1, hfz11_2, hfz11_3, hfz11_4, hfz11_5, hfz11_6, hfz11_7, hfz11_8⟩ := zf9 BK178.out
    go_wp2_with (first | ((with_reducible refine gate_callee (f := 71) rfl ?_); refine goesL_ (some 5) rfl rfl Try.func71 (by kernel_rfl) rfl #[.agg #[.int .i64 a0_0, .int .i64 a0_1, .int .i64 a0_2, .int .i64 a0_3, .int .i64 a0_4, .int .i64 a0_5, .int .i64 a0_6, .int .i64 a0_7, .slice A0_8 l0_8.length c0_8]] rfl zE ?_; (with_reducible refine (instr_Right.calls k a0_0 a0_1 a0_2 a0_3 a0_4 a0_5 a0_6 a0_7 _ _ l0_8 true _ ?side1 ?side2 A4.out).mono ?_); (case side1 => exact zC (Kd.C_below HR0_8.out HB.out)); (case side2 => exact HC0_8.out); rintro e w12 ⟨rfl, hb⟩; refine ⟨_, rfl, ?_⟩; have n0_ := Aside0.mk (blk_below (g := gb178) (o := .cells #[.int .i64 a0_0, .int .i64 a0_1, .int .i64 a0_2, .int .i64 a0_3, .int .i64 a0_4, .int .i64 a0_5, .int .i64 a0_6, .int .i64 a0_7, .slice A0_8 l0_8.length c0_8] 42 (0, 0)) (zK BK178.out) hb); have n1_ := Aside0.mk (below_step (zG) hb); clear BK178; clear HB; have BK178 := n0_; have HB := n1_; clear n0_ n1_; (try clear hb); (try clear hb2); (try clear hk); (try clear hi); obtain ⟨hcz13_0, hcz13_1, hcz13_2, hcz13_3, hcz13_4, hcz13_5, hcz13_6, hcz13_7, hcz13_8⟩ := zc9 BK178.out; obtain ⟨hfz13_0, hfz13_1, hfz13_2, hfz13_3, hfz13_4, hfz13_5, hfz13_6, hfz13_7, hfz13_8⟩ := zf9 BK178.out) | (go_at_call 72; (with_reducible refine (instr_Ends.calls a0_0 false _ A6.out).mono ?_); rintro e w' ⟨rfl, ⟨nd, rfl⟩⟩))
    go_meet
    case rel => exact ⟨_, (true), zQ, H', ⟨by first | omega | exact Nat.le_refl _⟩, ⟨zK BK178.out⟩, ⟨zG⟩⟩
  ·replace c5 := Bool.eq_false_iff.mpr c5
   subst c5
   have H1 : (instr_Targets.j0 k true a0_0 a0_1 a0_2 a0_3 a0_4 a0_5 a0_6 a0_7 l0_8) = some r := by rw [if_neg (show ¬ (false = true) by decide)] at H; exact H
   clear H
   have H := H1
   clear H1
   have H' := Aside0.mk H
   clear H
   obtain ⟨hcz14_0, hcz14_1, hcz14_2, hcz14_3, hcz14_4, hcz14_5, hcz14_6, hcz14_7, hcz14_8⟩ := zc9 BK178.out
   obtain ⟨hfz14_0, hfz14_1, hfz14_2, hfz14_3, hfz14_4, hfz14_5, hfz14_6, hfz14_7, hfz14_8⟩ := zf9 BK178.out
   go_wp2_with (first | ((with_reducible refine gate_callee (f := 71) rfl ?_); refine goesL_ (some 5) rfl rfl Try.func71 (by kernel_rfl) rfl #[.agg #[.int .i64 a0_0, .int .i64 a0_1, .int .i64 a0_2, .int .i64 a0_3, .int .i64 a0_4, .int .i64 a0_5, .int .i64 a0_6, .int .i64 a0_7, .slice A0_8 l0_8.length c0_8]] rfl zE ?_; (with_reducible refine (instr_Right.calls k a0_0 a0_1 a0_2 a0_3 a0_4 a0_5 a0_6 a0_7 _ _ l0_8 false _ ?side1 ?side2 A4.out).mono ?_); (case side1 => exact zC (Kd.C_below HR0_8.out HB.out)); (case side2 => exact HC0_8.out); rintro e w15 ⟨rfl, hb⟩; refine ⟨_, rfl, ?_⟩; have n0_ := Aside0.mk (blk_below (g := gb178) (o := .cells #[.int .i64 a0_0, .int .i64 a0_1, .int .i64 a0_2, .int .i64 a0_3, .int .i64 a0_4, .int .i64 a0_5, .int .i64 a0_6, .int .i64 a0_7, .slice A0_8 l0_8.length c0_8] 42 (0, 0)) (zK BK178.out) hb); have n1_ := Aside0.mk (below_step (zG) hb); clear BK178; clear HB; have BK178 := n0_; have HB := n1_; clear n0_ n1_; (try clear hb); (try clear hb2); (try clear hk); (try clear hi)))
   go_meet
   case rel => exact ⟨_, (true), zQ, H', ⟨by first | omega | exact Nat.le_refl _⟩, ⟨zK BK178.out⟩, ⟨zG⟩⟩
 case rest =>
  clear HC2
  (try clear p2); (try clear c5); (try clear c7); (try clear hcz10_0 hcz10_1 hcz10_2 hcz10_3 hcz10_4 hcz10_5 hcz10_6 hcz10_7 hcz10_8); (try clear hcz11_0 hcz11_1 hcz11_2 hcz11_3 hcz11_4 hcz11_5 hcz11_6 hcz11_7)
  (try clear hcz11_8); (try clear hcz13_0 hcz13_1 hcz13_2 hcz13_3 hcz13_4 hcz13_5 hcz13_6 hcz13_7 hcz13_8); (try clear hcz14_0 hcz14_1 hcz14_2 hcz14_3 hcz14_4 hcz14_5 hcz14_6 hcz14_7 hcz14_8); (try clear hcz8_0)
  (try clear hcz8_1 hcz8_2 hcz8_3 hcz8_4 hcz8_5 hcz8_6 hcz8_7 hcz8_8); (try clear hfz10_0 hfz10_1 hfz10_2 hfz10_3 hfz10_4 hfz10_5 hfz10_6 hfz10_7 hfz10_8); (try clear hfz11_0 hfz11_1 hfz11_2)
  (try clear hfz11_3 hfz11_4 hfz11_5 hfz11_6 hfz11_7 hfz11_8); (try clear hfz13_0 hfz13_1 hfz13_2 hfz13_3 hfz13_4 hfz13_5 hfz13_6 hfz13_7 hfz13_8); (try clear hfz14_0 hfz14_1 hfz14_2 hfz14_3 hfz14_4)
  (try clear hfz14_5 hfz14_6 hfz14_7 hfz14_8); (try clear hfz8_0 hfz8_1 hfz8_2 hfz8_3 hfz8_4 hfz8_5 hfz8_6 hfz8_7 hfz8_8)
  obtain ⟨kq, x3_1, rfl, HA, HJ1, BK178, HB⟩ := hcut
  cases kq with
  | zero => exact absurd HA.out (by simp [instr_Targets.j0])
  | succ kj1 =>
   have H := HA.out
   clear HA
   simp only [instr_Targets.j0] at H
   by_cases c16 : x3_1 = true
   ·subst c16
    have H1 : (some ([] : List Int)) = some r := by rw [if_pos rfl] at H; exact H
    clear H
    have H := H1
    clear H1
    obtain rfl := Option.some.inj H
    go_wp2
    go_ret
    exact ⟨_, zV, by first | exact Kd.R_nil _ _ _ _ _ | exact Kd.N_nil _ _ _ _ _ | exact Kd.V_nil _ _ _ _ _ | exact Kd.Q_nil _ _ _ _ _ | exact Kd.S_nil _ _ _ _ _, zG⟩
   ·replace c16 := Bool.eq_false_iff.mpr c16
    subst c16
    have H1 : (if a0_0 = 41 then (some (([a0_5] : List Int))) else (some (([a0_5, a0_6] : List Int)))) = some r := by rw [if_neg (show ¬ (false = true) by decide)] at H; exact H
    clear H
    have H := H1
    clear H1
    by_cases c17 : a0_0 = 41
    ·rw [if_pos c17] at H
     have c17b0 : (a0_0 == 41) = true := beq_iff_eq.mpr c17
     have c17b1 : (a0_0 != 41) = false := bne_eq_false_iff_eq.mpr c17
     clear c17
     obtain ⟨y181, hy181⟩ : ∃ y_ : List Int, y_ = (([a0_5] : List Int)) := ⟨_, rfl⟩
     replace H : (some y181) = some r := by first | (rw [hy181]; with_reducible exact H) | (have H2_ := (Option.bind_some _ _).symm.trans H; rw [hy181]; with_reducible exact H2_) | (have H2_ := (Option.bind_some _ _).symm.trans H; with_reducible exact H2_) | with_reducible exact H | (rw [hy181]; exact H) | exact H
     have Ny181 := Aside0.mk hy181
     clear hy181
     obtain rfl := Option.some.inj H
     obtain ⟨hcz18_0, hcz18_1, hcz18_2, hcz18_3, hcz18_4, hcz18_5, hcz18_6, hcz18_7, hcz18_8⟩ := zc9 BK178.out
     obtain ⟨hfz18_0, hfz18_1, hfz18_2, hfz18_3, hfz18_4, hfz18_5, hfz18_6, hfz18_7, hfz18_8⟩ := zf9 BK178.out
     go_wp2_with (first | ((with_reducible refine gate_dst (N := 24) rfl ?_); refine Kd.R_lit (Kd.int .i64) _ 3 ?hg (N := 24) ?hd (xs := ([a0_5] : List Int)) (inner := [.int .i64 a0_5]) (ok := fun _ => True) (okp := fun _ => True) ?hr ?hp (fun _ hk => hk) trivial (Below.refl _ _) (Nat.le_refl _) (by simp) ?_; (case hd => rfl); (case hg => rfl); (case hr => first | (go_simp; done) | (go_simp; rfl)); (case hp => exact (Reps.one (show Kd.M (Kd.int .i64) _ _ _ a0_5 [.int .i64 a0_5] from rfl) (Reps.none _ _))); intro v182 w19 ho20 hb hg_ hnew_; clear hg_ hnew_; (first | rw [← Ny181.out] at ho20 | (simp only [Int.reduceToNat] at ho20; rw [← Ny181.out] at ho20)); have n0_ := Aside0.mk (Kd.R_lower ho20 (below_size (zG))); have n1_ := Aside0.mk (blk_below (g := gb178) (o := .cells #[.int .i64 a0_0, .int .i64 a0_1, .int .i64 a0_2, .int .i64 a0_3, .int .i64 a0_4, .int .i64 a0_5, .int .i64 a0_6, .int .i64 a0_7, .slice A0_8 l0_8.length c0_8] 42 (0, 0)) (zK BK178.out) hb); have n2_ := Aside0.mk (below_step (zG) hb); clear BK178; clear HB; have HO183 := n0_; have BK178 := n1_; have HB := n2_; clear n0_ n1_ n2_; clear hb ho20))
     go_ret
     exact ⟨_, zV, zR HO183.out, zG⟩
    ·rw [if_neg c17] at H
     have c17b0 : (a0_0 == 41) = false := beq_eq_false_iff_ne.mpr c17
     have c17b1 : (a0_0 != 41) = true := bne_iff_ne.mpr c17
     obtain ⟨y184, hy184⟩ : ∃ y_ : List Int, y_ = (([a0_5, a0_6] : List Int)) := ⟨_, rfl⟩
     replace H : (some y184) = some r := by first | (rw [hy184]; with_reducible exact H) | (have H2_ := (Option.bind_some _ _).symm.trans H; rw [hy184]; with_reducible exact H2_) | (have H2_ := (Option.bind_some _ _).symm.trans H; with_reducible exact H2_) | with_reducible exact H | (rw [hy184]; exact H) | exact H
     have Ny184 := Aside0.mk hy184
     clear hy184
     obtain rfl := Option.some.inj H
     obtain ⟨hcz21_0, hcz21_1, hcz21_2, hcz21_3, hcz21_4, hcz21_5, hcz21_6, hcz21_7, hcz21_8⟩ := zc9 BK178.out
     obtain ⟨hfz21_0, hfz21_1, hfz21_2, hfz21_3, hfz21_4, hfz21_5, hfz21_6, hfz21_7, hfz21_8⟩ := zf9 BK178.out
     go_wp2_with (first | ((with_reducible refine gate_dst (N := 29) rfl ?_); refine Kd.R_lit (Kd.int .i64) _ 3 ?hg (N := 29) ?hd (xs := ([a0_5, a0_6] : List Int)) (inner := [.int .i64 a0_5, .int .i64 a0_6]) (ok := fun _ => True) (okp := fun _ => True) ?hr ?hp (fun _ hk => hk) trivial (Below.refl _ _) (Nat.le_refl _) (by simp) ?_; (case hd => rfl); (case hg => rfl); (case hr => first | (go_simp; done) | (go_simp; rfl)); (case hp => exact (Reps.one (show Kd.M (Kd.int .i64) _ _ _ a0_5 [.int .i64 a0_5] from rfl) (Reps.one (show Kd.M (Kd.int .i64) _ _ _ a0_6 [.int .i64 a0_6] from rfl) (Reps.none _ _)))); intro v185 w22 ho23 hb hg_ hnew_; clear hg_ hnew_; (first | rw [← Ny184.out] at ho23 | (simp only [Int.reduceToNat] at ho23; rw [← Ny184.out] at ho23)); have n0_ := Aside0.mk (Kd.R_lower ho23 (below_size (zG))); have n1_ := Aside0.mk (blk_below (g := gb178) (o := .cells #[.int .i64 a0_0, .int .i64 a0_1, .int .i64 a0_2, .int .i64 a0_3, .int .i64 a0_4, .int .i64 a0_5, .int .i64 a0_6, .int .i64 a0_7, .slice A0_8 l0_8.length c0_8] 42 (0, 0)) (zK BK178.out) hb); have n2_ := Aside0.mk (below_step (zG) hb); clear BK178; clear HB; have HO186 := n0_; have BK178 := n1_; have HB := n2_; clear n0_ n1_ n2_; clear hb ho23))
     go_ret
     exact ⟨_, zV, zR HO186.out, zG⟩
def instr_Def.f (k : Nat) (a0_0 : Int) (a0_1 : Int) (a0_2 : Int) (a0_3 : Int) (a0_4 : Int) (a0_5 : Int) (a0_6 : Int) (a0_7 : Int) (l0_8 : List Int) : Option (Int) := (instr_Right.f k a0_0 a0_1 a0_2 a0_3 a0_4 a0_5 a0_6 a0_7 l0_8).bind fun t188 => (if t188 = true then ((instr_has.f a0_0).bind fun t189 => (if (Go.bits .and .i64 t189 1) = 0 then (some (-1)) else (some a0_1))) else (some (-1)))
set_option maxHeartbeats 8000000 in
set_option maxRecDepth 100000 in
theorem instr_Def.calls (k : Nat) (a0_0 : Int) (a0_1 : Int) (a0_2 : Int) (a0_3 : Int) (a0_4 : Int) (a0_5 : Int) (a0_6 : Int) (a0_7 : Int) (A0_8 : Option Addr) (c0_8 : Nat) (l0_8 : List Int) (r : Int) (w : World) (hr0_8 : Kd.C (Kd.int .i64) w A0_8 l0_8.length l0_8) (hc0_8 : l0_8.length ≤ c0_8) (h : instr_Def.f k a0_0 a0_1 a0_2 a0_3 a0_4 a0_5 a0_6 a0_7 l0_8 = some r) :
  Calls Try.prog 74 #[.agg #[.int .i64 a0_0, .int .i64 a0_1, .int .i64 a0_2, .int .i64 a0_3, .int .i64 a0_4, .int .i64 a0_5, .int .i64 a0_6, .int .i64 a0_7, .slice A0_8 l0_8.length c0_8]] w fun e w' => e = .returned (.int .i64 r) ∧ Below w.heap.size w w' := by
 have hu42 := Try.underlying42
 have HR0_8 := Aside0.mk hr0_8
 have HC0_8 := Aside0.mk hc0_8
 clear hr0_8 hc0_8
 have HB := Aside0.mk (Below.refl w.heap.size w)
 have H : ((instr_Right.f k a0_0 a0_1 a0_2 a0_3 a0_4 a0_5 a0_6 a0_7 l0_8).bind fun t188 => (if t188 = true then ((instr_has.f a0_0).bind fun t189 => (if (Go.bits .and .i64 t189 1) = 0 then (some (-1)) else (some a0_1))) else (some (-1)))) = some r := h
 clear h
 replace H := Option.bind_eq_some_iff.mp H
 obtain ⟨t188, A20, H⟩ := H
 replace H : (if t188 = true then ((instr_has.f a0_0).bind fun t189 => (if (Go.bits .and .i64 t189 1) = 0 then (some (-1)) else (some a0_1))) else (some (-1))) = some r := H
 have A2 := Aside0.mk A20
 clear A20
 by_cases c3 : t188 = true
 ·subst c3
  have H1 : ((instr_has.f a0_0).bind fun t189 => (if (Go.bits .and .i64 t189 1) = 0 then (some (-1)) else (some a0_1))) = some r := by rw [if_pos rfl] at H; exact H
  clear H
  have H := H1
  clear H1
  replace H := Option.bind_eq_some_iff.mp H
  obtain ⟨t189, A40, H⟩ := H
  replace H : (if (Go.bits .and .i64 t189 1) = 0 then (some (-1)) else (some a0_1)) = some r := H
  have A4 := Aside0.mk A40
  clear A40
  by_cases c5 : (Go.bits .and .i64 t189 1) = 0
  ·rw [if_pos c5] at H
   have c5b0 : ((Go.bits .and .i64 t189 1) == 0) = true := beq_iff_eq.mpr c5
   have c5b1 : ((Go.bits .and .i64 t189 1) != 0) = false := bne_eq_false_iff_eq.mpr c5
   clear c5
   obtain rfl := Option.some.inj H
   go_enter Try.func74, Try.ntmps74
   go_wp2_with (first | ((with_reducible refine gate_dst (N := 1) rfl ?_); refine box_event ?hg (N := 1) ?hd (cs := #[.int .i64 a0_0, .int .i64 a0_1, .int .i64 a0_2, .int .i64 a0_3, .int .i64 a0_4, .int .i64 a0_5, .int .i64 a0_6, .int .i64 a0_7, .slice A0_8 l0_8.length c0_8]) (t := 42) ?hr ?_; (case hd => rfl); (case hg => rfl); (case hr => first | (go_simp; done) | (go_simp; rfl)); intro gb187 hg w6 hbox hb; have n0_ := Aside0.mk (below_step (zB) hb); have n1_ := Aside0.mk (hbox); have n2_ := Aside0.mk (zH hg : w.heap.size ≤ gb187); have n3_ := Aside0.mk (zH hg : w.heap.size ≤ gb187); clear HB; have HB := n0_; have BK187 := n1_; have GW187 := n2_; have GE187 := n3_; clear n0_ n1_ n2_ n3_; clear hb hbox hg; obtain ⟨hcz7_0, hcz7_1, hcz7_2, hcz7_3, hcz7_4, hcz7_5, hcz7_6, hcz7_7, hcz7_8⟩ := zc9 BK187.out; obtain ⟨hfz7_0, hfz7_1, hfz7_2, hfz7_3, hfz7_4, hfz7_5, hfz7_6, hfz7_7, hfz7_8⟩ := zf9 BK187.out) | ((with_reducible refine gate_callee (f := 71) rfl ?_); refine goesL_ (some 4) rfl rfl Try.func71 (by kernel_rfl) rfl #[.agg #[.int .i64 a0_0, .int .i64 a0_1, .int .i64 a0_2, .int .i64 a0_3, .int .i64 a0_4, .int .i64 a0_5, .int .i64 a0_6, .int .i64 a0_7, .slice A0_8 l0_8.length c0_8]] rfl zE ?_; (with_reducible refine (instr_Right.calls k a0_0 a0_1 a0_2 a0_3 a0_4 a0_5 a0_6 a0_7 _ _ l0_8 true _ ?side1 ?side2 A2.out).mono ?_); (case side1 => exact zC (Kd.C_below HR0_8.out HB.out)); (case side2 => exact HC0_8.out); rintro e w8 ⟨rfl, hb⟩; refine ⟨_, rfl, ?_⟩; have n0_ := Aside0.mk (blk_below (g := gb187) (o := .cells #[.int .i64 a0_0, .int .i64 a0_1, .int .i64 a0_2, .int .i64 a0_3, .int .i64 a0_4, .int .i64 a0_5, .int .i64 a0_6, .int .i64 a0_7, .slice A0_8 l0_8.length c0_8] 42 (0, 0)) (zK BK187.out) hb); have n1_ := Aside0.mk (below_step (zG) hb); clear BK187; clear HB; have BK187 := n0_; have HB := n1_; clear n0_ n1_; (try clear hb); (try clear hb2); (try clear hk); (try clear hi); obtain ⟨hcz9_0, hcz9_1, hcz9_2, hcz9_3, hcz9_4, hcz9_5, hcz9_6, hcz9_7, hcz9_8⟩ := zc9 BK187.out; obtain ⟨hfz9_0, hfz9_1, hfz9_2, hfz9_3, hfz9_4, hfz9_5, hfz9_6, hfz9_7, hfz9_8⟩ := zf9 BK187.out) | (go_at_call 85; (with_reducible refine (instr_has.calls a0_0 t189 _ A4.out).mono ?_); rintro e w10 ⟨rfl, hb⟩; have n0_ := Aside0.mk (blk_below (g := gb187) (o := .cells #[.int .i64 a0_0, .int .i64 a0_1, .int .i64 a0_2, .int .i64 a0_3, .int .i64 a0_4, .int .i64 a0_5, .int .i64 a0_6, .int .i64 a0_7, .slice A0_8 l0_8.length c0_8] 42 (0, 0)) (zK BK187.out) hb); have n1_ := Aside0.mk (below_step (zG) hb); clear BK187; clear HB; have BK187 := n0_; have HB := n1_; clear n0_ n1_; (try clear hb); (try clear hb2); (try clear hk); (try clear hi)))
   go_ret
   exact ⟨zV, zG⟩
  ·rw [if_neg c5] at H
   have c5b0 : ((Go.bits .and .i64 t189 1) == 0) = false := beq_eq_false_iff_ne.mpr c5
   have c5b1 : ((Go.bits .and .i64 t189 1) != 0) = true := bne_iff_ne.mpr c5
   obtain rfl := Option.some.inj H
   go_enter Try.func74, Try.ntmps74
   go_wp2_with (first | ((with_reducible refine gate_dst (N := 1) rfl ?_); refine box_event ?hg (N := 1) ?hd (cs := #[.int .i64 a0_0, .int .i64 a0_1, .int .i64 a0_2, .int .i64 a0_3, .int .i64 a0_4, .int .i64 a0_5, .int .i64 a0_6, .int .i64 a0_7, .slice A0_8 l0_8.length c0_8]) (t := 42) ?hr ?_; (case hd => rfl); (case hg => rfl); (case hr => first | (go_simp; done) | (go_simp; rfl)); intro gb187 hg w11 hbox hb; have n0_ := Aside0.mk (below_step (zB) hb); have n1_ := Aside0.mk (hbox); have n2_ := Aside0.mk (zH hg : w.heap.size ≤ gb187); have n3_ := Aside0.mk (zH hg : w.heap.size ≤ gb187); clear HB; have HB := n0_; have BK187 := n1_; have GW187 := n2_; have GE187 := n3_; clear n0_ n1_ n2_ n3_; clear hb hbox hg; obtain ⟨hcz12_0, hcz12_1, hcz12_2, hcz12_3, hcz12_4, hcz12_5, hcz12_6, hcz12_7, hcz12_8⟩ := zc9 BK187.out; obtain ⟨hfz12_0, hfz12_1, hfz12_2, hfz12_3, hfz12_4, hfz12_5, hfz12_6, hfz12_7, hfz12_8⟩ := zf9 BK187.out) | ((with_reducible refine gate_callee (f := 71) rfl ?_); refine goesL_ (some 4) rfl rfl Try.func71 (by kernel_rfl) rfl #[.agg #[.int .i64 a0_0, .int .i64 a0_1, .int .i64 a0_2, .int .i64 a0_3, .int .i64 a0_4, .int .i64 a0_5, .int .i64 a0_6, .int .i64 a0_7, .slice A0_8 l0_8.length c0_8]] rfl zE ?_; (with_reducible refine (instr_Right.calls k a0_0 a0_1 a0_2 a0_3 a0_4 a0_5 a0_6 a0_7 _ _ l0_8 true _ ?side1 ?side2 A2.out).mono ?_); (case side1 => exact zC (Kd.C_below HR0_8.out HB.out)); (case side2 => exact HC0_8.out); rintro e w13 ⟨rfl, hb⟩; refine ⟨_, rfl, ?_⟩; have n0_ := Aside0.mk (blk_below (g := gb187) (o := .cells #[.int .i64 a0_0, .int .i64 a0_1, .int .i64 a0_2, .int .i64 a0_3, .int .i64 a0_4, .int .i64 a0_5, .int .i64 a0_6, .int .i64 a0_7, .slice A0_8 l0_8.length c0_8] 42 (0, 0)) (zK BK187.out) hb); have n1_ := Aside0.mk (below_step (zG) hb); clear BK187; clear HB; have BK187 := n0_; have HB := n1_; clear n0_ n1_; (try clear hb); (try clear hb2); (try clear hk); (try clear hi); obtain ⟨hcz14_0, hcz14_1, hcz14_2, hcz14_3, hcz14_4, hcz14_5, hcz14_6, hcz14_7, hcz14_8⟩ := zc9 BK187.out; obtain ⟨hfz14_0, hfz14_1, hfz14_2, hfz14_3, hfz14_4, hfz14_5, hfz14_6, hfz14_7, hfz14_8⟩ := zf9 BK187.out) | (go_at_call 85; (with_reducible refine (instr_has.calls a0_0 t189 _ A4.out).mono ?_); rintro e w15 ⟨rfl, hb⟩; have n0_ := Aside0.mk (blk_below (g := gb187) (o := .cells #[.int .i64 a0_0, .int .i64 a0_1, .int .i64 a0_2, .int .i64 a0_3, .int .i64 a0_4, .int .i64 a0_5, .int .i64 a0_6, .int .i64 a0_7, .slice A0_8 l0_8.length c0_8] 42 (0, 0)) (zK BK187.out) hb); have n1_ := Aside0.mk (below_step (zG) hb); clear BK187; clear HB; have BK187 := n0_; have HB := n1_; clear n0_ n1_; (try clear hb); (try clear hb2); (try clear hk); (try clear hi); obtain ⟨hcz16_0, hcz16_1, hcz16_2, hcz16_3, hcz16_4, hcz16_5, hcz16_6, hcz16_7, hcz16_8⟩ := zc9 BK187.out; obtain ⟨hfz16_0, hfz16_1, hfz16_2, hfz16_3, hfz16_4, hfz16_5, hfz16_6, hfz16_7, hfz16_8⟩ := zf9 BK187.out))
   go_ret
   exact ⟨zV, zG⟩
 ·replace c3 := Bool.eq_false_iff.mpr c3
  subst c3
  have H1 : (some (-1)) = some r := by rw [if_neg (show ¬ (false = true) by decide)] at H; exact H
  clear H
  have H := H1
  clear H1
  obtain rfl := Option.some.inj H
  go_enter Try.func74, Try.ntmps74
  go_wp2_with (first | ((with_reducible refine gate_dst (N := 1) rfl ?_); refine box_event ?hg (N := 1) ?hd (cs := #[.int .i64 a0_0, .int .i64 a0_1, .int .i64 a0_2, .int .i64 a0_3, .int .i64 a0_4, .int .i64 a0_5, .int .i64 a0_6, .int .i64 a0_7, .slice A0_8 l0_8.length c0_8]) (t := 42) ?hr ?_; (case hd => rfl); (case hg => rfl); (case hr => first | (go_simp; done) | (go_simp; rfl)); intro gb187 hg w17 hbox hb; have n0_ := Aside0.mk (below_step (zB) hb); have n1_ := Aside0.mk (hbox); have n2_ := Aside0.mk (zH hg : w.heap.size ≤ gb187); have n3_ := Aside0.mk (zH hg : w.heap.size ≤ gb187); clear HB; have HB := n0_; have BK187 := n1_; have GW187 := n2_; have GE187 := n3_; clear n0_ n1_ n2_ n3_; clear hb hbox hg; obtain ⟨hcz18_0, hcz18_1, hcz18_2, hcz18_3, hcz18_4, hcz18_5, hcz18_6, hcz18_7, hcz18_8⟩ := zc9 BK187.out; obtain ⟨hfz18_0, hfz18_1, hfz18_2, hfz18_3, hfz18_4, hfz18_5, hfz18_6, hfz18_7, hfz18_8⟩ := zf9 BK187.out) | ((with_reducible refine gate_callee (f := 71) rfl ?_); refine goesL_ (some 4) rfl rfl Try.func71 (by kernel_rfl) rfl #[.agg #[.int .i64 a0_0, .int .i64 a0_1, .int .i64 a0_2, .int .i64 a0_3, .int .i64 a0_4, .int .i64 a0_5, .int .i64 a0_6, .int .i64 a0_7, .slice A0_8 l0_8.length c0_8]] rfl zE ?_; (with_reducible refine (instr_Right.calls k a0_0 a0_1 a0_2 a0_3 a0_4 a0_5 a0_6 a0_7 _ _ l0_8 false _ ?side1 ?side2 A2.out).mono ?_); (case side1 => exact zC (Kd.C_below HR0_8.out HB.out)); (case side2 => exact HC0_8.out); rintro e w19 ⟨rfl, hb⟩; refine ⟨_, rfl, ?_⟩; have n0_ := Aside0.mk (blk_below (g := gb187) (o := .cells #[.int .i64 a0_0, .int .i64 a0_1, .int .i64 a0_2, .int .i64 a0_3, .int .i64 a0_4, .int .i64 a0_5, .int .i64 a0_6, .int .i64 a0_7, .slice A0_8 l0_8.length c0_8] 42 (0, 0)) (zK BK187.out) hb); have n1_ := Aside0.mk (below_step (zG) hb); clear BK187; clear HB; have BK187 := n0_; have HB := n1_; clear n0_ n1_; (try clear hb); (try clear hb2); (try clear hk); (try clear hi)))
  go_ret
  exact ⟨zV, zG⟩
end Go.Proofs.Ytgbpkbfghonllaa.P
namespace Go.Proofs.Ytgbpkbfghonllaa.Pure
open Go.RowKit Go.Proofs.Ytgbpkbfghonllaa.P Go.Proofs.YtgbpkbfghonllaaW.PrintWords Go.Proofs.YtgbpkbfghonllaaW.PrintLast Go.Proofs.YtgbpkbfghonllaaW.PrintMore
theorem minTo_all (l : List Int) : ∀ j, j < l.length → (0 ≤ minTo l j ↔ ∀ i, i ≤ j → 0 ≤ rd l (i : Int)) := by
 intro j
 induction j with
 | zero =>
  intro _
  constructor
  ·intro h i hi
   obtain rfl : i = 0 := by omega
   exact h
  ·intro h; exact h 0 (by omega)
 | succ j ih =>
  intro hj
  have := ih (by omega)
  show 0 ≤ mn (minTo l j) (rd l ((j + 1 : Nat) : Int)) ↔ _
  have e : 0 ≤ mn (minTo l j) (rd l ((j + 1 : Nat) : Int)) ↔ 0 ≤ minTo l j ∧ 0 ≤ rd l ((j + 1 : Nat) : Int) := by
   unfold mn
   split <;> omega
  rw [e, this]
  constructor
  ·rintro ⟨h1, h2⟩ i hi
   by_cases hij : i = j + 1
   ·subst hij; exact h2
   ·exact h1 i (by omega)
  ·intro h
   exact ⟨fun i hi => h i (by omega), h (j + 1) (by omega)⟩
def nonneg (l : List Int) : Bool := l.all (fun x => decide (0 ≤ x))
theorem nonneg_iff (l : List Int) : nonneg l = true ↔ ∀ i, i < l.length → 0 ≤ rd l (i : Int) := by
 unfold nonneg
 rw [List.all_eq_true]
 constructor
 ·intro h i hi
  rw [rd_nat l i hi]
  simpa using h _ (List.getElem_mem hi)
 ·intro h x hx
  obtain ⟨i, hi, rfl⟩ := List.getElem_of_mem hx
  have := h i hi
  rw [rd_nat l i hi] at this
  simpa using this
theorem min_val (l : List Int) (h0 : 0 < l.length) (h1 : l.length < 4611686018427387904) : ∃ m, slices_Min_int_int.f l = some m ∧ decide (m ≥ 0) = nonneg l := by
 refine ⟨_, if_pos ⟨h0, h1⟩, ?_⟩
 rw [Bool.eq_iff_iff, nonneg_iff, decide_eq_true_iff]
 show 0 ≤ _ ↔ _
 rw [minTo_all l _ (by omega)]
 exact ⟨fun h i hi => h i (by omega), fun h i hi => h i (by omega)⟩
def bt (h b : Int) : Bool := decide (Go.bits .and .i64 h b ≠ 0)
def fitV2 (h : Int) (s : S96) : Bool := decide (0 ≤ s.f1) && (bt h s.f0 || decide (s.f1 = 0))
def argsV (h op : Int) (l : List Int) : Bool := if l.length = 0 then !bt h 1024 else bt h 512 && !(decide (op = 39) && decide (8 < l.length)) && nonneg l
theorem rd_S52 (l : List S96) (i : Nat) (h : i < l.length) : rd_T96 l (i : Int) = l[i] := by simp [rd_T96, List.getD_eq_getElem?_getD, h]
theorem right_tail_ev (h op : Int) (xs : List S96) (l : List Int) (a1 a2 a3 a4 a5 a6 a7 : Int) (hl : l.length < 4611686018427387904) (k : Nat) :
  instr_Right.l0 (k + 1) h xs (xs.length : Int) ((xs.length : Nat) : Int) op a1 a2 a3 a4 a5 a6 a7 l = some (argsV h op l) := by
 rw [instr_Right.l0, if_neg (by omega)]
 unfold argsV bt
 by_cases h0 : l.length = 0
 ·rw [if_neg (by omega), if_pos (by omega), if_pos h0]
  by_cases c : Go.bits .and .i64 h 1024 = 0
  ·rw [if_pos c]
   split
   ·rw [if_neg (by omega)]; simp [c]
   ·simp [c]
  ·rw [if_neg c]; simp [c]
 ·obtain ⟨m, hm, he⟩ := min_val l (by omega) hl
  rw [if_pos (by omega), if_neg h0]
  by_cases c : Go.bits .and .i64 h 512 = 0
  ·rw [if_pos c]; simp [c]
  ·rw [if_neg c, if_neg (by omega)]
   by_cases c2 : op = 39
   ·rw [if_pos c2]
    by_cases c3 : (l.length : Int) > 8
    ·rw [if_pos c3]; simp [c2]; intro _ h8; omega
    ·rw [if_neg c3, hm, Option.bind_some, he]
     have : ¬ 8 < l.length := by omega
     simp [c, c2, this]
   ·rw [if_neg c2, hm, Option.bind_some, he]; simp [c, c2]
theorem right_loop (h op : Int) (xs : List S96) (l : List Int) (a1 a2 a3 a4 a5 a6 a7 : Int) (hl : l.length < 4611686018427387904) (hx : xs.length < 1000) : ∀ d i, xs.length - i = d → i ≤ xs.length →
  Ev (fun k => instr_Right.l0 k h xs (xs.length : Int) (i : Int) op a1 a2 a3 a4 a5 a6 a7 l) ((xs.drop i).all (fitV2 h) && argsV h op l) := by
 intro d
 induction d with
 | zero =>
  intro i hd hi
  obtain rfl : i = xs.length := by omega
  have := Ev.step (g := fun k => instr_Right.l0 k h xs (xs.length : Int) ((xs.length : Nat) : Int) op a1 a2 a3 a4 a5 a6 a7 l) (fun k => right_tail_ev h op xs l a1 a2 a3 a4 a5 a6 a7 hl k) (Ev.now _)
  simpa using this
 | succ d ih =>
  intro i hd hi
  have hlt : i < xs.length := by omega
  rw [List.drop_eq_getElem_cons hlt, List.all_cons]
  by_cases c1 : (xs[i]).f1 < 0
  ·have e : fitV2 h xs[i] = false := by simp [fitV2]; intro _; omega
   rw [e, Bool.false_and, Bool.false_and]
   refine Ev.step (f := fun _ => some false) (fun k => ?_) (Ev.now _)
   rw [instr_Right.l0, if_pos (by omega), if_pos (by omega), if_pos (by omega), if_pos (by rw [rd_S52 xs i hlt]; exact c1)]
  ·by_cases c2 : Go.bits .and .i64 h (xs[i]).f0 = 0 ∧ (xs[i]).f1 ≠ 0
   ·have e : fitV2 h xs[i] = false := by simp [fitV2, bt, c2.1, c2.2]
    rw [e, Bool.false_and, Bool.false_and]
    refine Ev.step (f := fun _ => some false) (fun k => ?_) (Ev.now _)
    rw [instr_Right.l0, if_pos (by omega), if_pos (by omega), if_pos (by omega), if_neg (by rw [rd_S52 xs i hlt]; exact c1), if_pos (by rw [rd_S52 xs i hlt]; exact c2.1), if_neg (by rw [rd_S52 xs i hlt]; exact c2.2)]
   ·have e : fitV2 h xs[i] = true := by
     have : 0 ≤ (xs[i]).f1 := by omega
     simp only [fitV2, bt, decide_eq_true this, Bool.true_and, Bool.or_eq_true, decide_eq_true_iff]
     by_cases c3 : Go.bits .and .i64 h (xs[i]).f0 = 0
     ·exact .inr (Classical.byContradiction (fun c4 => c2 ⟨c3, c4⟩))
     ·exact .inl c3
    rw [e, Bool.true_and]
    refine Ev.step (f := fun k => instr_Right.l0 k h xs (xs.length : Int) ((i + 1 : Nat) : Int) op a1 a2 a3 a4 a5 a6 a7 l) (fun k => ?_) (ih (i + 1) (by omega) (by omega))
    rw [instr_Right.l0, if_pos (by omega), if_pos (by omega), if_pos (by omega), if_neg (by rw [rd_S52 xs i hlt]; exact c1), rd_S52 xs i hlt, wrap_succ i (by omega)]
    by_cases c3 : Go.bits .and .i64 h (xs[i]).f0 = 0
    ·rw [if_pos c3, if_pos (Classical.byContradiction (fun c4 => c2 ⟨c3, c4⟩))]
    ·rw [if_neg c3]
def fieldsV (h n m b : Int) : Bool :=
 (bt h 16 || (if bt h 32 then decide (n = 0 ∨ n = 1) else decide (0 ≤ n) && (bt h 64 || decide (n = 0)))) &&
 (if bt h 128 then decide (0 ≤ m) && decide (m ≠ n) else if bt h 2048 then decide (3 ≤ m ∧ m ≤ 8 ∨ m = 20 ∨ m = 21) && (decide (m ≠ 21) || decide (b = 0)) else decide (m = 0))
theorem tells_val (m : Int) : instr_tells.f m = some (decide (3 ≤ m ∧ m ≤ 8 ∨ m = 20 ∨ m = 21)) := by
 unfold instr_tells.f
 repeat' split
 all_goals
  congr 1
  first | (rw [Bool.eq_iff_iff]; simp; omega) | (apply Eq.symm; simp; omega)
theorem fields_j (h a0 a1 a2 a3 a4 a5 a6 a7 : Int) (l : List Int) (k : Nat) : instr_fields.j0 (k + 1) h a0 a1 a2 a3 a4 a5 a6 a7 l = some (if bt h 128 then decide (0 ≤ a6) && decide (a6 ≠ a5) else if bt h 2048 then decide (3 ≤ a6 ∧ a6 ≤ 8 ∨ a6 = 20 ∨ a6 = 21) && (decide (a6 ≠ 21) || decide (a3 = 0)) else decide (a6 = 0)) := by
 rw [instr_fields.j0, tells_val]
 unfold bt
 by_cases c1 : Go.bits .and .i64 h 128 = 0
 ·rw [if_pos c1]
  by_cases c2 : Go.bits .and .i64 h 2048 = 0
  ·rw [if_pos c2]; simp [c1, c2, Bool.beq_eq_decide_eq]
  ·rw [if_neg c2, Option.bind_some]
   by_cases c3 : 3 ≤ a6 ∧ a6 ≤ 8 ∨ a6 = 20 ∨ a6 = 21
   ·rw [decide_eq_true c3, if_pos rfl]
    by_cases c4 : a6 = 21
    ·rw [if_pos c4]; simp [c1, c2, c4, Bool.beq_eq_decide_eq]
    ·rw [if_neg c4]; simp [c1, c2, c4]
   ·rw [decide_eq_false c3, if_neg (by simp)]; simp [c1, c2]
 ·rw [if_neg c1]
  by_cases c3 : a6 ≥ 0
  ·rw [if_pos c3]; have : 0 ≤ a6 := c3; simp [c1, this, bne, Bool.beq_eq_decide_eq]
  ·rw [if_neg c3]; have : ¬ 0 ≤ a6 := c3; simp [c1, this]
theorem fields_val (h a0 a1 a2 a3 a4 a5 a6 a7 : Int) (l : List Int) (k : Nat) : instr_fields.f (k + 1) a0 a1 a2 a3 a4 a5 a6 a7 l h = some (fieldsV h a5 a6 a3) := by
 unfold instr_fields.f
 rw [fields_j]
 unfold fieldsV
 generalize (if bt h 128 then decide (0 ≤ a6) && decide (a6 ≠ a5) else if bt h 2048 then decide (3 ≤ a6 ∧ a6 ≤ 8 ∨ a6 = 20 ∨ a6 = 21) && (decide (a6 ≠ 21) || decide (a3 = 0)) else decide (a6 = 0)) = T
 unfold bt
 by_cases c1 : Go.bits .and .i64 h 16 = 0
 ·rw [if_pos c1]
  by_cases c2 : Go.bits .and .i64 h 32 = 0
  ·rw [if_pos c2]
   by_cases c3 : a5 < 0
   ·rw [if_pos c3]; have : ¬ 0 ≤ a5 := by omega
    simp [c1, c2, this]
   ·rw [if_neg c3]; have : 0 ≤ a5 := by omega
    by_cases c4 : Go.bits .and .i64 h 64 = 0
    ·rw [if_pos c4]
     by_cases c5 : a5 = 0
     ·rw [if_pos c5]; simp [c1, c2, c4, c5]
     ·rw [if_neg c5]; simp [c1, c2, c4, c5]
    ·rw [if_neg c4]; simp [c1, c2, c4, this]
  ·rw [if_neg c2]
   by_cases c5 : a5 = 0
   ·rw [if_pos c5]; simp [c1, c2, c5]
   ·rw [if_neg c5]
    by_cases c6 : a5 = 1
    ·rw [if_pos c6]; simp [c1, c2, c6]
    ·rw [if_neg c6]; simp [c1, c2, c5, c6]
 ·rw [if_neg c1]; simp [c1]
def rightV2 (op dst a b c n m site : Int) (l : List Int) : Bool :=
 decide (hasV op ≠ 0) && fieldsV (hasV op) n m b && (([⟨1, dst⟩, ⟨2, a⟩, ⟨4, b⟩, ⟨8, c⟩, ⟨256, site⟩] : List S96).all (fitV2 (hasV op)) && argsV (hasV op) op l)
theorem right_ev2 (op dst a b c n m site : Int) (l : List Int) (hl : l.length < 4611686018427387904) : Ev (fun k => instr_Right.f k op dst a b c n m site l) (rightV2 op dst a b c n m site l) := by
 unfold instr_Right.f instr_has.f rightV2
 by_cases h0 : hasV op = 0
 ·refine Ev.congr (f := fun k => instr_Right.j0 k (hasV op) true op dst a b c n m site l) (fun k => by rw [Option.bind_some, if_pos h0]) ?_
  refine Ev.step (f := fun _ => some false) (fun k => by rw [instr_Right.j0, if_pos rfl]) ?_
  simp only [h0, ne_eq, not_true, decide_false, Bool.false_and]
  exact Ev.now _
 ·have key : Ev (fun k => (instr_fields.f k op dst a b c n m site l (hasV op)).bind fun t => instr_Right.j0 k (hasV op) (!t) op dst a b c n m site l) (decide (hasV op ≠ 0) && fieldsV (hasV op) n m b && (([⟨1, dst⟩, ⟨2, a⟩, ⟨4, b⟩, ⟨8, c⟩, ⟨256, site⟩] : List S96).all (fitV2 (hasV op)) && argsV (hasV op) op l)) := by
   refine Ev.step (f := fun k => instr_Right.j0 (k + 1) (hasV op) (!(fieldsV (hasV op) n m b)) op dst a b c n m site l) (fun k => by rw [fields_val, Option.bind_some]) ?_
   rw [decide_eq_true h0, Bool.true_and]
   cases hf : fieldsV (hasV op) n m b with
   | false =>
    rw [Bool.false_and]
    exact Ev.congr (fun k => by rw [instr_Right.j0, if_pos (by rfl)]) (Ev.now _)
   | true =>
    rw [Bool.true_and]
    refine Ev.congr (f := fun k => instr_Right.l0 k (hasV op) ([⟨1, dst⟩, ⟨2, a⟩, ⟨4, b⟩, ⟨8, c⟩, ⟨256, site⟩] : List S96) ((([⟨1, dst⟩, ⟨2, a⟩, ⟨4, b⟩, ⟨8, c⟩, ⟨256, site⟩] : List S96).length : Nat) : Int) ((0 : Nat) : Int) op dst a b c n m site l) (fun k => by rw [instr_Right.j0, if_neg (by simp), Option.bind_some]; rfl) ?_
    exact right_loop (hasV op) op ([⟨1, dst⟩, ⟨2, a⟩, ⟨4, b⟩, ⟨8, c⟩, ⟨256, site⟩] : List S96) l dst a b c n m site hl (by simp) _ 0 rfl (by omega)
  exact Ev.congr (fun k => by rw [Option.bind_some, if_neg h0]) key
end Go.Proofs.Ytgbpkbfghonllaa.Pure

/- A part of it. -/
import Derived.Test.YtgbpkbfghonllaaFcZ
import Derived.Test.YtgbpkbfghonllaaFcP0
import Derived.Test.YtgbpkbfghonllaaFcM23
import Derived.Test.YtgbpkbfghonllaaFcP4
namespace Go.Proofs.Ytgbpkbfghonllaa.P
open Go.RowKit Go.Proofs.YtgbpkbfghonllaaW.PrintWords Go.Proofs.YtgbpkbfghonllaaW.PrintLast Go.Proofs.YtgbpkbfghonllaaW.PrintMore
attribute [local go_sem] max2_int min2_int max_two min_two max_three min_three max_four min_four   
set_option linter.unusedVariables false
set_option linter.unusedSimpArgs false
def balustraderef15_Def.f (a0_0 : Int) (a0_1 : Int) (a0_2 : Int) (a0_3 : Int) (a0_4 : Int) (a0_5 : Int) (a0_6 : Int) (a0_7 : Int) (l0_8 : List Int) : Option (Int) := (balustraderef15_Right.f a0_0 a0_1 a0_2 a0_3 a0_4 a0_5 a0_6 a0_7 l0_8).bind fun t147 => (if t147 = true then ((balustraderef15_Writes.f a0_0).bind fun t148 => (if t148 = true then (some a0_1) else (some (-1)))) else (some (-1)))
set_option maxHeartbeats 8000000 in
set_option maxRecDepth 100000 in
theorem balustraderef15_Def.calls (a0_0 : Int) (a0_1 : Int) (a0_2 : Int) (a0_3 : Int) (a0_4 : Int) (a0_5 : Int) (a0_6 : Int) (a0_7 : Int) (A0_8 : Option Addr) (c0_8 : Nat) (l0_8 : List Int) (r : Int) (w : World) (hr0_8 : Kd.C (Kd.int .i64) w A0_8 l0_8.length l0_8) (hc0_8 : l0_8.length ≤ c0_8) (h : balustraderef15_Def.f a0_0 a0_1 a0_2 a0_3 a0_4 a0_5 a0_6 a0_7 l0_8 = some r) :
  Calls Try.prog 17 #[.agg #[.int .i64 a0_0, .int .i64 a0_1, .int .i64 a0_2, .int .i64 a0_3, .int .i64 a0_4, .int .i64 a0_5, .int .i64 a0_6, .int .i64 a0_7, .slice A0_8 l0_8.length c0_8]] w fun e w' => e = .returned (.int .i64 r) ∧ Below w.heap.size w w' := by
 have hu42 := Try.underlying42
 have HR0_8 := Aside0.mk hr0_8
 have HC0_8 := Aside0.mk hc0_8
 clear hr0_8 hc0_8
 have HB := Aside0.mk (Below.refl w.heap.size w)
 have H : ((balustraderef15_Right.f a0_0 a0_1 a0_2 a0_3 a0_4 a0_5 a0_6 a0_7 l0_8).bind fun t147 => (if t147 = true then ((balustraderef15_Writes.f a0_0).bind fun t148 => (if t148 = true then (some a0_1) else (some (-1)))) else (some (-1)))) = some r := h
 clear h
 replace H := Option.bind_eq_some_iff.mp H
 obtain ⟨t147, A20, H⟩ := H
 replace H : (if t147 = true then ((balustraderef15_Writes.f a0_0).bind fun t148 => (if t148 = true then (some a0_1) else (some (-1)))) else (some (-1))) = some r := H
 have A2 := Aside0.mk A20
 clear A20
 by_cases c3 : t147 = true
 ·subst c3
  have H1 : ((balustraderef15_Writes.f a0_0).bind fun t148 => (if t148 = true then (some a0_1) else (some (-1)))) = some r := by rw [if_pos rfl] at H; exact H
  clear H
  have H := H1
  clear H1
  replace H := Option.bind_eq_some_iff.mp H
  obtain ⟨t148, A40, H⟩ := H
  replace H : (if t148 = true then (some a0_1) else (some (-1))) = some r := H
  have A4 := Aside0.mk A40
  clear A40
  by_cases c5 : t148 = true
  ·subst c5
   have H1 : (some a0_1) = some r := by rw [if_pos rfl] at H; exact H
   clear H
   have H := H1
   clear H1
   obtain rfl := Option.some.inj H
   go_enter Try.func17, Try.ntmps17
   go_wp2_with (first | ((with_reducible refine gate_dst (N := 1) rfl ?_); refine box_event ?hg (N := 1) ?hd (cs := #[.int .i64 a0_0, .int .i64 a0_1, .int .i64 a0_2, .int .i64 a0_3, .int .i64 a0_4, .int .i64 a0_5, .int .i64 a0_6, .int .i64 a0_7, .slice A0_8 l0_8.length c0_8]) (t := 42) ?hr ?_; (case hd => rfl); (case hg => rfl); (case hr => first | (go_simp; done) | (go_simp; rfl)); intro gb146 hg w6 hbox hb; have n0_ := Aside0.mk (below_step (zB) hb); have n1_ := Aside0.mk (hbox); have n2_ := Aside0.mk (zH hg : w.heap.size ≤ gb146); have n3_ := Aside0.mk (zH hg : w.heap.size ≤ gb146); clear HB; have HB := n0_; have BK146 := n1_; have GW146 := n2_; have GE146 := n3_; clear n0_ n1_ n2_ n3_; clear hb hbox hg; obtain ⟨hcz7_0, hcz7_1, hcz7_2, hcz7_3, hcz7_4, hcz7_5, hcz7_6, hcz7_7, hcz7_8⟩ := zc9 BK146.out; obtain ⟨hfz7_0, hfz7_1, hfz7_2, hfz7_3, hfz7_4, hfz7_5, hfz7_6, hfz7_7, hfz7_8⟩ := zf9 BK146.out) | ((with_reducible refine gate_callee (f := 31) rfl ?_); refine goesL_ (some 4) rfl rfl Try.func31 (by kernel_rfl) rfl #[.agg #[.int .i64 a0_0, .int .i64 a0_1, .int .i64 a0_2, .int .i64 a0_3, .int .i64 a0_4, .int .i64 a0_5, .int .i64 a0_6, .int .i64 a0_7, .slice A0_8 l0_8.length c0_8]] rfl zE ?_; (with_reducible refine (balustraderef15_Right.calls a0_0 a0_1 a0_2 a0_3 a0_4 a0_5 a0_6 a0_7 _ _ l0_8 true _ ?side1 ?side2 A2.out).mono ?_); (case side1 => exact zC (Kd.C_below HR0_8.out HB.out)); (case side2 => exact HC0_8.out); rintro e w8 ⟨rfl, hb⟩; refine ⟨_, rfl, ?_⟩; have n0_ := Aside0.mk (blk_below (g := gb146) (o := .cells #[.int .i64 a0_0, .int .i64 a0_1, .int .i64 a0_2, .int .i64 a0_3, .int .i64 a0_4, .int .i64 a0_5, .int .i64 a0_6, .int .i64 a0_7, .slice A0_8 l0_8.length c0_8] 42 (0, 0)) (zK BK146.out) hb); have n1_ := Aside0.mk (below_step (zG) hb); clear BK146; clear HB; have BK146 := n0_; have HB := n1_; clear n0_ n1_; (try clear hb); (try clear hb2); (try clear hk); (try clear hi); obtain ⟨hcz9_0, hcz9_1, hcz9_2, hcz9_3, hcz9_4, hcz9_5, hcz9_6, hcz9_7, hcz9_8⟩ := zc9 BK146.out; obtain ⟨hfz9_0, hfz9_1, hfz9_2, hfz9_3, hfz9_4, hfz9_5, hfz9_6, hfz9_7, hfz9_8⟩ := zf9 BK146.out) | (go_at_call 34; (with_reducible refine (balustraderef15_Writes.calls a0_0 true _ A4.out).mono ?_); rintro e w' ⟨rfl, ⟨nd, rfl⟩⟩))
   go_ret
   exact ⟨zV, zG⟩
  ·replace c5 := Bool.eq_false_iff.mpr c5
   subst c5
   have H1 : (some (-1)) = some r := by rw [if_neg (show ¬ (false = true) by decide)] at H; exact H
   clear H
   have H := H1
   clear H1
   obtain rfl := Option.some.inj H
   go_enter Try.func17, Try.ntmps17
   go_wp2_with (first | ((with_reducible refine gate_dst (N := 1) rfl ?_); refine box_event ?hg (N := 1) ?hd (cs := #[.int .i64 a0_0, .int .i64 a0_1, .int .i64 a0_2, .int .i64 a0_3, .int .i64 a0_4, .int .i64 a0_5, .int .i64 a0_6, .int .i64 a0_7, .slice A0_8 l0_8.length c0_8]) (t := 42) ?hr ?_; (case hd => rfl); (case hg => rfl); (case hr => first | (go_simp; done) | (go_simp; rfl)); intro gb146 hg w10 hbox hb; have n0_ := Aside0.mk (below_step (zB) hb); have n1_ := Aside0.mk (hbox); have n2_ := Aside0.mk (zH hg : w.heap.size ≤ gb146); have n3_ := Aside0.mk (zH hg : w.heap.size ≤ gb146); clear HB; have HB := n0_; have BK146 := n1_; have GW146 := n2_; have GE146 := n3_; clear n0_ n1_ n2_ n3_; clear hb hbox hg; obtain ⟨hcz11_0, hcz11_1, hcz11_2, hcz11_3, hcz11_4, hcz11_5, hcz11_6, hcz11_7, hcz11_8⟩ := zc9 BK146.out; obtain ⟨hfz11_0, hfz11_1, hfz11_2, hfz11_3, hfz11_4, hfz11_5, hfz11_6, hfz11_7, hfz11_8⟩ := zf9 BK146.out) | ((with_reducible refine gate_callee (f := 31) rfl ?_); refine goesL_ (some 4) rfl rfl Try.func31 (by kernel_rfl) rfl #[.agg #[.int .i64 a0_0, .int .i64 a0_1, .int .i64 a0_2, .int .i64 a0_3, .int .i64 a0_4, .int .i64 a0_5, .int .i64 a0_6, .int .i64 a0_7, .slice A0_8 l0_8.length c0_8]] rfl zE ?_; (with_reducible refine (balustraderef15_Right.calls a0_0 a0_1 a0_2 a0_3 a0_4 a0_5 a0_6 a0_7 _ _ l0_8 true _ ?side1 ?side2 A2.out).mono ?_); (case side1 => exact zC (Kd.C_below HR0_8.out HB.out)); (case side2 => exact HC0_8.out); rintro e w12 ⟨rfl, hb⟩; refine ⟨_, rfl, ?_⟩; have n0_ := Aside0.mk (blk_below (g := gb146) (o := .cells #[.int .i64 a0_0, .int .i64 a0_1, .int .i64 a0_2, .int .i64 a0_3, .int .i64 a0_4, .int .i64 a0_5, .int .i64 a0_6, .int .i64 a0_7, .slice A0_8 l0_8.length c0_8] 42 (0, 0)) (zK BK146.out) hb); have n1_ := Aside0.mk (below_step (zG) hb); clear BK146; clear HB; have BK146 := n0_; have HB := n1_; clear n0_ n1_; (try clear hb); (try clear hb2); (try clear hk); (try clear hi); obtain ⟨hcz13_0, hcz13_1, hcz13_2, hcz13_3, hcz13_4, hcz13_5, hcz13_6, hcz13_7, hcz13_8⟩ := zc9 BK146.out; obtain ⟨hfz13_0, hfz13_1, hfz13_2, hfz13_3, hfz13_4, hfz13_5, hfz13_6, hfz13_7, hfz13_8⟩ := zf9 BK146.out) | (go_at_call 34; (with_reducible refine (balustraderef15_Writes.calls a0_0 false _ A4.out).mono ?_); rintro e w' ⟨rfl, ⟨nd, rfl⟩⟩))
   go_ret
   exact ⟨zV, zG⟩
 ·replace c3 := Bool.eq_false_iff.mpr c3
  subst c3
  have H1 : (some (-1)) = some r := by rw [if_neg (show ¬ (false = true) by decide)] at H; exact H
  clear H
  have H := H1
  clear H1
  obtain rfl := Option.some.inj H
  go_enter Try.func17, Try.ntmps17
  go_wp2_with (first | ((with_reducible refine gate_dst (N := 1) rfl ?_); refine box_event ?hg (N := 1) ?hd (cs := #[.int .i64 a0_0, .int .i64 a0_1, .int .i64 a0_2, .int .i64 a0_3, .int .i64 a0_4, .int .i64 a0_5, .int .i64 a0_6, .int .i64 a0_7, .slice A0_8 l0_8.length c0_8]) (t := 42) ?hr ?_; (case hd => rfl); (case hg => rfl); (case hr => first | (go_simp; done) | (go_simp; rfl)); intro gb146 hg w14 hbox hb; have n0_ := Aside0.mk (below_step (zB) hb); have n1_ := Aside0.mk (hbox); have n2_ := Aside0.mk (zH hg : w.heap.size ≤ gb146); have n3_ := Aside0.mk (zH hg : w.heap.size ≤ gb146); clear HB; have HB := n0_; have BK146 := n1_; have GW146 := n2_; have GE146 := n3_; clear n0_ n1_ n2_ n3_; clear hb hbox hg; obtain ⟨hcz15_0, hcz15_1, hcz15_2, hcz15_3, hcz15_4, hcz15_5, hcz15_6, hcz15_7, hcz15_8⟩ := zc9 BK146.out; obtain ⟨hfz15_0, hfz15_1, hfz15_2, hfz15_3, hfz15_4, hfz15_5, hfz15_6, hfz15_7, hfz15_8⟩ := zf9 BK146.out) | ((with_reducible refine gate_callee (f := 31) rfl ?_); refine goesL_ (some 4) rfl rfl Try.func31 (by kernel_rfl) rfl #[.agg #[.int .i64 a0_0, .int .i64 a0_1, .int .i64 a0_2, .int .i64 a0_3, .int .i64 a0_4, .int .i64 a0_5, .int .i64 a0_6, .int .i64 a0_7, .slice A0_8 l0_8.length c0_8]] rfl zE ?_; (with_reducible refine (balustraderef15_Right.calls a0_0 a0_1 a0_2 a0_3 a0_4 a0_5 a0_6 a0_7 _ _ l0_8 false _ ?side1 ?side2 A2.out).mono ?_); (case side1 => exact zC (Kd.C_below HR0_8.out HB.out)); (case side2 => exact HC0_8.out); rintro e w16 ⟨rfl, hb⟩; refine ⟨_, rfl, ?_⟩; have n0_ := Aside0.mk (blk_below (g := gb146) (o := .cells #[.int .i64 a0_0, .int .i64 a0_1, .int .i64 a0_2, .int .i64 a0_3, .int .i64 a0_4, .int .i64 a0_5, .int .i64 a0_6, .int .i64 a0_7, .slice A0_8 l0_8.length c0_8] 42 (0, 0)) (zK BK146.out) hb); have n1_ := Aside0.mk (below_step (zG) hb); clear BK146; clear HB; have BK146 := n0_; have HB := n1_; clear n0_ n1_; (try clear hb); (try clear hb2); (try clear hk); (try clear hi)))
  go_ret
  exact ⟨zV, zG⟩
def balustraderef15_Targets.j0 : Nat → Bool → Int → Int → Int → Int → Int → Int → Int → Int → List Int → Option (List Int)
 | 0, _, _, _, _, _, _, _, _, _, _ => none
 | k + 1, x9, x150000, x150001, x150002, x150003, x150004, x150005, x150006, x150007, x150008 => if x9 = true then (some (([x150005] : List Int))) else ((balustraderef15_Right.f x150000 x150001 x150002 x150003 x150004 x150005 x150006 x150007 x150008).bind fun t154 => (if t154 = true then (if x150000 = 42 then (some (([x150005, x150006] : List Int))) else (some (([] : List Int)))) else (some (([] : List Int)))))
def balustraderef15_Targets.f (k : Nat) (a0_0 : Int) (a0_1 : Int) (a0_2 : Int) (a0_3 : Int) (a0_4 : Int) (a0_5 : Int) (a0_6 : Int) (a0_7 : Int) (l0_8 : List Int) : Option (List Int) := (balustraderef15_Right.f a0_0 a0_1 a0_2 a0_3 a0_4 a0_5 a0_6 a0_7 l0_8).bind fun t150 => (if t150 = true then (balustraderef15_Targets.j0 k (a0_0 == 41) a0_0 a0_1 a0_2 a0_3 a0_4 a0_5 a0_6 a0_7 l0_8) else (balustraderef15_Targets.j0 k false a0_0 a0_1 a0_2 a0_3 a0_4 a0_5 a0_6 a0_7 l0_8))
set_option maxHeartbeats 8000000 in
set_option maxRecDepth 100000 in
theorem balustraderef15_Targets.calls (k : Nat) (a0_0 : Int) (a0_1 : Int) (a0_2 : Int) (a0_3 : Int) (a0_4 : Int) (a0_5 : Int) (a0_6 : Int) (a0_7 : Int) (A0_8 : Option Addr) (c0_8 : Nat) (l0_8 : List Int) (r : List Int) (w : World) (hr0_8 : Kd.C (Kd.int .i64) w A0_8 l0_8.length l0_8) (hc0_8 : l0_8.length ≤ c0_8) (h : balustraderef15_Targets.f k a0_0 a0_1 a0_2 a0_3 a0_4 a0_5 a0_6 a0_7 l0_8 = some r) :
  Calls Try.prog 18 #[.agg #[.int .i64 a0_0, .int .i64 a0_1, .int .i64 a0_2, .int .i64 a0_3, .int .i64 a0_4, .int .i64 a0_5, .int .i64 a0_6, .int .i64 a0_7, .slice A0_8 l0_8.length c0_8]] w fun e w' => ∃ v0_ : Value, e = .returned (v0_) ∧ Kd.R (Kd.int .i64) 3 w' w.heap.size (fun _ => True) v0_ r ∧ Below w.heap.size w w' := by
 have hu42 := Try.underlying42
 have HR0_8 := Aside0.mk hr0_8
 have HC0_8 := Aside0.mk hc0_8
 clear hr0_8 hc0_8
 have HB := Aside0.mk (Below.refl w.heap.size w)
 have H : ((balustraderef15_Right.f a0_0 a0_1 a0_2 a0_3 a0_4 a0_5 a0_6 a0_7 l0_8).bind fun t150 => (if t150 = true then (balustraderef15_Targets.j0 k (a0_0 == 41) a0_0 a0_1 a0_2 a0_3 a0_4 a0_5 a0_6 a0_7 l0_8) else (balustraderef15_Targets.j0 k false a0_0 a0_1 a0_2 a0_3 a0_4 a0_5 a0_6 a0_7 l0_8))) = some r := h
 clear h
 have HC2 := Aside0.mk H
 clear H
 go_enter Try.func18, Try.ntmps18
 go_upto_region 1 with (first | ((with_reducible refine gate_dst (N := 1) rfl ?_); refine box_event ?hg (N := 1) ?hd (cs := #[.int .i64 a0_0, .int .i64 a0_1, .int .i64 a0_2, .int .i64 a0_3, .int .i64 a0_4, .int .i64 a0_5, .int .i64 a0_6, .int .i64 a0_7, .slice A0_8 l0_8.length c0_8]) (t := 42) ?hr ?_; (case hd => rfl); (case hg => rfl); (case hr => first | (go_simp; done) | (go_simp; rfl)); intro gb149 hg w3 hbox hb; have n0_ := Aside0.mk (below_step (zB) hb); have n1_ := Aside0.mk (hbox); have n2_ := Aside0.mk (zH hg : w.heap.size ≤ gb149); have n3_ := Aside0.mk (zH hg : w.heap.size ≤ gb149); clear HB; have HB := n0_; have BK149 := n1_; have GW149 := n2_; have GE149 := n3_; clear n0_ n1_ n2_ n3_; clear hb hbox hg))
 (try simp only [Act.put, List.setIfInBounds_toArray, List.set_cons_zero, List.set_cons_succ])
 go_cut [9] (fun v9 wc => ∃ (kq : Nat) (x9_1 : Bool), v9 = .bool x9_1 ∧ Aside0 (balustraderef15_Targets.j0 kq x9_1 a0_0 a0_1 a0_2 a0_3 a0_4 a0_5 a0_6 a0_7 l0_8 = some r) ∧ Aside0 (kq ≤ k) ∧ Aside0 (wc.heap[gb149]? = some (.cells #[.int .i64 a0_0, .int .i64 a0_1, .int .i64 a0_2, .int .i64 a0_3, .int .i64 a0_4, .int .i64 a0_5, .int .i64 a0_6, .int .i64 a0_7, (.slice A0_8 l0_8.length c0_8)] 42 (0, 0))) ∧ Aside0 (Below w.heap.size w wc))
 case first =>
  have H := HC2.out
  clear HC2
  replace H := Option.bind_eq_some_iff.mp H
  obtain ⟨t150, A40, H⟩ := H
  replace H : (if t150 = true then (balustraderef15_Targets.j0 k (a0_0 == 41) a0_0 a0_1 a0_2 a0_3 a0_4 a0_5 a0_6 a0_7 l0_8) else (balustraderef15_Targets.j0 k false a0_0 a0_1 a0_2 a0_3 a0_4 a0_5 a0_6 a0_7 l0_8)) = some r := H
  have A4 := Aside0.mk A40
  clear A40
  by_cases c5 : t150 = true
  ·subst c5
   have H1 : (balustraderef15_Targets.j0 k (a0_0 == 41) a0_0 a0_1 a0_2 a0_3 a0_4 a0_5 a0_6 a0_7 l0_8) = some r := by rw [if_pos rfl] at H; exact H
   clear H
   have H := H1
   clear H1
   have H' := Aside0.mk H
   clear H
   obtain ⟨hcz6_0, hcz6_1, hcz6_2, hcz6_3, hcz6_4, hcz6_5, hcz6_6, hcz6_7, hcz6_8⟩ := zc9 BK149.out
   obtain ⟨hfz6_0, hfz6_1, hfz6_2, hfz6_3, hfz6_4, hfz6_5, hfz6_6, hfz6_7, hfz6_8⟩ := zf9 BK149.out
   go_wp2_with (first | ((with_reducible refine gate_callee (f := 31) rfl ?_); refine goesL_ (some 4) rfl rfl Try.func31 (by kernel_rfl) rfl #[.agg #[.int .i64 a0_0, .int .i64 a0_1, .int .i64 a0_2, .int .i64 a0_3, .int .i64 a0_4, .int .i64 a0_5, .int .i64 a0_6, .int .i64 a0_7, .slice A0_8 l0_8.length c0_8]] rfl zE ?_; (with_reducible refine (balustraderef15_Right.calls a0_0 a0_1 a0_2 a0_3 a0_4 a0_5 a0_6 a0_7 _ _ l0_8 true _ ?side1 ?side2 A4.out).mono ?_); (case side1 => exact zC (Kd.C_below HR0_8.out HB.out)); (case side2 => exact HC0_8.out); rintro e w7 ⟨rfl, hb⟩; refine ⟨_, rfl, ?_⟩; have n0_ := Aside0.mk (blk_below (g := gb149) (o := .cells #[.int .i64 a0_0, .int .i64 a0_1, .int .i64 a0_2, .int .i64 a0_3, .int .i64 a0_4, .int .i64 a0_5, .int .i64 a0_6, .int .i64 a0_7, .slice A0_8 l0_8.length c0_8] 42 (0, 0)) (zK BK149.out) hb); have n1_ := Aside0.mk (below_step (zG) hb); clear BK149; clear HB; have BK149 := n0_; have HB := n1_; clear n0_ n1_; (try clear hb); (try clear hb2); (try clear hk); (try clear hi); obtain ⟨hcz8_0, hcz8_1, hcz8_2, hcz8_3, hcz8_4, hcz8_5, hcz8_6, hcz8_7, hcz8_8⟩ := zc9 BK149.out; obtain ⟨hfz8_0, hfz8_1, hfz8_2, hfz8_3, hfz8_4, hfz8_5, hfz8_6, hfz8_7, hfz8_8⟩ := zf9 BK149.out))
   go_meet
   case rel => exact ⟨_, ((a0_0 == 41)), zQ, H', ⟨by first | omega | exact Nat.le_refl _⟩, ⟨zK BK149.out⟩, ⟨zG⟩⟩
  ·replace c5 := Bool.eq_false_iff.mpr c5
   subst c5
   have H1 : (balustraderef15_Targets.j0 k false a0_0 a0_1 a0_2 a0_3 a0_4 a0_5 a0_6 a0_7 l0_8) = some r := by rw [if_neg (show ¬ (false = true) by decide)] at H; exact H
   clear H
   have H := H1
   clear H1
   have H' := Aside0.mk H
   clear H
   obtain ⟨hcz9_0, hcz9_1, hcz9_2, hcz9_3, hcz9_4, hcz9_5, hcz9_6, hcz9_7, hcz9_8⟩ := zc9 BK149.out
   obtain ⟨hfz9_0, hfz9_1, hfz9_2, hfz9_3, hfz9_4, hfz9_5, hfz9_6, hfz9_7, hfz9_8⟩ := zf9 BK149.out
   go_wp2_with (first | ((with_reducible refine gate_callee (f := 31) rfl ?_); refine goesL_ (some 4) rfl rfl Try.func31 (by kernel_rfl) rfl #[.agg #[.int .i64 a0_0, .int .i64 a0_1, .int .i64 a0_2, .int .i64 a0_3, .int .i64 a0_4, .int .i64 a0_5, .int .i64 a0_6, .int .i64 a0_7, .slice A0_8 l0_8.length c0_8]] rfl zE ?_; (with_reducible refine (balustraderef15_Right.calls a0_0 a0_1 a0_2 a0_3 a0_4 a0_5 a0_6 a0_7 _ _ l0_8 false _ ?side1 ?side2 A4.out).mono ?_); (case side1 => exact zC (Kd.C_below HR0_8.out HB.out)); (case side2 => exact HC0_8.out); rintro e w10 ⟨rfl, hb⟩; refine ⟨_, rfl, ?_⟩; have n0_ := Aside0.mk (blk_below (g := gb149) (o := .cells #[.int .i64 a0_0, .int .i64 a0_1, .int .i64 a0_2, .int .i64 a0_3, .int .i64 a0_4, .int .i64 a0_5, .int .i64 a0_6, .int .i64 a0_7, .slice A0_8 l0_8.length c0_8] 42 (0, 0)) (zK BK149.out) hb); have n1_ := Aside0.mk (below_step (zG) hb); clear BK149; clear HB; have BK149 := n0_; have HB := n1_; clear n0_ n1_; (try clear hb); (try clear hb2); (try clear hk); (try clear hi)))
   go_meet
   case rel => exact ⟨_, (false), zQ, H', ⟨by first | omega | exact Nat.le_refl _⟩, ⟨zK BK149.out⟩, ⟨zG⟩⟩
 case rest =>
  clear HC2
  (try clear c1); (try clear p2); (try clear c3); (try clear c5); (try clear hcz6_0 hcz6_1 hcz6_2 hcz6_3 hcz6_4 hcz6_5 hcz6_6 hcz6_7 hcz6_8); (try clear hcz8_0 hcz8_1 hcz8_2 hcz8_3 hcz8_4 hcz8_5 hcz8_6 hcz8_7)
  (try clear hcz8_8); (try clear hcz9_0 hcz9_1 hcz9_2 hcz9_3 hcz9_4 hcz9_5 hcz9_6 hcz9_7 hcz9_8); (try clear hfz6_0 hfz6_1 hfz6_2 hfz6_3 hfz6_4 hfz6_5 hfz6_6 hfz6_7 hfz6_8); (try clear hfz8_0)
  (try clear hfz8_1 hfz8_2 hfz8_3 hfz8_4 hfz8_5 hfz8_6 hfz8_7 hfz8_8); (try clear hfz9_0 hfz9_1 hfz9_2 hfz9_3 hfz9_4 hfz9_5 hfz9_6 hfz9_7 hfz9_8)
  obtain ⟨kq, x9_1, rfl, HA, HJ1, BK149, HB⟩ := hcut
  cases kq with
  | zero => exact absurd HA.out (by simp [balustraderef15_Targets.j0])
  | succ kj1 =>
   have H := HA.out
   clear HA
   simp only [balustraderef15_Targets.j0] at H
   by_cases c11 : x9_1 = true
   ·subst c11
    have H1 : (some (([a0_5] : List Int))) = some r := by rw [if_pos rfl] at H; exact H
    clear H
    have H := H1
    clear H1
    obtain ⟨y151, hy151⟩ : ∃ y_ : List Int, y_ = (([a0_5] : List Int)) := ⟨_, rfl⟩
    replace H : (some y151) = some r := by first | (rw [hy151]; with_reducible exact H) | (have H2_ := (Option.bind_some _ _).symm.trans H; rw [hy151]; with_reducible exact H2_) | (have H2_ := (Option.bind_some _ _).symm.trans H; with_reducible exact H2_) | with_reducible exact H | (rw [hy151]; exact H) | exact H
    have Ny151 := Aside0.mk hy151
    clear hy151
    obtain rfl := Option.some.inj H
    obtain ⟨hcz12_0, hcz12_1, hcz12_2, hcz12_3, hcz12_4, hcz12_5, hcz12_6, hcz12_7, hcz12_8⟩ := zc9 BK149.out
    obtain ⟨hfz12_0, hfz12_1, hfz12_2, hfz12_3, hfz12_4, hfz12_5, hfz12_6, hfz12_7, hfz12_8⟩ := zf9 BK149.out
    go_wp2_with (first | ((with_reducible refine gate_dst (N := 12) rfl ?_); refine Kd.R_lit (Kd.int .i64) _ 3 ?hg (N := 12) ?hd (xs := ([a0_5] : List Int)) (inner := [.int .i64 a0_5]) (ok := fun _ => True) (okp := fun _ => True) ?hr ?hp (fun _ hk => hk) trivial (Below.refl _ _) (Nat.le_refl _) (by simp) ?_; (case hd => rfl); (case hg => rfl); (case hr => first | (go_simp; done) | (go_simp; rfl)); (case hp => exact (Reps.one (show Kd.M (Kd.int .i64) _ _ _ a0_5 [.int .i64 a0_5] from rfl) (Reps.none _ _))); intro v152 w13 ho14 hb hg_ hnew_; clear hg_ hnew_; (first | rw [← Ny151.out] at ho14 | (simp only [Int.reduceToNat] at ho14; rw [← Ny151.out] at ho14)); have n0_ := Aside0.mk (Kd.R_lower ho14 (below_size (zG))); have n1_ := Aside0.mk (blk_below (g := gb149) (o := .cells #[.int .i64 a0_0, .int .i64 a0_1, .int .i64 a0_2, .int .i64 a0_3, .int .i64 a0_4, .int .i64 a0_5, .int .i64 a0_6, .int .i64 a0_7, .slice A0_8 l0_8.length c0_8] 42 (0, 0)) (zK BK149.out) hb); have n2_ := Aside0.mk (below_step (zG) hb); clear BK149; clear HB; have HO153 := n0_; have BK149 := n1_; have HB := n2_; clear n0_ n1_ n2_; clear hb ho14))
    go_ret
    exact ⟨_, zV, zR HO153.out, zG⟩
   ·replace c11 := Bool.eq_false_iff.mpr c11
    subst c11
    have H1 : ((balustraderef15_Right.f a0_0 a0_1 a0_2 a0_3 a0_4 a0_5 a0_6 a0_7 l0_8).bind fun t154 => (if t154 = true then (if a0_0 = 42 then (some (([a0_5, a0_6] : List Int))) else (some (([] : List Int)))) else (some (([] : List Int))))) = some r := by rw [if_neg (show ¬ (false = true) by decide)] at H; exact H
    clear H
    have H := H1
    clear H1
    replace H := Option.bind_eq_some_iff.mp H
    obtain ⟨t154, A150, H⟩ := H
    replace H : (if t154 = true then (if a0_0 = 42 then (some (([a0_5, a0_6] : List Int))) else (some (([] : List Int)))) else (some (([] : List Int)))) = some r := H
    have A15 := Aside0.mk A150
    clear A150
    by_cases c16 : t154 = true
    ·subst c16
     have H1 : (if a0_0 = 42 then (some (([a0_5, a0_6] : List Int))) else (some (([] : List Int)))) = some r := by rw [if_pos rfl] at H; exact H
     clear H
     have H := H1
     clear H1
     by_cases c17 : a0_0 = 42
     ·rw [if_pos c17] at H
      have c17b0 : (a0_0 == 42) = true := beq_iff_eq.mpr c17
      have c17b1 : (a0_0 != 42) = false := bne_eq_false_iff_eq.mpr c17
      clear c17
      obtain ⟨y155, hy155⟩ : ∃ y_ : List Int, y_ = (([a0_5, a0_6] : List Int)) := ⟨_, rfl⟩
      replace H : (some y155) = some r := by first | (rw [hy155]; with_reducible exact H) | (have H2_ := (Option.bind_some _ _).symm.trans H; rw [hy155]; with_reducible exact H2_) | (have H2_ := (Option.bind_some _ _).symm.trans H; with_reducible exact H2_) | with_reducible exact H | (rw [hy155]; exact H) | exact H
      have Ny155 := Aside0.mk hy155
      clear hy155
      obtain rfl := Option.some.inj H
      obtain ⟨hcz18_0, hcz18_1, hcz18_2, hcz18_3, hcz18_4, hcz18_5, hcz18_6, hcz18_7, hcz18_8⟩ := zc9 BK149.out
      obtain ⟨hfz18_0, hfz18_1, hfz18_2, hfz18_3, hfz18_4, hfz18_5, hfz18_6, hfz18_7, hfz18_8⟩ := zf9 BK149.out
      go_wp2_with (first | ((with_reducible refine gate_callee (f := 31) rfl ?_); refine goesL_ (some 14) rfl rfl Try.func31 (by kernel_rfl) rfl #[.agg #[.int .i64 a0_0, .int .i64 a0_1, .int .i64 a0_2, .int .i64 a0_3, .int .i64 a0_4, .int .i64 a0_5, .int .i64 a0_6, .int .i64 a0_7, .slice A0_8 l0_8.length c0_8]] rfl zE ?_; (with_reducible refine (balustraderef15_Right.calls a0_0 a0_1 a0_2 a0_3 a0_4 a0_5 a0_6 a0_7 _ _ l0_8 true _ ?side1 ?side2 A15.out).mono ?_); (case side1 => exact zC (Kd.C_below HR0_8.out HB.out)); (case side2 => exact HC0_8.out); rintro e w19 ⟨rfl, hb⟩; refine ⟨_, rfl, ?_⟩; have n0_ := Aside0.mk (blk_below (g := gb149) (o := .cells #[.int .i64 a0_0, .int .i64 a0_1, .int .i64 a0_2, .int .i64 a0_3, .int .i64 a0_4, .int .i64 a0_5, .int .i64 a0_6, .int .i64 a0_7, .slice A0_8 l0_8.length c0_8] 42 (0, 0)) (zK BK149.out) hb); have n1_ := Aside0.mk (below_step (zG) hb); clear BK149; clear HB; have BK149 := n0_; have HB := n1_; clear n0_ n1_; (try clear hb); (try clear hb2); (try clear hk); (try clear hi); obtain ⟨hcz20_0, hcz20_1, hcz20_2, hcz20_3, hcz20_4, hcz20_5, hcz20_6, hcz20_7, hcz20_8⟩ := zc9 BK149.out; obtain ⟨hfz20_0, hfz20_1, hfz20_2, hfz20_3, hfz20_4, hfz20_5, hfz20_6, hfz20_7, hfz20_8⟩ := zf9 BK149.out) | ((with_reducible refine gate_dst (N := 24) rfl ?_); refine Kd.R_lit (Kd.int .i64) _ 3 ?hg (N := 24) ?hd (xs := ([a0_5, a0_6] : List Int)) (inner := [.int .i64 a0_5, .int .i64 a0_6]) (ok := fun _ => True) (okp := fun _ => True) ?hr ?hp (fun _ hk => hk) trivial (Below.refl _ _) (Nat.le_refl _) (by simp) ?_; (case hd => rfl); (case hg => rfl); (case hr => first | (go_simp; done) | (go_simp; rfl)); (case hp => exact (Reps.one (show Kd.M (Kd.int .i64) _ _ _ a0_5 [.int .i64 a0_5] from rfl) (Reps.one (show Kd.M (Kd.int .i64) _ _ _ a0_6 [.int .i64 a0_6] from rfl) (Reps.none _ _)))); intro v156 w21 ho22 hb hg_ hnew_; clear hg_ hnew_; (first | rw [← Ny155.out] at ho22 | (simp only [Int.reduceToNat] at ho22; rw [← Ny155.out] at ho22)); have n0_ := Aside0.mk (Kd.R_lower ho22 (below_size (zG))); have n1_ := Aside0.mk (blk_below (g := gb149) (o := .cells #[.int .i64 a0_0, .int .i64 a0_1, .int .i64 a0_2, .int .i64 a0_3, .int .i64 a0_4, .int .i64 a0_5, .int .i64 a0_6, .int .i64 a0_7, .slice A0_8 l0_8.length c0_8] 42 (0, 0)) (zK BK149.out) hb); have n2_ := Aside0.mk (below_step (zG) hb); clear BK149; clear HB; have HO157 := n0_; have BK149 := n1_; have HB := n2_; clear n0_ n1_ n2_; clear hb ho22))
      go_ret
      exact ⟨_, zV, zR HO157.out, zG⟩
     ·rw [if_neg c17] at H
      have c17b0 : (a0_0 == 42) = false := beq_eq_false_iff_ne.mpr c17
      have c17b1 : (a0_0 != 42) = true := bne_iff_ne.mpr c17
      obtain ⟨y158, hy158⟩ : ∃ y_ : List Int, y_ = (([] : List Int)) := ⟨_, rfl⟩
      replace H : (some y158) = some r := by first | (rw [hy158]; with_reducible exact H) | (have H2_ := (Option.bind_some _ _).symm.trans H; rw [hy158]; with_reducible exact H2_) | (have H2_ := (Option.bind_some _ _).symm.trans H; with_reducible exact H2_) | with_reducible exact H | (rw [hy158]; exact H) | exact H
      have Ny158 := Aside0.mk hy158
      clear hy158
      obtain rfl := Option.some.inj H
      obtain ⟨hcz23_0, hcz23_1, hcz23_2, hcz23_3, hcz23_4, hcz23_5, hcz23_6, hcz23_7, hcz23_8⟩ := zc9 BK149.out
      obtain ⟨hfz23_0, hfz23_1, hfz23_2, hfz23_3, hfz23_4, hfz23_5, hfz23_6, hfz23_7, hfz23_8⟩ := zf9 BK149.out
      go_wp2_with (first | ((with_reducible refine gate_callee (f := 31) rfl ?_); refine goesL_ (some 14) rfl rfl Try.func31 (by kernel_rfl) rfl #[.agg #[.int .i64 a0_0, .int .i64 a0_1, .int .i64 a0_2, .int .i64 a0_3, .int .i64 a0_4, .int .i64 a0_5, .int .i64 a0_6, .int .i64 a0_7, .slice A0_8 l0_8.length c0_8]] rfl zE ?_; (with_reducible refine (balustraderef15_Right.calls a0_0 a0_1 a0_2 a0_3 a0_4 a0_5 a0_6 a0_7 _ _ l0_8 true _ ?side1 ?side2 A15.out).mono ?_); (case side1 => exact zC (Kd.C_below HR0_8.out HB.out)); (case side2 => exact HC0_8.out); rintro e w24 ⟨rfl, hb⟩; refine ⟨_, rfl, ?_⟩; have n0_ := Aside0.mk (blk_below (g := gb149) (o := .cells #[.int .i64 a0_0, .int .i64 a0_1, .int .i64 a0_2, .int .i64 a0_3, .int .i64 a0_4, .int .i64 a0_5, .int .i64 a0_6, .int .i64 a0_7, .slice A0_8 l0_8.length c0_8] 42 (0, 0)) (zK BK149.out) hb); have n1_ := Aside0.mk (below_step (zG) hb); clear BK149; clear HB; have BK149 := n0_; have HB := n1_; clear n0_ n1_; (try clear hb); (try clear hb2); (try clear hk); (try clear hi); obtain ⟨hcz25_0, hcz25_1, hcz25_2, hcz25_3, hcz25_4, hcz25_5, hcz25_6, hcz25_7, hcz25_8⟩ := zc9 BK149.out; obtain ⟨hfz25_0, hfz25_1, hfz25_2, hfz25_3, hfz25_4, hfz25_5, hfz25_6, hfz25_7, hfz25_8⟩ := zf9 BK149.out) | ((with_reducible refine gate_dst (N := 25) rfl ?_); refine Kd.R_lit (Kd.int .i64) _ 3 ?hg (N := 25) ?hd (xs := ([] : List Int)) (inner := []) (ok := fun _ => True) (okp := fun _ => True) ?hr ?hp (fun _ hk => hk) trivial (Below.refl _ _) (Nat.le_refl _) (by simp) ?_; (case hd => rfl); (case hg => rfl); (case hr => first | (go_simp; done) | (go_simp; rfl)); (case hp => exact (Reps.none _ _)); intro v159 w26 ho27 hb hg_ hnew_; clear hg_ hnew_; (first | rw [← Ny158.out] at ho27 | (simp only [Int.reduceToNat] at ho27; rw [← Ny158.out] at ho27)); have n0_ := Aside0.mk (Kd.R_lower ho27 (below_size (zG))); have n1_ := Aside0.mk (blk_below (g := gb149) (o := .cells #[.int .i64 a0_0, .int .i64 a0_1, .int .i64 a0_2, .int .i64 a0_3, .int .i64 a0_4, .int .i64 a0_5, .int .i64 a0_6, .int .i64 a0_7, .slice A0_8 l0_8.length c0_8] 42 (0, 0)) (zK BK149.out) hb); have n2_ := Aside0.mk (below_step (zG) hb); clear BK149; clear HB; have HO160 := n0_; have BK149 := n1_; have HB := n2_; clear n0_ n1_ n2_; clear hb ho27))
      go_ret
      exact ⟨_, zV, zR HO160.out, zG⟩
    ·replace c16 := Bool.eq_false_iff.mpr c16
     subst c16
     have H1 : (some (([] : List Int))) = some r := by rw [if_neg (show ¬ (false = true) by decide)] at H; exact H
     clear H
     have H := H1
     clear H1
     obtain ⟨y161, hy161⟩ : ∃ y_ : List Int, y_ = (([] : List Int)) := ⟨_, rfl⟩
     replace H : (some y161) = some r := by first | (rw [hy161]; with_reducible exact H) | (have H2_ := (Option.bind_some _ _).symm.trans H; rw [hy161]; with_reducible exact H2_) | (have H2_ := (Option.bind_some _ _).symm.trans H; with_reducible exact H2_) | with_reducible exact H | (rw [hy161]; exact H) | exact H
     have Ny161 := Aside0.mk hy161
     clear hy161
     obtain rfl := Option.some.inj H
     obtain ⟨hcz28_0, hcz28_1, hcz28_2, hcz28_3, hcz28_4, hcz28_5, hcz28_6, hcz28_7, hcz28_8⟩ := zc9 BK149.out
     obtain ⟨hfz28_0, hfz28_1, hfz28_2, hfz28_3, hfz28_4, hfz28_5, hfz28_6, hfz28_7, hfz28_8⟩ := zf9 BK149.out
     go_wp2_with (first | ((with_reducible refine gate_callee (f := 31) rfl ?_); refine goesL_ (some 14) rfl rfl Try.func31 (by kernel_rfl) rfl #[.agg #[.int .i64 a0_0, .int .i64 a0_1, .int .i64 a0_2, .int .i64 a0_3, .int .i64 a0_4, .int .i64 a0_5, .int .i64 a0_6, .int .i64 a0_7, .slice A0_8 l0_8.length c0_8]] rfl zE ?_; (with_reducible refine (balustraderef15_Right.calls a0_0 a0_1 a0_2 a0_3 a0_4 a0_5 a0_6 a0_7 _ _ l0_8 false _ ?side1 ?side2 A15.out).mono ?_); (case side1 => exact zC (Kd.C_below HR0_8.out HB.out)); (case side2 => exact HC0_8.out); rintro e w29 ⟨rfl, hb⟩; refine ⟨_, rfl, ?_⟩; have n0_ := Aside0.mk (blk_below (g := gb149) (o := .cells #[.int .i64 a0_0, .int .i64 a0_1, .int .i64 a0_2, .int .i64 a0_3, .int .i64 a0_4, .int .i64 a0_5, .int .i64 a0_6, .int .i64 a0_7, .slice A0_8 l0_8.length c0_8] 42 (0, 0)) (zK BK149.out) hb); have n1_ := Aside0.mk (below_step (zG) hb); clear BK149; clear HB; have BK149 := n0_; have HB := n1_; clear n0_ n1_; (try clear hb); (try clear hb2); (try clear hk); (try clear hi)) | ((with_reducible refine gate_dst (N := 25) rfl ?_); refine Kd.R_lit (Kd.int .i64) _ 3 ?hg (N := 25) ?hd (xs := ([] : List Int)) (inner := []) (ok := fun _ => True) (okp := fun _ => True) ?hr ?hp (fun _ hk => hk) trivial (Below.refl _ _) (Nat.le_refl _) (by simp) ?_; (case hd => rfl); (case hg => rfl); (case hr => first | (go_simp; done) | (go_simp; rfl)); (case hp => exact (Reps.none _ _)); intro v162 w30 ho31 hb hg_ hnew_; clear hg_ hnew_; (first | rw [← Ny161.out] at ho31 | (simp only [Int.reduceToNat] at ho31; rw [← Ny161.out] at ho31)); have n0_ := Aside0.mk (Kd.R_lower ho31 (below_size (zG))); have n1_ := Aside0.mk (blk_below (g := gb149) (o := .cells #[.int .i64 a0_0, .int .i64 a0_1, .int .i64 a0_2, .int .i64 a0_3, .int .i64 a0_4, .int .i64 a0_5, .int .i64 a0_6, .int .i64 a0_7, .slice A0_8 l0_8.length c0_8] 42 (0, 0)) (zK BK149.out) hb); have n2_ := Aside0.mk (below_step (zG) hb); clear BK149; clear HB; have HO163 := n0_; have BK149 := n1_; have HB := n2_; clear n0_ n1_ n2_; clear hb ho31))
     go_ret
     exact ⟨_, zV, zR HO163.out, zG⟩
def mEnt : List (Int × Int) → Nat → List MapEntry
 | [], _ => []
 | p :: L, i => { key := .int .i64 p.1, val := .int .i64 p.2, born := i } :: mEnt L (i + 1)
def mObj (L : List (Int × Int)) : Obj := .map (mEnt L 0).toArray L.length
def assoc (L : List (Int × Int)) (k : Int) : Option Int := (L.find? (fun p => p.1 == k)).map (·.2)
theorem mEnt_snoc (p : Int × Int) : ∀ (L : List (Int × Int)) (i : Nat), mEnt (L ++ [p]) i = mEnt L i ++ [{ key := .int .i64 p.1, val := .int .i64 p.2, born := i + L.length }] := by
 intro L
 induction L with
 | nil => intro i; rfl
 | cons q L ih =>
  intro i
  show _ :: mEnt (L ++ [p]) (i + 1) = _ :: (mEnt L (i + 1) ++ _)
  rw [ih, show i + 1 + L.length = i + (q :: L).length by simp; omega]
theorem findNow_ints (k : Int) : ∀ (L : List (Int × Int)) (i j : Nat), ∃ r, Instr.findNow (.int .i64) (.int .i64 k) (mEnt L i) j = some r ∧ r.map (·.2) = (assoc L k).map (Value.int .i64) := by
 intro L
 induction L with
 | nil => intro i j; exact ⟨none, rfl, rfl⟩
 | cons q L ih =>
  intro i j
  by_cases h : k = q.1
  ·refine ⟨some (j, .int .i64 q.2), ?_, ?_⟩
   ·simp [mEnt, Instr.findNow, Instr.sameNow, h]
   ·simp [assoc, h]
  ·obtain ⟨r, h1, h2⟩ := ih (i + 1) (j + 1)
   refine ⟨r, ?_, ?_⟩
   ·have hb : (k == q.1) = false := by simp [h]
    simp [mEnt, Instr.findNow, Instr.sameNow, hb, h1]
   ·rw [h2]
    have : (q.1 == k) = false := by simp [Ne.symm h]
    simp [assoc, this]
section
variable {P : Program} {t kt : TypeId} {w : World} {L : List (Int × Int)}
theorem run_ins (ht : P.underlying t = some (.map kt kt)) (hk : P.underlying kt = some (.int .i64)) (k v : Int) (hn : assoc L k = none) :
  (Instr.mapUpdate t (.map (some w.heap.size)) (.int .i64 k) (.int .i64 v)).run P (w.alloc (mObj L)) = .ok () (w.alloc (mObj (L ++ [(k, v)]))) := by
 have hb : (w.alloc (mObj L)).heap[w.heap.size]? = some (.map (mEnt L 0).toArray L.length) := heap_alloc_new w _
 obtain ⟨r, h1, h2⟩ := findNow_ints k L 0 0
 rw [hn] at h2
 have h3 : r = none := by cases r <;> simp_all
 subst h3
 have hs : ∀ o : Obj, ({ (w.alloc (mObj L)) with heap := (w.alloc (mObj L)).heap.setIfInBounds w.heap.size o } : World) = w.alloc o := by
  intro o
  show ({ w with heap := (w.heap.push (mObj L)).setIfInBounds w.heap.size o } : World) = { w with heap := w.heap.push o }
  congr 1
  apply Array.ext_getElem?
  intro i
  rw [Array.getElem?_setIfInBounds, Array.getElem?_push, Array.getElem?_push]
  by_cases e : w.heap.size = i
  ·subst e; simp
  ·rw [if_neg e, if_neg (Ne.symm e), if_neg (Ne.symm e)]
 have h1' : Instr.findNow (.int .i64) (.int .i64 k) ((mEnt L 0).toArray.toList) 0 = some none := by simpa using h1
 simp [Instr.mapUpdate, run_underlying ht, Result.andThen, Go.MapKept.run_getObj_map hb, Go.MapKept.run_checkKey (w := w.alloc (mObj L)) hk (k := .int .i64 k) (show Go.MapKept.IsKey (.int .i64) (.int .i64 k) from rfl), Go.MapKept.run_findKey (w := w.alloc (mObj L)) hk h1', Go.MapKept.run_setObj_map _ hb]
 unfold mObj
 rw [mEnt_snoc]
 simp
 exact hs _
theorem run_look (ht : P.underlying t = some (.map kt kt)) (hk : P.underlying kt = some (.int .i64)) (hz : (P.info? kt).map (·.zero) = some (some (.int .i64 0))) (k : Int) :
  (Instr.lookup t (.map (some w.heap.size)) (.int .i64 k) false).run P (w.alloc (mObj L)) = .ok (.int .i64 ((assoc L k).getD 0)) (w.alloc (mObj L)) := by
 have hb : (w.alloc (mObj L)).heap[w.heap.size]? = some (.map (mEnt L 0).toArray L.length) := heap_alloc_new w _
 obtain ⟨r, h1, h2⟩ := findNow_ints k L 0 0
 have h1' : Instr.findNow (.int .i64) (.int .i64 k) ((mEnt L 0).toArray.toList) 0 = some r := by simpa using h1
 obtain ⟨i, hi, hi2⟩ := Option.map_eq_some_iff.1 hz
 have hzv : (zeroValue kt).run P (w.alloc (mObj L)) = .ok (.int .i64 0) (w.alloc (mObj L)) := by
  simp [zeroValue, typeInfo, hi, hi2, Result.andThen]
 simp [Instr.lookup, run_underlying ht, Result.andThen, Go.MapKept.run_getObj_map hb, Go.MapKept.run_checkKey (w := w.alloc (mObj L)) hk (k := .int .i64 k) (show Go.MapKept.IsKey (.int .i64) (.int .i64 k) from rfl), Go.MapKept.run_findKey (w := w.alloc (mObj L)) hk h1']
 cases ha : assoc L k with
 | none =>
  rw [ha] at h2
  have h3 : r = none := by cases r <;> simp_all
  subst h3
  simp [hzv]
 | some v =>
  rw [ha] at h2
  cases r with
  | none => simp at h2
  | some p => simp at h2; simp [h2]
end
def hasTab : List (Int × Int) := [(20, 17), (21, 33), (22, 1), (30, 14), (31, 258), (32, 262), (33, 262), (34, 262), (35, 262), (36, 258), (37, 262), (38, 258), (39, 577), (40, 2), (41, 64), (42, 194), (43, 2), (44, 1537), (45, 2055)]
def hasV (op : Int) : Int := if 3 ≤ op ∧ op ≤ 16 ∨ op = 29 then 7 else if 23 ≤ op ∧ op ≤ 28 then 3 else (assoc hasTab op).getD 0
theorem instr_zero : (Try.prog.info? 3).map (·.zero) = some (some (.int .i64 0)) := by kernel_rfl
set_option maxHeartbeats 4000000 in
theorem has_tab (op : Int) (w : World) (h1 : ¬ (3 ≤ op ∧ op ≤ 16)) (h2 : op ≠ 29) (h3 : ¬ (23 ≤ op ∧ op ≤ 28)) :
  Calls Try.prog 85 #[.int .i64 op] w fun e w' => e = .returned (.int .i64 (hasV op)) ∧ Below w.heap.size w w' := by
 have hv : hasV op = (assoc hasTab op).getD 0 := by
  unfold hasV
  rw [if_neg (by omega), if_neg h3]
 have HV := Aside0.mk hv
 have i0 : (Instr.mapUpdate 105 (.map (some w.heap.size)) (.int .i64 20) (.int .i64 17)).run Try.prog (w.alloc (mObj [])) = .ok () (w.alloc (mObj [(20, 17)])) := run_ins Try.underlying105 Try.underlying3 20 17 rfl
 have i1 : (Instr.mapUpdate 105 (.map (some w.heap.size)) (.int .i64 21) (.int .i64 33)).run Try.prog (w.alloc (mObj [(20, 17)])) = .ok () (w.alloc (mObj [(20, 17), (21, 33)])) := run_ins Try.underlying105 Try.underlying3 21 33 rfl
 have i2 : (Instr.mapUpdate 105 (.map (some w.heap.size)) (.int .i64 22) (.int .i64 1)).run Try.prog (w.alloc (mObj [(20, 17), (21, 33)])) = .ok () (w.alloc (mObj [(20, 17), (21, 33), (22, 1)])) := run_ins Try.underlying105 Try.underlying3 22 1 rfl
 have i3 : (Instr.mapUpdate 105 (.map (some w.heap.size)) (.int .i64 30) (.int .i64 14)).run Try.prog (w.alloc (mObj [(20, 17), (21, 33), (22, 1)])) = .ok () (w.alloc (mObj [(20, 17), (21, 33), (22, 1), (30, 14)])) := run_ins Try.underlying105 Try.underlying3 30 14 rfl
 have i4 : (Instr.mapUpdate 105 (.map (some w.heap.size)) (.int .i64 31) (.int .i64 258)).run Try.prog (w.alloc (mObj [(20, 17), (21, 33), (22, 1), (30, 14)])) = .ok () (w.alloc (mObj [(20, 17), (21, 33), (22, 1), (30, 14), (31, 258)])) := run_ins Try.underlying105 Try.underlying3 31 258 rfl
 have i5 : (Instr.mapUpdate 105 (.map (some w.heap.size)) (.int .i64 32) (.int .i64 262)).run Try.prog (w.alloc (mObj [(20, 17), (21, 33), (22, 1), (30, 14), (31, 258)])) = .ok () (w.alloc (mObj [(20, 17), (21, 33), (22, 1), (30, 14), (31, 258), (32, 262)])) := run_ins Try.underlying105 Try.underlying3 32 262 rfl
 have i6 : (Instr.mapUpdate 105 (.map (some w.heap.size)) (.int .i64 33) (.int .i64 262)).run Try.prog (w.alloc (mObj [(20, 17), (21, 33), (22, 1), (30, 14), (31, 258), (32, 262)])) = .ok () (w.alloc (mObj [(20, 17), (21, 33), (22, 1), (30, 14), (31, 258), (32, 262), (33, 262)])) := run_ins Try.underlying105 Try.underlying3 33 262 rfl
 have i7 : (Instr.mapUpdate 105 (.map (some w.heap.size)) (.int .i64 34) (.int .i64 262)).run Try.prog (w.alloc (mObj [(20, 17), (21, 33), (22, 1), (30, 14), (31, 258), (32, 262), (33, 262)])) = .ok () (w.alloc (mObj [(20, 17), (21, 33), (22, 1), (30, 14), (31, 258), (32, 262), (33, 262), (34, 262)])) := run_ins Try.underlying105 Try.underlying3 34 262 rfl
 have i8 : (Instr.mapUpdate 105 (.map (some w.heap.size)) (.int .i64 35) (.int .i64 262)).run Try.prog (w.alloc (mObj [(20, 17), (21, 33), (22, 1), (30, 14), (31, 258), (32, 262), (33, 262), (34, 262)])) = .ok () (w.alloc (mObj [(20, 17), (21, 33), (22, 1), (30, 14), (31, 258), (32, 262), (33, 262), (34, 262), (35, 262)])) := run_ins Try.underlying105 Try.underlying3 35 262 rfl
 have i9 : (Instr.mapUpdate 105 (.map (some w.heap.size)) (.int .i64 36) (.int .i64 258)).run Try.prog (w.alloc (mObj [(20, 17), (21, 33), (22, 1), (30, 14), (31, 258), (32, 262), (33, 262), (34, 262), (35, 262)])) = .ok () (w.alloc (mObj [(20, 17), (21, 33), (22, 1), (30, 14), (31, 258), (32, 262), (33, 262), (34, 262), (35, 262), (36, 258)])) := run_ins Try.underlying105 Try.underlying3 36 258 rfl
 have i10 : (Instr.mapUpdate 105 (.map (some w.heap.size)) (.int .i64 37) (.int .i64 262)).run Try.prog (w.alloc (mObj [(20, 17), (21, 33), (22, 1), (30, 14), (31, 258), (32, 262), (33, 262), (34, 262), (35, 262), (36, 258)])) = .ok () (w.alloc (mObj [(20, 17), (21, 33), (22, 1), (30, 14), (31, 258), (32, 262), (33, 262), (34, 262), (35, 262), (36, 258), (37, 262)])) := run_ins Try.underlying105 Try.underlying3 37 262 rfl
 have i11 : (Instr.mapUpdate 105 (.map (some w.heap.size)) (.int .i64 38) (.int .i64 258)).run Try.prog (w.alloc (mObj [(20, 17), (21, 33), (22, 1), (30, 14), (31, 258), (32, 262), (33, 262), (34, 262), (35, 262), (36, 258), (37, 262)])) = .ok () (w.alloc (mObj [(20, 17), (21, 33), (22, 1), (30, 14), (31, 258), (32, 262), (33, 262), (34, 262), (35, 262), (36, 258), (37, 262), (38, 258)])) := run_ins Try.underlying105 Try.underlying3 38 258 rfl
 have i12 : (Instr.mapUpdate 105 (.map (some w.heap.size)) (.int .i64 39) (.int .i64 577)).run Try.prog (w.alloc (mObj [(20, 17), (21, 33), (22, 1), (30, 14), (31, 258), (32, 262), (33, 262), (34, 262), (35, 262), (36, 258), (37, 262), (38, 258)])) = .ok () (w.alloc (mObj [(20, 17), (21, 33), (22, 1), (30, 14), (31, 258), (32, 262), (33, 262), (34, 262), (35, 262), (36, 258), (37, 262), (38, 258), (39, 577)])) := run_ins Try.underlying105 Try.underlying3 39 577 rfl
 have i13 : (Instr.mapUpdate 105 (.map (some w.heap.size)) (.int .i64 40) (.int .i64 2)).run Try.prog (w.alloc (mObj [(20, 17), (21, 33), (22, 1), (30, 14), (31, 258), (32, 262), (33, 262), (34, 262), (35, 262), (36, 258), (37, 262), (38, 258), (39, 577)])) = .ok () (w.alloc (mObj [(20, 17), (21, 33), (22, 1), (30, 14), (31, 258), (32, 262), (33, 262), (34, 262), (35, 262), (36, 258), (37, 262), (38, 258), (39, 577), (40, 2)])) := run_ins Try.underlying105 Try.underlying3 40 2 rfl
 have i14 : (Instr.mapUpdate 105 (.map (some w.heap.size)) (.int .i64 41) (.int .i64 64)).run Try.prog (w.alloc (mObj [(20, 17), (21, 33), (22, 1), (30, 14), (31, 258), (32, 262), (33, 262), (34, 262), (35, 262), (36, 258), (37, 262), (38, 258), (39, 577), (40, 2)])) = .ok () (w.alloc (mObj [(20, 17), (21, 33), (22, 1), (30, 14), (31, 258), (32, 262), (33, 262), (34, 262), (35, 262), (36, 258), (37, 262), (38, 258), (39, 577), (40, 2), (41, 64)])) := run_ins Try.underlying105 Try.underlying3 41 64 rfl
 have i15 : (Instr.mapUpdate 105 (.map (some w.heap.size)) (.int .i64 42) (.int .i64 194)).run Try.prog (w.alloc (mObj [(20, 17), (21, 33), (22, 1), (30, 14), (31, 258), (32, 262), (33, 262), (34, 262), (35, 262), (36, 258), (37, 262), (38, 258), (39, 577), (40, 2), (41, 64)])) = .ok () (w.alloc (mObj [(20, 17), (21, 33), (22, 1), (30, 14), (31, 258), (32, 262), (33, 262), (34, 262), (35, 262), (36, 258), (37, 262), (38, 258), (39, 577), (40, 2), (41, 64), (42, 194)])) := run_ins Try.underlying105 Try.underlying3 42 194 rfl
 have i16 : (Instr.mapUpdate 105 (.map (some w.heap.size)) (.int .i64 43) (.int .i64 2)).run Try.prog (w.alloc (mObj [(20, 17), (21, 33), (22, 1), (30, 14), (31, 258), (32, 262), (33, 262), (34, 262), (35, 262), (36, 258), (37, 262), (38, 258), (39, 577), (40, 2), (41, 64), (42, 194)])) = .ok () (w.alloc (mObj [(20, 17), (21, 33), (22, 1), (30, 14), (31, 258), (32, 262), (33, 262), (34, 262), (35, 262), (36, 258), (37, 262), (38, 258), (39, 577), (40, 2), (41, 64), (42, 194), (43, 2)])) := run_ins Try.underlying105 Try.underlying3 43 2 rfl
 have i17 : (Instr.mapUpdate 105 (.map (some w.heap.size)) (.int .i64 44) (.int .i64 1537)).run Try.prog (w.alloc (mObj [(20, 17), (21, 33), (22, 1), (30, 14), (31, 258), (32, 262), (33, 262), (34, 262), (35, 262), (36, 258), (37, 262), (38, 258), (39, 577), (40, 2), (41, 64), (42, 194), (43, 2)])) = .ok () (w.alloc (mObj [(20, 17), (21, 33), (22, 1), (30, 14), (31, 258), (32, 262), (33, 262), (34, 262), (35, 262), (36, 258), (37, 262), (38, 258), (39, 577), (40, 2), (41, 64), (42, 194), (43, 2), (44, 1537)])) := run_ins Try.underlying105 Try.underlying3 44 1537 rfl
 have i18 : (Instr.mapUpdate 105 (.map (some w.heap.size)) (.int .i64 45) (.int .i64 2055)).run Try.prog (w.alloc (mObj [(20, 17), (21, 33), (22, 1), (30, 14), (31, 258), (32, 262), (33, 262), (34, 262), (35, 262), (36, 258), (37, 262), (38, 258), (39, 577), (40, 2), (41, 64), (42, 194), (43, 2), (44, 1537)])) = .ok () (w.alloc (mObj [(20, 17), (21, 33), (22, 1), (30, 14), (31, 258), (32, 262), (33, 262), (34, 262), (35, 262), (36, 258), (37, 262), (38, 258), (39, 577), (40, 2), (41, 64), (42, 194), (43, 2), (44, 1537), (45, 2055)])) := run_ins Try.underlying105 Try.underlying3 45 2055 rfl
 have hlk : (Instr.lookup 105 (.map (some w.heap.size)) (.int .i64 op) false).run Try.prog (w.alloc (mObj [(20, 17), (21, 33), (22, 1), (30, 14), (31, 258), (32, 262), (33, 262), (34, 262), (35, 262), (36, 258), (37, 262), (38, 258), (39, 577), (40, 2), (41, 64), (42, 194), (43, 2), (44, 1537), (45, 2055)])) = .ok (.int .i64 ((assoc hasTab op).getD 0)) (w.alloc (mObj [(20, 17), (21, 33), (22, 1), (30, 14), (31, 258), (32, 262), (33, 262), (34, 262), (35, 262), (36, 258), (37, 262), (38, 258), (39, 577), (40, 2), (41, 64), (42, 194), (43, 2), (44, 1537), (45, 2055)])) := run_look (P := Try.prog) (w := w) (L := hasTab) Try.underlying105 Try.underlying3 instr_zero op
 have hmm : (Instr.makeMap 105 none).run Try.prog w = .ok (.map (some w.heap.size)) (w.alloc (mObj [])) := rfl
 have HB := Aside0.mk (Below.refl w.heap.size w)
 have t2 : (op == 29) = false := beq_eq_false_iff_ne.mpr h2
 have t2' : decide (op = 29) = false := decide_eq_false h2
 clear hv h2
 have go : ∀ b1 b2 b3 b4 : Bool, decide (3 ≤ op) = b1 → decide (op ≤ 16) = b2 → decide (23 ≤ op) = b3 → decide (op ≤ 28) = b4 → (b1 && b2) = false → (b3 && b4) = false → Calls Try.prog 85 #[.int .i64 op] w fun e w' => e = .returned (.int .i64 (hasV op)) ∧ Below w.heap.size w w' := by
  intro b1 b2 b3 b4 e1 e2 e3 e4 e5 e6
  clear h1 h3
  cases b1 <;> cases b2 <;> cases b3 <;> cases b4 <;> simp only [Bool.and_true, Bool.and_false, reduceCtorEq] at e5 e6
  all_goals
   clear e5 e6
   go_enter Try.func85, Try.ntmps85
   go_wp2
   go_ret
   refine ⟨?_, below_alloc HB.out _⟩
   rw [HV.out]
   rfl
 exact go _ _ _ _ rfl rfl rfl rfl (by by_cases c : 3 ≤ op <;> simp [c] <;> omega) (by by_cases c : 23 ≤ op <;> simp [c] <;> omega)
set_option maxHeartbeats 1000000 in
theorem has_seven (op : Int) (w : World) (h1 : 3 ≤ op ∧ op ≤ 16 ∨ op = 29) :
  Calls Try.prog 85 #[.int .i64 op] w fun e w' => e = .returned (.int .i64 7) ∧ Below w.heap.size w w' := by
 have HB := Aside0.mk (Below.refl w.heap.size w)
 rcases h1 with ⟨h1, h2⟩ | rfl
 ·have t1 : decide (3 ≤ op) = true := decide_eq_true h1
  have t2 : decide (op ≤ 16) = true := decide_eq_true h2
  go_enter Try.func85, Try.ntmps85
  go_wp2
  go_ret
  exact ⟨rfl, HB.out⟩
 ·go_enter Try.func85, Try.ntmps85
  go_wp2
  go_ret
  exact ⟨rfl, HB.out⟩
set_option maxHeartbeats 1000000 in
theorem has_three (op : Int) (w : World) (h1 : 23 ≤ op) (h2 : op ≤ 28) :
  Calls Try.prog 85 #[.int .i64 op] w fun e w' => e = .returned (.int .i64 3) ∧ Below w.heap.size w w' := by
 have HB := Aside0.mk (Below.refl w.heap.size w)
 have t1 : decide (3 ≤ op) = true := decide_eq_true (by omega)
 have t2 : decide (op ≤ 16) = false := decide_eq_false (by omega)
 have t3 : decide (23 ≤ op) = true := decide_eq_true h1
 have t4 : decide (op ≤ 28) = true := decide_eq_true h2
 have t5 : (op == 29) = false := beq_eq_false_iff_ne.mpr (by omega)
 have t5' : decide (op = 29) = false := decide_eq_false (by omega)
 go_enter Try.func85, Try.ntmps85
 go_wp2
 go_ret
 exact ⟨rfl, HB.out⟩
def instr_has.f (a0 : Int) : Option Int := some (hasV a0)
theorem instr_has.calls (a0 : Int) (r : Int) (w : World) (h : instr_has.f a0 = some r) :
  Calls Try.prog 85 #[.int .i64 a0] w fun e w' => e = .returned (.int .i64 r) ∧ Below w.heap.size w w' := by
 unfold instr_has.f at h
 obtain rfl := Option.some.inj h
 by_cases h1 : 3 ≤ a0 ∧ a0 ≤ 16 ∨ a0 = 29
 ·have e : hasV a0 = 7 := if_pos h1
  rw [e]
  exact has_seven a0 w h1
 ·by_cases h2 : 23 ≤ a0 ∧ a0 ≤ 28
  ·have e : hasV a0 = 3 := by unfold hasV; rw [if_neg h1, if_pos h2]
   rw [e]
   exact has_three a0 w h2.1 h2.2
  ·exact has_tab a0 w (by omega) (by omega) h2
def instr_tells.f (a0 : Int) : Option (Bool) := if a0 ≥ 3 then (if a0 ≤ 8 then (some true) else (if a0 = 20 then (some true) else (some (a0 == 21)))) else (if a0 = 20 then (some true) else (some (a0 == 21)))
set_option maxHeartbeats 8000000 in
set_option maxRecDepth 100000 in
theorem instr_tells.calls (a0 : Int) (r : Bool) (w : World) (h : instr_tells.f a0 = some r) :
  Calls Try.prog 91 #[.int .i64 a0] w fun e w' => e = .returned (.bool r) ∧ Drawn0 w w' := by
 have H : (if a0 ≥ 3 then (if a0 ≤ 8 then (some true) else (if a0 = 20 then (some true) else (some (a0 == 21)))) else (if a0 = 20 then (some true) else (some (a0 == 21)))) = some r := h
 clear h
 by_cases c2 : a0 ≥ 3
 ·rw [if_pos c2] at H
  have c2b0 : decide (3 ≤ a0) = true := decide_eq_true c2
  clear c2
  by_cases c3 : a0 ≤ 8
  ·rw [if_pos c3] at H
   have c3b0 : decide (a0 ≤ 8) = true := decide_eq_true c3
   clear c3
   obtain rfl := Option.some.inj H
   go_enter Try.func91, Try.ntmps91
   go_wp2
   go_ret
   exact ⟨zQ, zD⟩
  ·rw [if_neg c3] at H
   have c3b0 : decide (a0 ≤ 8) = false := decide_eq_false c3
   clear c3
   by_cases c4 : a0 = 20
   ·rw [if_pos c4] at H
    have c4b0 : (a0 == 20) = true := beq_iff_eq.mpr c4
    have c4b1 : (a0 != 20) = false := bne_eq_false_iff_eq.mpr c4
    clear c4
    obtain rfl := Option.some.inj H
    go_enter Try.func91, Try.ntmps91
    go_wp2
    go_ret
    exact ⟨zQ, zD⟩
   ·rw [if_neg c4] at H
    have c4b0 : (a0 == 20) = false := beq_eq_false_iff_ne.mpr c4
    have c4b1 : (a0 != 20) = true := bne_iff_ne.mpr c4
    obtain rfl := Option.some.inj H
    go_enter Try.func91, Try.ntmps91
    go_wp2
    go_ret
    exact ⟨zQ, zD⟩
 ·rw [if_neg c2] at H
  have c2b0 : decide (3 ≤ a0) = false := decide_eq_false c2
  clear c2
  by_cases c5 : a0 = 20
  ·rw [if_pos c5] at H
   have c5b0 : (a0 == 20) = true := beq_iff_eq.mpr c5
   have c5b1 : (a0 != 20) = false := bne_eq_false_iff_eq.mpr c5
   clear c5
   obtain rfl := Option.some.inj H
   go_enter Try.func91, Try.ntmps91
   go_wp2
   go_ret
   exact ⟨zQ, zD⟩
  ·rw [if_neg c5] at H
   have c5b0 : (a0 == 20) = false := beq_eq_false_iff_ne.mpr c5
   have c5b1 : (a0 != 20) = true := bne_iff_ne.mpr c5
   obtain rfl := Option.some.inj H
   go_enter Try.func91, Try.ntmps91
   go_wp2
   go_ret
   exact ⟨zQ, zD⟩
end Go.Proofs.Ytgbpkbfghonllaa.P

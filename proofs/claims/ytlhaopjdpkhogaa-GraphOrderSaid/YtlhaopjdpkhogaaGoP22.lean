/- A text of this claim, what is not used left out. -/
import Derived.Test.YtlhaopjdpkhogaaGoP0
import Derived.Test.YtlhaopjdpkhogaaGoP6
import Derived.Test.YtlhaopjdpkhogaaGoP13
import Derived.Test.YtlhaopjdpkhogaaGoP14
import Derived.Test.YtlhaopjdpkhogaaGoP15
import Derived.Test.YtlhaopjdpkhogaaGoP19
import Derived.Test.YtlhaopjdpkhogaaGoP21
namespace Go.Proofs.Ytlhaopjdpkhogaa.P
open Go.RowKit Go.Proofs.YtlhaopjdpkhogaaW.PrintWords Go.Proofs.YtlhaopjdpkhogaaW.PrintLast Go.Proofs.YtlhaopjdpkhogaaW.PrintMore
attribute [local go_sem] max2_int min2_int max_two min_two max_three min_three max_four min_four   
set_option linter.unusedVariables false
set_option linter.unusedSimpArgs false
mutual
def balustradelaw17_GraphOrder.j0 : Nat → List Int → List (List Int) → List Bool → Bool → Option (Bool)
 | 0, _, _, _, _ => none
 | k + 1, x3, x4, x5, x42 => if x42 = true then (some false) else (balustradelaw17_GraphOrder.l0 k x3 x4 x5 0 0)
def balustradelaw17_GraphOrder.l0 : Nat → List Int → List (List Int) → List Bool → Int → Int → Option (Bool)
 | 0, _, _, _, _, _ => none
 | k + 1, x3, x4, x5, x6, x7 => if x7 < (x5.length : Int) then (if 0 ≤ x7 then (if rdOf false x5 x7 = true then (balustradelaw17_GraphOrder.l0 k x3 x4 x5 (wrap64 (x6 + 1)) (wrap64 (x7 + 1))) else (balustradelaw17_GraphOrder.l0 k x3 x4 x5 x6 (wrap64 (x7 + 1)))) else (none)) else (balustradelaw17_GraphOrder.l1 k x3 x4 x5 x6 0)
def balustradelaw17_GraphOrder.l1 : Nat → List Int → List (List Int) → List Bool → Int → Int → Option (Bool)
 | 0, _, _, _, _, _ => none
 | k + 1, x3, x4, x5, x6, x8 => if x8 < (x3.length : Int) then (if 0 ≤ x8 then (if (rd x3 x8) < 0 then (balustradelaw17_GraphOrder.j3 k x3 x4 x5 x6 x8 true) else (if (rd x3 x8) ≥ (x5.length : Int) then (balustradelaw17_GraphOrder.j3 k x3 x4 x5 x6 x8 true) else (if 0 ≤ (rd x3 x8) then (if (rd x3 x8) < (x5.length : Int) then (if (rdOf false x5 (rd x3 x8) = true) then (balustradelaw17_GraphOrder.j3 k x3 x4 x5 x6 x8 ((x8 == 0) != ((rd x3 x8) == 0))) else (balustradelaw17_GraphOrder.j3 k x3 x4 x5 x6 x8 true)) else (none)) else (none)))) else (none)) else (if x6 = (x3.length : Int) then ((balustradelaw17_works.f k).bind fun t541 => (some t541)) else (some false))
def balustradelaw17_GraphOrder.j3 : Nat → List Int → List (List Int) → List Bool → Int → Int → Bool → Option (Bool)
 | 0, _, _, _, _, _, _ => none
 | k + 1, x3, x4, x5, x6, x8, x94 => if x94 = true then (some false) else (balustradelaw17_GraphOrder.l2 k x3 x4 x5 x6 x8 (x8 == 0) 0)
def balustradelaw17_GraphOrder.l2 : Nat → List Int → List (List Int) → List Bool → Int → Int → Bool → Int → Option (Bool)
 | 0, _, _, _, _, _, _, _ => none
 | k + 1, x3, x4, x5, x6, x8, x9, x10 => if 0 ≤ x8 then (if x8 < (x3.length : Int) then (if 0 ≤ (rd x3 x8) then (if (rd x3 x8) < (x4.length : Int) then (if x10 < ((rd_L2 x4 (rd x3 x8)).length : Int) then (if x9 = true then (balustradelaw17_GraphOrder.l2 k x3 x4 x5 x6 x8 true (wrap64 (x10 + 1))) else (if x8 ≤ (x3.length : Int) then (if 0 ≤ x10 then ((balustradebase_HasInt.f k (x3.take (x8 : Int).toNat) (rd (rd_L2 x4 (rd x3 x8)) x10)).bind fun t556 => (balustradelaw17_GraphOrder.l2 k x3 x4 x5 x6 x8 t556 (wrap64 (x10 + 1)))) else (none)) else (none))) else (if x9 = true then (balustradelaw17_GraphOrder.l1 k x3 x4 x5 x6 (wrap64 (x8 + 1))) else (some false))) else (none)) else (none)) else (none)) else (none)
end
def balustradelaw17_GraphOrder.f (k : Nat) (a0_0 : ByteArray) (a0_1 : Int) (a0_2 : Int) (l0_3 : List Int) (l0_4 : List (List (S24))) : Option (Bool) := (balustraderef17_Few.f k a0_0 a0_1 a0_2 l0_3 l0_4).bind fun t526 => (if t526 = true then ((graph_Order.f k a0_0 a0_1 a0_2 l0_3 l0_4).bind fun t528 => ((graph_Preds.f k a0_0 a0_1 a0_2 l0_3 l0_4).bind fun t531 => ((graph_Reach.f k a0_0 a0_1 a0_2 l0_3 l0_4).bind fun t534 => (if (t531.length : Int) = (l0_4.length : Int) then (if (t534.length : Int) = (l0_4.length : Int) then ((balustradebase_Sorted.f k t528).bind fun t537 => (balustradelaw17_GraphOrder.j0 k t528 t531 t534 ((t537.length : Int) != (t528.length : Int)))) else (balustradelaw17_GraphOrder.j0 k t528 t531 t534 true)) else (balustradelaw17_GraphOrder.j0 k t528 t531 t534 true))))) else ((balustradelaw17_works.f k).bind fun t527 => (some t527)))
def balustradelaw17_GraphOrder.T3 : Bool × List (List Nat × List Nat) := (true, [([], []), ([0], [0]), ([], []), ([2, 1], [2]), ([], []), ([4, 3], [4]), ([1, 5, 0, 1], [1]), ([3, 6, 0, 1, 2, 3, 6], [3]), ([5, 7, 0, 1, 2, 3, 4, 5, 6, 7], [5])])
def balustradelaw17_GraphOrder.B3 : List Nat := [0, 1, 0, 7, 0, 31, 63, 127, 255]
theorem balustradelaw17_GraphOrder.tab3 : rtab .any (opsOf Try.f6 3) = balustradelaw17_GraphOrder.T3 := by kernel_rfl
theorem balustradelaw17_GraphOrder.bits3 : waitsOk balustradelaw17_GraphOrder.T3.2 balustradelaw17_GraphOrder.B3 = true := by kernel_rfl
def balustradelaw17_GraphOrder.T21 : Bool × List (List Nat × List Nat) := (true, [([], []), ([0], [0]), ([1], [1]), ([1], [1]), ([2, 3, 1], [1, 2, 3]), ([1], [1]), ([1], [1]), ([1], [1]), ([6, 7, 1], [1, 6, 7]), ([8, 1], [1, 8]), ([5, 9, 1], [1, 5, 9]), ([10, 1], [1, 10]), ([1], [1]), ([11, 12, 1], [1, 11, 12]), ([13, 1], [1, 13]), ([4, 14, 1, 1], [1, 4, 14]), ([1, 15], [1, 15]), ([16, 15, 0, 1, 2, 3, 4, 5, 6, 7, 8, 9, 10, 11, 12, 13, 14, 15, 16], [0, 16])])
def balustradelaw17_GraphOrder.B21 : List Nat := [0, 1, 3, 3, 15, 3, 3, 3, 195, 451, 995, 2019, 3, 8163, 16355, 32767, 65535, 131071]
theorem balustradelaw17_GraphOrder.tab21 : rtab .any (opsOf Try.f6 21) = balustradelaw17_GraphOrder.T21 := by kernel_rfl
theorem balustradelaw17_GraphOrder.bits21 : waitsOk balustradelaw17_GraphOrder.T21.2 balustradelaw17_GraphOrder.B21 = true := by kernel_rfl
set_option maxHeartbeats 8000000 in
set_option maxRecDepth 100000 in
theorem balustradelaw17_GraphOrder.calls (k : Nat) (a0_0 : ByteArray) (a0_1 : Int) (a0_2 : Int) (A0_3 : Option Addr) (c0_3 : Nat) (l0_3 : List Int) (A0_4 : Option Addr) (c0_4 : Nat) (l0_4 : List (List (S24))) (r : Bool) (w : World) (hr0_3 : Kd.C (Kd.int .i64) w A0_3 l0_3.length l0_3) (hc0_3 : l0_3.length ≤ c0_3) (hr0_4 : Kd.C (Kd.slice 24 k24) w A0_4 l0_4.length l0_4) (hc0_4 : l0_4.length ≤ c0_4) (h : balustradelaw17_GraphOrder.f k a0_0 a0_1 a0_2 l0_3 l0_4 = some r) :
  Calls Try.prog 6 #[.agg #[.string a0_0, .int .i64 a0_1, .int .i64 a0_2, .slice A0_3 l0_3.length c0_3, .slice A0_4 l0_4.length c0_4]] w fun e w' => e = .returned (.bool r) ∧ Below w.heap.size w w' := by
 have hu35 := Try.underlying35
 have HR0_3 := Aside0.mk hr0_3
 have HC0_3 := Aside0.mk hc0_3
 clear hr0_3 hc0_3
 have HR0_4 := Aside0.mk hr0_4
 have HC0_4 := Aside0.mk hc0_4
 clear hr0_4 hc0_4
 have HB := Aside0.mk (Below.refl w.heap.size w)
 have H : ((balustraderef17_Few.f k a0_0 a0_1 a0_2 l0_3 l0_4).bind fun t526 => (if t526 = true then ((graph_Order.f k a0_0 a0_1 a0_2 l0_3 l0_4).bind fun t528 => ((graph_Preds.f k a0_0 a0_1 a0_2 l0_3 l0_4).bind fun t531 => ((graph_Reach.f k a0_0 a0_1 a0_2 l0_3 l0_4).bind fun t534 => (if (t531.length : Int) = (l0_4.length : Int) then (if (t534.length : Int) = (l0_4.length : Int) then ((balustradebase_Sorted.f k t528).bind fun t537 => (balustradelaw17_GraphOrder.j0 k t528 t531 t534 ((t537.length : Int) != (t528.length : Int)))) else (balustradelaw17_GraphOrder.j0 k t528 t531 t534 true)) else (balustradelaw17_GraphOrder.j0 k t528 t531 t534 true))))) else ((balustradelaw17_works.f k).bind fun t527 => (some t527)))) = some r := h
 clear h
 replace H := Option.bind_eq_some_iff.mp H
 obtain ⟨t526, A20, H⟩ := H
 replace H : (if t526 = true then ((graph_Order.f k a0_0 a0_1 a0_2 l0_3 l0_4).bind fun t528 => ((graph_Preds.f k a0_0 a0_1 a0_2 l0_3 l0_4).bind fun t531 => ((graph_Reach.f k a0_0 a0_1 a0_2 l0_3 l0_4).bind fun t534 => (if (t531.length : Int) = (l0_4.length : Int) then (if (t534.length : Int) = (l0_4.length : Int) then ((balustradebase_Sorted.f k t528).bind fun t537 => (balustradelaw17_GraphOrder.j0 k t528 t531 t534 ((t537.length : Int) != (t528.length : Int)))) else (balustradelaw17_GraphOrder.j0 k t528 t531 t534 true)) else (balustradelaw17_GraphOrder.j0 k t528 t531 t534 true))))) else ((balustradelaw17_works.f k).bind fun t527 => (some t527))) = some r := H
 have A2 := Aside0.mk A20
 clear A20
 by_cases c3 : t526 = true
 ·subst c3
  have H1 : ((graph_Order.f k a0_0 a0_1 a0_2 l0_3 l0_4).bind fun t528 => ((graph_Preds.f k a0_0 a0_1 a0_2 l0_3 l0_4).bind fun t531 => ((graph_Reach.f k a0_0 a0_1 a0_2 l0_3 l0_4).bind fun t534 => (if (t531.length : Int) = (l0_4.length : Int) then (if (t534.length : Int) = (l0_4.length : Int) then ((balustradebase_Sorted.f k t528).bind fun t537 => (balustradelaw17_GraphOrder.j0 k t528 t531 t534 ((t537.length : Int) != (t528.length : Int)))) else (balustradelaw17_GraphOrder.j0 k t528 t531 t534 true)) else (balustradelaw17_GraphOrder.j0 k t528 t531 t534 true))))) = some r := by rw [if_pos rfl] at H; exact H
  clear H
  have H := H1
  clear H1
  replace H := Option.bind_eq_some_iff.mp H
  obtain ⟨t528, A40, H⟩ := H
  replace H : ((graph_Preds.f k a0_0 a0_1 a0_2 l0_3 l0_4).bind fun t531 => ((graph_Reach.f k a0_0 a0_1 a0_2 l0_3 l0_4).bind fun t534 => (if (t531.length : Int) = (l0_4.length : Int) then (if (t534.length : Int) = (l0_4.length : Int) then ((balustradebase_Sorted.f k t528).bind fun t537 => (balustradelaw17_GraphOrder.j0 k t528 t531 t534 ((t537.length : Int) != (t528.length : Int)))) else (balustradelaw17_GraphOrder.j0 k t528 t531 t534 true)) else (balustradelaw17_GraphOrder.j0 k t528 t531 t534 true)))) = some r := H
  have A4 := Aside0.mk A40
  clear A40
  replace H := Option.bind_eq_some_iff.mp H
  obtain ⟨t531, A50, H⟩ := H
  replace H : ((graph_Reach.f k a0_0 a0_1 a0_2 l0_3 l0_4).bind fun t534 => (if (t531.length : Int) = (l0_4.length : Int) then (if (t534.length : Int) = (l0_4.length : Int) then ((balustradebase_Sorted.f k t528).bind fun t537 => (balustradelaw17_GraphOrder.j0 k t528 t531 t534 ((t537.length : Int) != (t528.length : Int)))) else (balustradelaw17_GraphOrder.j0 k t528 t531 t534 true)) else (balustradelaw17_GraphOrder.j0 k t528 t531 t534 true))) = some r := H
  have A5 := Aside0.mk A50
  clear A50
  replace H := Option.bind_eq_some_iff.mp H
  obtain ⟨t534, A60, H⟩ := H
  replace H : (if (t531.length : Int) = (l0_4.length : Int) then (if (t534.length : Int) = (l0_4.length : Int) then ((balustradebase_Sorted.f k t528).bind fun t537 => (balustradelaw17_GraphOrder.j0 k t528 t531 t534 ((t537.length : Int) != (t528.length : Int)))) else (balustradelaw17_GraphOrder.j0 k t528 t531 t534 true)) else (balustradelaw17_GraphOrder.j0 k t528 t531 t534 true)) = some r := H
  have A6 := Aside0.mk A60
  clear A60
  have HC7 := Aside0.mk H
  clear H
  go_enter Try.func6, Try.ntmps6
  try go_wp2_with (first | ((with_reducible refine gate_dst (N := 1) rfl ?_); (try (refine gate_guard (by rfl) ?_; dsimp only)); refine box_event ?hg (N := 1) ?hd (cs := #[.string a0_0, .int .i64 a0_1, .int .i64 a0_2, .slice A0_3 l0_3.length c0_3, .slice A0_4 l0_4.length c0_4]) (t := 35) ?hr ?_; (case hd => rfl); (case hg => rfl); (case hr => first | (go_simp; done) | (go_simp; rfl)); intro gb525 hg w8 hbox hb; have n0_ := Aside0.mk (below_step (zB) hb); have n1_ := Aside0.mk (hbox); have n2_ := Aside0.mk ((by rw [hg]; exact (below_size (zB)) : w.heap.size ≤ gb525)); have n3_ := Aside0.mk ((by rw [hg]; exact (below_size (zB)) : w.heap.size ≤ gb525)); clear HB; have HB := n0_; have BK525 := n1_; have GW525 := n2_; have GE525 := n3_; clear n0_ n1_ n2_ n3_; clear hb hbox hg; have hcz9_0 : w8.cell? ⟨gb525, 0, none⟩ = some (.string a0_0) := (blk_cell BK525.out 0).trans rfl; have hcz9_1 : w8.cell? ⟨gb525, 1, none⟩ = some (.int .i64 a0_1) := (blk_cell BK525.out 1).trans rfl; have hcz9_2 : w8.cell? ⟨gb525, 2, none⟩ = some (.int .i64 a0_2) := (blk_cell BK525.out 2).trans rfl; have hcz9_3 : w8.cell? ⟨gb525, 3, none⟩ = some (.slice A0_3 l0_3.length c0_3) := (blk_cell BK525.out 3).trans rfl; have hcz9_4 : w8.cell? ⟨gb525, 4, none⟩ = some (.slice A0_4 l0_4.length c0_4) := (blk_cell BK525.out 4).trans rfl; have hfz9_0 := blk_frozen BK525.out 0; have hfz9_1 := blk_frozen BK525.out 1; have hfz9_2 := blk_frozen BK525.out 2; have hfz9_3 := blk_frozen BK525.out 3; have hfz9_4 := blk_frozen BK525.out 4) | ((with_reducible refine gate_callee (f := 25) rfl ?_); refine goesL_ (some 12) rfl rfl Try.func25 (by kernel_rfl) rfl #[.agg #[.string a0_0, .int .i64 a0_1, .int .i64 a0_2, .slice A0_3 l0_3.length c0_3, .slice A0_4 l0_4.length c0_4]] rfl zE ?_; (with_reducible refine (balustraderef17_Few.calls k a0_0 a0_1 a0_2 _ _ l0_3 _ _ l0_4 true _ ?side1 ?side2 ?side3 ?side4 A2.out).mono ?_); (case side1 => exact zC (Kd.C_below HR0_3.out HB.out)); (case side2 => exact HC0_3.out); (case side3 => exact zC (Kd.C_below HR0_4.out HB.out)); (case side4 => exact HC0_4.out); rintro e w10 ⟨rfl, hb⟩; refine ⟨_, rfl, ?_⟩; have n0_ := Aside0.mk (blk_below (g := gb525) (o := .cells #[.string a0_0, .int .i64 a0_1, .int .i64 a0_2, .slice A0_3 l0_3.length c0_3, .slice A0_4 l0_4.length c0_4] 35 (0, 0)) (by (with_reducible repeat (first | refine blk_drewN ?_ _ | refine blk_drew ?_ | refine blk_alloc ?_ _)); exact BK525.out) hb); have n1_ := Aside0.mk (below_step (by repeat (first | (with_reducible first | exact HB.out | apply below_alloc | apply pw_below_drewN | apply below_drew1 | refine below_set ?_ GE525.out) | exact HB.out)) hb); clear BK525; clear HB; have BK525 := n0_; have HB := n1_; clear n0_ n1_; (try clear hb); (try clear hb2); (try clear hk); (try clear hi)))
  have n0_ := Aside0.mk (blk_drew BK525.out)
  have n1_ := Aside0.mk (below_drew1 HB.out)
  clear BK525
  clear HB
  have BK525 := n0_
  have HB := n1_
  clear n0_ n1_
  refine start_ (n := 9) (S := fun w' => w'.cell? ⟨gb525, 0, none⟩ = some (.string a0_0) ∧ w'.cell? ⟨gb525, 1, none⟩ = some (.int .i64 a0_1) ∧ w'.cell? ⟨gb525, 2, none⟩ = some (.int .i64 a0_2) ∧ w'.cell? ⟨gb525, 3, none⟩ = some (.slice A0_3 l0_3.length c0_3) ∧ w'.cell? ⟨gb525, 4, none⟩ = some (.slice A0_4 l0_4.length c0_4)) (ds := []) #[false, false, false, false, false, false, false, false, false] (by kernel_rfl) rfl rfl ⟨(blk_cell BK525.out 0).trans rfl, (blk_cell BK525.out 1).trans rfl, (blk_cell BK525.out 2).trans rfl, (blk_cell BK525.out 3).trans rfl, (blk_cell BK525.out 4).trans rfl⟩ (fun hHeld => ?_); refine with_tabW balustradelaw17_GraphOrder.tab3 balustradelaw17_GraphOrder.bits3 (fun HT_ HW_ => ?_)
  generalize w10.drew = w11 at BK525 HB hHeld ⊢
  refine take_ (i := 0) (N := some 15) (v := ?_) (a' := ?_) #[true, false, false, false, false, false, false, false, false] rfl rfl (take_ofW HT_.out HW_.out (by kernel_rfl)) (fun _ _ _ h => h) (Or.inl ⟨by rfl, ?_⟩) hHeld ?_ ?_
  rotate_left
  ·rintro w' ⟨s0, s1, s2, s3, s4⟩
   go_simp
   with_reducible rfl
  rotate_left
  ·simp only [Act.put, List.setIfInBounds_toArray, List.set_cons_zero, List.set_cons_succ, i64_w, i32_w]
   rfl
  refine take_ (i := 2) (N := some 17) (v := ?_) (a' := ?_) #[true, false, true, false, false, false, false, false, false] rfl rfl (take_ofW HT_.out HW_.out (by kernel_rfl)) (fun _ _ _ h => h) (Or.inl ⟨by rfl, ?_⟩) hHeld ?_ ?_
  rotate_left
  ·rintro w' ⟨s0, s1, s2, s3, s4⟩
   go_simp
   with_reducible rfl
  rotate_left
  ·simp only [Act.put, List.setIfInBounds_toArray, List.set_cons_zero, List.set_cons_succ, i64_w, i32_w]
   rfl
  refine take_ (i := 4) (N := some 19) (v := ?_) (a' := ?_) #[true, false, true, false, true, false, false, false, false] rfl rfl (take_ofW HT_.out HW_.out (by kernel_rfl)) (fun _ _ _ h => h) (Or.inl ⟨by rfl, ?_⟩) hHeld ?_ ?_
  rotate_left
  ·rintro w' ⟨s0, s1, s2, s3, s4⟩
   go_simp
   with_reducible rfl
  rotate_left
  ·simp only [Act.put, List.setIfInBounds_toArray, List.set_cons_zero, List.set_cons_succ, i64_w, i32_w]
   rfl
  refine one_ (i := 1) (N := some 16) #[true, true, true, false, true, false, false, false, false] rfl rfl (one_of HT_.out (by kernel_rfl)) (by decide) (fun K hK => ?_)
  refine goes_ Try.func37 (by kernel_rfl) rfl #[.agg #[.string a0_0, .int .i64 a0_1, .int .i64 a0_2, .slice A0_3 l0_3.length c0_3, .slice A0_4 l0_4.length c0_4]] (by rfl) rfl rfl zE ?_
  with_reducible refine (graph_Order.calls k a0_0 a0_1 a0_2 _ _ l0_3 _ _ l0_4 t528 _ ?side1 ?side2 ?side3 ?side4 A4.out).mono ?_
  (case side1 => exact zC (Kd.C_below HR0_3.out HB.out))
  (case side2 => exact HC0_3.out)
  (case side3 => exact zC (Kd.C_below HR0_4.out HB.out))
  (case side4 => exact HC0_4.out)
  rintro e w12 ⟨v529, rfl, ho0, hb⟩
  refine ⟨_, rfl, ?_⟩
  have n0_ := Aside0.mk (Kd.R_lower ho0 (below_size (by repeat (first | (with_reducible first | exact HB.out | apply below_alloc | apply pw_below_drewN | apply below_drew1 | refine below_set ?_ GE525.out) | exact HB.out))))
  have n1_ := Aside0.mk (blk_below (g := gb525) (o := .cells #[.string a0_0, .int .i64 a0_1, .int .i64 a0_2, .slice A0_3 l0_3.length c0_3, .slice A0_4 l0_4.length c0_4] 35 (0, 0)) (by (with_reducible repeat (first | refine blk_drewN ?_ _ | refine blk_drew ?_ | refine blk_alloc ?_ _)); exact BK525.out) hb)
  have n2_ := Aside0.mk (below_step (by repeat (first | (with_reducible first | exact HB.out | apply below_alloc | apply pw_below_drewN | apply below_drew1 | refine below_set ?_ GE525.out) | exact HB.out)) hb)
  clear BK525
  clear HB
  have HO530 := n0_
  have BK525 := n1_
  have HB := n2_
  clear n0_ n1_ n2_
  (try clear hb)
  (try clear hb2)
  (try clear hk)
  (try clear hi)
  (try clear ho0)
  refine hK.out _ _ ⟨(blk_cell BK525.out 0).trans rfl, (blk_cell BK525.out 1).trans rfl, (blk_cell BK525.out 2).trans rfl, (blk_cell BK525.out 3).trans rfl, (blk_cell BK525.out 4).trans rfl⟩ (fun hHeld => ?_)
  clear hK K
  refine norm_ (a' := ?_) ?_ ?_
  rotate_left
  ·show Act.put _ (some 16) _ = _
   simp only [Act.put, List.setIfInBounds_toArray, List.set_cons_zero, List.set_cons_succ, i64_w, i32_w]
   rfl
  refine one_ (i := 3) (N := some 18) #[true, true, true, true, true, false, false, false, false] rfl rfl (one_of HT_.out (by kernel_rfl)) (by decide) (fun K hK => ?_)
  refine goes_ Try.func33 (by kernel_rfl) rfl #[.agg #[.string a0_0, .int .i64 a0_1, .int .i64 a0_2, .slice A0_3 l0_3.length c0_3, .slice A0_4 l0_4.length c0_4]] (by rfl) rfl rfl zE ?_
  with_reducible refine (graph_Preds.calls k a0_0 a0_1 a0_2 _ _ l0_3 _ _ l0_4 t531 _ ?side1 ?side2 ?side3 ?side4 A5.out).mono ?_
  (case side1 => exact zC (Kd.C_below HR0_3.out HB.out))
  (case side2 => exact HC0_3.out)
  (case side3 => exact zC (Kd.C_below HR0_4.out HB.out))
  (case side4 => exact HC0_4.out)
  rintro e w13 ⟨v532, rfl, ho0, hb⟩
  refine ⟨_, rfl, ?_⟩
  have n0_ := Aside0.mk (Kd.R_below (zR HO530.out) hb)
  have n1_ := Aside0.mk (Kd.S_lower (Kd.S_new' ho0 (Kd.R_lt (zR HO530.out))) (below_size (by repeat (first | (with_reducible first | exact HB.out | apply below_alloc | apply pw_below_drewN | apply below_drew1 | refine below_set ?_ GE525.out) | exact HB.out))))
  have n2_ := Aside0.mk (blk_below (g := gb525) (o := .cells #[.string a0_0, .int .i64 a0_1, .int .i64 a0_2, .slice A0_3 l0_3.length c0_3, .slice A0_4 l0_4.length c0_4] 35 (0, 0)) (by (with_reducible repeat (first | refine blk_drewN ?_ _ | refine blk_drew ?_ | refine blk_alloc ?_ _)); exact BK525.out) hb)
  have n3_ := Aside0.mk (below_step (by repeat (first | (with_reducible first | exact HB.out | apply below_alloc | apply pw_below_drewN | apply below_drew1 | refine below_set ?_ GE525.out) | exact HB.out)) hb)
  clear HO530
  clear BK525
  clear HB
  have HO530 := n0_
  have HO533 := n1_
  have BK525 := n2_
  have HB := n3_
  clear n0_ n1_ n2_ n3_
  (try clear hb)
  (try clear hb2)
  (try clear hk)
  (try clear hi)
  (try clear ho0)
  refine hK.out _ _ ⟨(blk_cell BK525.out 0).trans rfl, (blk_cell BK525.out 1).trans rfl, (blk_cell BK525.out 2).trans rfl, (blk_cell BK525.out 3).trans rfl, (blk_cell BK525.out 4).trans rfl⟩ (fun hHeld => ?_)
  clear hK K
  refine norm_ (a' := ?_) ?_ ?_
  rotate_left
  ·show Act.put _ (some 18) _ = _
   simp only [Act.put, List.setIfInBounds_toArray, List.set_cons_zero, List.set_cons_succ, i64_w, i32_w]
   rfl
  refine one_ (i := 5) (N := some 20) #[true, true, true, true, true, true, false, false, false] rfl rfl (one_of HT_.out (by kernel_rfl)) (by decide) (fun K hK => ?_)
  refine goes_ Try.func35 (by kernel_rfl) rfl #[.agg #[.string a0_0, .int .i64 a0_1, .int .i64 a0_2, .slice A0_3 l0_3.length c0_3, .slice A0_4 l0_4.length c0_4]] (by rfl) rfl rfl zE ?_
  with_reducible refine (graph_Reach.calls k a0_0 a0_1 a0_2 _ _ l0_3 _ _ l0_4 t534 _ ?side1 ?side2 ?side3 ?side4 A6.out).mono ?_
  (case side1 => exact zC (Kd.C_below HR0_3.out HB.out))
  (case side2 => exact HC0_3.out)
  (case side3 => exact zC (Kd.C_below HR0_4.out HB.out))
  (case side4 => exact HC0_4.out)
  rintro e w14 ⟨v535, rfl, ho0, hb⟩
  refine ⟨_, rfl, ?_⟩
  have n0_ := Aside0.mk (Kd.R_below (zR HO530.out) hb)
  have n1_ := Aside0.mk (Kd.S_below (by (with_reducible repeat (first | apply Kd.S_alloc | apply Kd.S_drewN | apply Kd.S_drew)); exact HO533.out) hb)
  have n2_ := Aside0.mk (Kd.R_lower ho0 (below_size (by repeat (first | (with_reducible first | exact HB.out | apply below_alloc | apply pw_below_drewN | apply below_drew1 | refine below_set ?_ GE525.out) | exact HB.out))))
  have n3_ := Aside0.mk (blk_below (g := gb525) (o := .cells #[.string a0_0, .int .i64 a0_1, .int .i64 a0_2, .slice A0_3 l0_3.length c0_3, .slice A0_4 l0_4.length c0_4] 35 (0, 0)) (by (with_reducible repeat (first | refine blk_drewN ?_ _ | refine blk_drew ?_ | refine blk_alloc ?_ _)); exact BK525.out) hb)
  have n4_ := Aside0.mk (below_step (by repeat (first | (with_reducible first | exact HB.out | apply below_alloc | apply pw_below_drewN | apply below_drew1 | refine below_set ?_ GE525.out) | exact HB.out)) hb)
  clear HO530
  clear HO533
  clear BK525
  clear HB
  have HO530 := n0_
  have HO533 := n1_
  have HO536 := n2_
  have BK525 := n3_
  have HB := n4_
  clear n0_ n1_ n2_ n3_ n4_
  (try clear hb)
  (try clear hb2)
  (try clear hk)
  (try clear hi)
  (try clear ho0)
  refine hK.out _ _ ⟨(blk_cell BK525.out 0).trans rfl, (blk_cell BK525.out 1).trans rfl, (blk_cell BK525.out 2).trans rfl, (blk_cell BK525.out 3).trans rfl, (blk_cell BK525.out 4).trans rfl⟩ (fun hHeld => ?_)
  clear hK K
  refine norm_ (a' := ?_) ?_ ?_
  rotate_left
  ·show Act.put _ (some 20) _ = _
   simp only [Act.put, List.setIfInBounds_toArray, List.set_cons_zero, List.set_cons_succ, i64_w, i32_w]
   rfl
  refine pure_ (i := 6) (N := some 3) (v := ?_) (a' := ?_) #[true, true, true, true, true, true, true, false, false] rfl rfl (any_of HT_.out (by kernel_rfl)) (fun _ _ _ h => h) (Or.inl ⟨by rfl, ?_⟩) ?_ ?_
  rotate_left
  ·intro w'
   go_simp
   with_reducible rfl
  rotate_left
  ·simp only [Act.put, List.setIfInBounds_toArray, List.set_cons_zero, List.set_cons_succ, i64_w, i32_w]
   rfl
  refine pure_ (i := 7) (N := some 4) (v := ?_) (a' := ?_) #[true, true, true, true, true, true, true, true, false] rfl rfl (any_of HT_.out (by kernel_rfl)) (fun _ _ _ h => h) (Or.inl ⟨by rfl, ?_⟩) ?_ ?_
  rotate_left
  ·intro w'
   go_simp
   with_reducible rfl
  rotate_left
  ·simp only [Act.put, List.setIfInBounds_toArray, List.set_cons_zero, List.set_cons_succ, i64_w, i32_w]
   rfl
  refine pure_ (i := 8) (N := some 5) (v := ?_) (a' := ?_) #[true, true, true, true, true, true, true, true, true] rfl rfl (any_of HT_.out (by kernel_rfl)) (fun _ _ _ h => h) (Or.inl ⟨by rfl, ?_⟩) ?_ ?_
  rotate_left
  ·intro w'
   go_simp
   with_reducible rfl
  rotate_left
  ·simp only [Act.put, List.setIfInBounds_toArray, List.set_cons_zero, List.set_cons_succ, i64_w, i32_w]
   rfl
  refine done_ (done_of HT_.out (by kernel_rfl)) ?_
  go_upto_region 4 with (fail)
  go_cut [42] (fun v42 wc => ∃ (kq : Nat) (x42_6 : Bool), v42 = .bool x42_6 ∧ Aside0 (balustradelaw17_GraphOrder.j0 kq t528 t531 t534 x42_6 = some r) ∧ Aside0 (kq ≤ k) ∧ Aside0 (Kd.R (Kd.int .i64) 3 wc w.heap.size (fun _ => True) v529 t528) ∧ Aside0 (Kd.S (Kd.slice 3 (Kd.int .i64)) 22 wc w.heap.size (fun k_ => some k_ ≠ (v529 : Value).ownBlock) v532 t531) ∧ Aside0 (Kd.R Kd.bool 4 wc w.heap.size (fun _ => True) v535 t534) ∧ Aside0 (wc.heap[gb525]? = some (.cells #[.string a0_0, .int .i64 a0_1, .int .i64 a0_2, (.slice A0_3 l0_3.length c0_3), (.slice A0_4 l0_4.length c0_4)] 35 (0, 0))) ∧ Aside0 (Below w.heap.size w wc))
  case first =>
   have H := HC7.out
   clear HC7
   by_cases c15 : (t531.length : Int) = (l0_4.length : Int)
   ·rw [if_pos c15] at H
    have c15b0 : ((t531.length : Int) == (l0_4.length : Int)) = true := beq_iff_eq.mpr c15
    have c15b1 : ((t531.length : Int) != (l0_4.length : Int)) = false := bne_eq_false_iff_eq.mpr c15
    have c15b2 : (t531.length == l0_4.length) = true := by first | simpa using c15 | (simp at c15 ⊢; omega)
    clear c15
    (first | rw [c15b0] | (simp only [i64_w, i32_w]; rw [c15b0]) | skip)
    by_cases c16 : (t534.length : Int) = (l0_4.length : Int)
    ·rw [if_pos c16] at H
     have c16b0 : ((t534.length : Int) == (l0_4.length : Int)) = true := beq_iff_eq.mpr c16
     have c16b1 : ((t534.length : Int) != (l0_4.length : Int)) = false := bne_eq_false_iff_eq.mpr c16
     have c16b2 : (t534.length == l0_4.length) = true := by first | simpa using c16 | (simp at c16 ⊢; omega)
     clear c16
     replace H := Option.bind_eq_some_iff.mp H
     obtain ⟨t537, A170, H⟩ := H
     replace H : (balustradelaw17_GraphOrder.j0 k t528 t531 t534 ((t537.length : Int) != (t528.length : Int))) = some r := H
     have A17 := Aside0.mk A170
     clear A170
     have H' := Aside0.mk H
     clear H
     obtain ⟨Ao18, co18, eo18⟩ := Kd.S_slice HO533.out
     subst eo18
     have hcz19_0 : w14.cell? ⟨gb525, 0, none⟩ = some (.string a0_0) := (blk_cell BK525.out 0).trans rfl
     have hcz19_1 : w14.cell? ⟨gb525, 1, none⟩ = some (.int .i64 a0_1) := (blk_cell BK525.out 1).trans rfl
     have hcz19_2 : w14.cell? ⟨gb525, 2, none⟩ = some (.int .i64 a0_2) := (blk_cell BK525.out 2).trans rfl
     have hcz19_3 : w14.cell? ⟨gb525, 3, none⟩ = some (.slice A0_3 l0_3.length c0_3) := (blk_cell BK525.out 3).trans rfl
     have hcz19_4 : w14.cell? ⟨gb525, 4, none⟩ = some (.slice A0_4 l0_4.length c0_4) := (blk_cell BK525.out 4).trans rfl
     have hfz19_0 := blk_frozen BK525.out 0
     have hfz19_1 := blk_frozen BK525.out 1
     have hfz19_2 := blk_frozen BK525.out 2
     have hfz19_3 := blk_frozen BK525.out 3
     have hfz19_4 := blk_frozen BK525.out 4
     obtain ⟨Ao20, co20, eo20⟩ := Kd.R_slice HO536.out
     subst eo20
     obtain ⟨Ao21, co21, eo21⟩ := Kd.R_slice HO530.out
     subst eo21
     go_wp2_with (first | (go_at_call 39; (with_reducible refine (balustradebase_Sorted.calls k _ _ t528 t537 _ ?side1 ?side2 A17.out).mono ?_); (case side1 => exact zC (Kd.R_reads' HO530.out).2.2); (case side2 => exact (Kd.R_reads' HO530.out).2.1); rintro e w22 ⟨v538, rfl, ho0, hb⟩; have n0_ := Aside0.mk (Kd.R_elder' (zR HO530.out) (Kd.R_base ho0) hb); have n1_ := Aside0.mk (Kd.S_elder' (by (with_reducible repeat (first | apply Kd.S_alloc | apply Kd.S_drewN | apply Kd.S_drew)); exact HO533.out) (Kd.R_base ho0) hb); have n2_ := Aside0.mk (Kd.R_below (zR HO536.out) hb); have n3_ := Aside0.mk (Kd.R_lower (Kd.R_new' ho0 (Kd.R_lt (zR HO530.out))) (below_size (by repeat (first | (with_reducible first | exact HB.out | apply below_alloc | apply pw_below_drewN | apply below_drew1 | refine below_set ?_ GE525.out) | exact HB.out)))); have n4_ := Aside0.mk (blk_below (g := gb525) (o := .cells #[.string a0_0, .int .i64 a0_1, .int .i64 a0_2, .slice A0_3 l0_3.length c0_3, .slice A0_4 l0_4.length c0_4] 35 (0, 0)) (by (with_reducible repeat (first | refine blk_drewN ?_ _ | refine blk_drew ?_ | refine blk_alloc ?_ _)); exact BK525.out) hb); have n5_ := Aside0.mk (below_step (by repeat (first | (with_reducible first | exact HB.out | apply below_alloc | apply pw_below_drewN | apply below_drew1 | refine below_set ?_ GE525.out) | exact HB.out)) hb); clear HO530; clear HO533; clear HO536; clear BK525; clear HB; have HO530 := n0_; have HO533 := n1_; have HO536 := n2_; have HO539 := n3_; have BK525 := n4_; have HB := n5_; clear n0_ n1_ n2_ n3_ n4_ n5_; (try clear hb); (try clear hb2); (try clear hk); (try clear hi); (try clear ho0); obtain ⟨Ao23, co23, eo23⟩ := Kd.R_slice HO539.out; subst eo23))
     go_meet
     case rel => exact ⟨_, (((t537.length : Int) != (t528.length : Int))), (by first | rfl | (simp; done) | (simp [*]; done)), H', ⟨by first | omega | exact Nat.le_refl _⟩, ⟨by (with_reducible repeat (first | apply Kd.R_alloc | apply Kd.R_drewN | apply Kd.R_drew)); exact Kd.R_mono HO530.out (fun _ hk => trivial)⟩, ⟨by (with_reducible repeat (first | apply Kd.S_alloc | apply Kd.S_drewN | apply Kd.S_drew)); exact Kd.S_mono HO533.out (fun _ hk => hk.1.2)⟩, ⟨zR HO536.out⟩, ⟨by (with_reducible repeat (first | refine blk_drewN ?_ _ | refine blk_drew ?_ | refine blk_alloc ?_ _)); exact BK525.out⟩, ⟨by repeat (first | (with_reducible first | exact HB.out | apply below_alloc | apply pw_below_drewN | apply below_drew1 | refine below_set ?_ GE525.out) | exact HB.out)⟩⟩
    ·rw [if_neg c16] at H
     have c16b0 : ((t534.length : Int) == (l0_4.length : Int)) = false := beq_eq_false_iff_ne.mpr c16
     have c16b1 : ((t534.length : Int) != (l0_4.length : Int)) = true := bne_iff_ne.mpr c16
     have c16b2 : (t534.length == l0_4.length) = false := by first | simpa using c16 | (simp at c16 ⊢; omega)
     have H' := Aside0.mk H
     clear H
     obtain ⟨Ao24, co24, eo24⟩ := Kd.S_slice HO533.out
     subst eo24
     have hcz25_0 : w14.cell? ⟨gb525, 0, none⟩ = some (.string a0_0) := (blk_cell BK525.out 0).trans rfl
     have hcz25_1 : w14.cell? ⟨gb525, 1, none⟩ = some (.int .i64 a0_1) := (blk_cell BK525.out 1).trans rfl
     have hcz25_2 : w14.cell? ⟨gb525, 2, none⟩ = some (.int .i64 a0_2) := (blk_cell BK525.out 2).trans rfl
     have hcz25_3 : w14.cell? ⟨gb525, 3, none⟩ = some (.slice A0_3 l0_3.length c0_3) := (blk_cell BK525.out 3).trans rfl
     have hcz25_4 : w14.cell? ⟨gb525, 4, none⟩ = some (.slice A0_4 l0_4.length c0_4) := (blk_cell BK525.out 4).trans rfl
     have hfz25_0 := blk_frozen BK525.out 0
     have hfz25_1 := blk_frozen BK525.out 1
     have hfz25_2 := blk_frozen BK525.out 2
     have hfz25_3 := blk_frozen BK525.out 3
     have hfz25_4 := blk_frozen BK525.out 4
     obtain ⟨Ao26, co26, eo26⟩ := Kd.R_slice HO536.out
     subst eo26
     go_wp2
     go_meet
     case rel => exact ⟨_, (true), (by first | rfl | (simp; done) | (simp [*]; done)), H', ⟨by first | omega | exact Nat.le_refl _⟩, ⟨zR HO530.out⟩, ⟨by (with_reducible repeat (first | apply Kd.S_alloc | apply Kd.S_drewN | apply Kd.S_drew)); exact Kd.S_mono HO533.out (fun _ hk => hk.2)⟩, ⟨zR HO536.out⟩, ⟨by (with_reducible repeat (first | refine blk_drewN ?_ _ | refine blk_drew ?_ | refine blk_alloc ?_ _)); exact BK525.out⟩, ⟨by repeat (first | (with_reducible first | exact HB.out | apply below_alloc | apply pw_below_drewN | apply below_drew1 | refine below_set ?_ GE525.out) | exact HB.out)⟩⟩
   ·rw [if_neg c15] at H
    have c15b0 : ((t531.length : Int) == (l0_4.length : Int)) = false := beq_eq_false_iff_ne.mpr c15
    have c15b1 : ((t531.length : Int) != (l0_4.length : Int)) = true := bne_iff_ne.mpr c15
    have c15b2 : (t531.length == l0_4.length) = false := by first | simpa using c15 | (simp at c15 ⊢; omega)
    (first | rw [c15b0] | (simp only [i64_w, i32_w]; rw [c15b0]) | skip)
    have H' := Aside0.mk H
    clear H
    obtain ⟨Ao27, co27, eo27⟩ := Kd.S_slice HO533.out
    subst eo27
    have hcz28_0 : w14.cell? ⟨gb525, 0, none⟩ = some (.string a0_0) := (blk_cell BK525.out 0).trans rfl
    have hcz28_1 : w14.cell? ⟨gb525, 1, none⟩ = some (.int .i64 a0_1) := (blk_cell BK525.out 1).trans rfl
    have hcz28_2 : w14.cell? ⟨gb525, 2, none⟩ = some (.int .i64 a0_2) := (blk_cell BK525.out 2).trans rfl
    have hcz28_3 : w14.cell? ⟨gb525, 3, none⟩ = some (.slice A0_3 l0_3.length c0_3) := (blk_cell BK525.out 3).trans rfl
    have hcz28_4 : w14.cell? ⟨gb525, 4, none⟩ = some (.slice A0_4 l0_4.length c0_4) := (blk_cell BK525.out 4).trans rfl
    have hfz28_0 := blk_frozen BK525.out 0
    have hfz28_1 := blk_frozen BK525.out 1
    have hfz28_2 := blk_frozen BK525.out 2
    have hfz28_3 := blk_frozen BK525.out 3
    have hfz28_4 := blk_frozen BK525.out 4
    go_wp2
    go_meet
    case rel => exact ⟨_, (true), (by first | rfl | (simp; done) | (simp [*]; done)), H', ⟨by first | omega | exact Nat.le_refl _⟩, ⟨zR HO530.out⟩, ⟨by (with_reducible repeat (first | apply Kd.S_alloc | apply Kd.S_drewN | apply Kd.S_drew)); exact Kd.S_mono HO533.out (fun _ hk => hk.2)⟩, ⟨zR HO536.out⟩, ⟨by (with_reducible repeat (first | refine blk_drewN ?_ _ | refine blk_drew ?_ | refine blk_alloc ?_ _)); exact BK525.out⟩, ⟨by repeat (first | (with_reducible first | exact HB.out | apply below_alloc | apply pw_below_drewN | apply below_drew1 | refine below_set ?_ GE525.out) | exact HB.out)⟩⟩
  case rest =>
   clear HC7
   try clear c1
   try clear c2
   try clear p2
   try clear c3
   try clear c6
   try clear c15
   try clear c15b0
   try clear c15b1
   try clear c15b2
   try clear c16
   try clear c16b0
   try clear c16b1
   try clear c16b2
   try clear c25
   try clear hcz19_0
   try clear hcz19_1
   try clear hcz19_2
   try clear hcz19_3
   try clear hcz19_4
   try clear hcz25_0
   try clear hcz25_1
   try clear hcz25_2
   try clear hcz25_3
   try clear hcz25_4
   try clear hcz28_0
   try clear hcz28_1
   try clear hcz28_2
   try clear hcz28_3
   try clear hcz28_4
   try clear hcz9_0
   try clear hcz9_1
   try clear hcz9_2
   try clear hcz9_3
   try clear hcz9_4
   try clear hfz19_0
   try clear hfz19_1
   try clear hfz19_2
   try clear hfz19_3
   try clear hfz19_4
   try clear hfz25_0
   try clear hfz25_1
   try clear hfz25_2
   try clear hfz25_3
   try clear hfz25_4
   try clear hfz28_0
   try clear hfz28_1
   try clear hfz28_2
   try clear hfz28_3
   try clear hfz28_4
   try clear hfz9_0
   try clear hfz9_1
   try clear hfz9_2
   try clear hfz9_3
   try clear hfz9_4
   obtain ⟨kq, x42_6, rfl, HA, HJ6, HO_3, HO_4, HO_5, BK525, HB⟩ := hcut
   cases kq with
   | zero => exact absurd HA.out (by simp [balustradelaw17_GraphOrder.j0])
   | succ kj6 =>
    have H := HA.out
    clear HA
    simp only [balustradelaw17_GraphOrder.j0] at H
    by_cases c29 : x42_6 = true
    ·subst c29
     have H1 : (some false) = some r := by rw [if_pos rfl] at H; exact H
     clear H
     have H := H1
     clear H1
     obtain rfl := Option.some.inj H
     go_wp2
     go_ret
     exact ⟨by first | rfl | (simp [errW_none, errW_some] <;> rfl) | (simp [*, errW_none, errW_some] <;> rfl), by repeat (first | (with_reducible first | exact HB.out | apply below_alloc | apply pw_below_drewN | apply below_drew1 | refine below_set ?_ GE525.out) | exact HB.out)⟩
    ·replace c29 := Bool.eq_false_iff.mpr c29
     subst c29
     have H1 : (balustradelaw17_GraphOrder.l0 kj6 t528 t531 t534 0 0) = some r := by rw [if_neg (show ¬ (false = true) by decide)] at H; exact H
     clear H
     have H := H1
     clear H1
     have H' := Aside0.mk H
     clear H
     go_wp2
     go_loopg [6, 7] kj6 (fun kq v6 v7 w' => ∃ (x6_2 : Int) (x7_2 : Int), v6 = .int .i64 x6_2 ∧ v7 = .int .i64 x7_2 ∧ Aside0 (balustradelaw17_GraphOrder.l0 kq t528 t531 t534 x6_2 x7_2 = some r) ∧ Aside0 (kq ≤ kj6) ∧ Aside0 (Kd.R (Kd.int .i64) 3 w' w.heap.size (fun _ => True) v529 t528) ∧ Aside0 (Kd.S (Kd.slice 3 (Kd.int .i64)) 22 w' w.heap.size (fun k_ => some k_ ≠ (v529 : Value).ownBlock) v532 t531) ∧ Aside0 (Kd.R Kd.bool 4 w' w.heap.size (fun _ => True) v535 t534) ∧ Aside0 (w'.heap[gb525]? = some (.cells #[.string a0_0, .int .i64 a0_1, .int .i64 a0_2, (.slice A0_3 l0_3.length c0_3), (.slice A0_4 l0_4.length c0_4)] 35 (0, 0))) ∧ Aside0 (Below w.heap.size w w'))
     case atStart => exact ⟨(0), (0), (by first | rfl | (simp; done) | (simp [*]; done)), (by first | rfl | (simp; done) | (simp [*]; done)), H', ⟨Nat.le_refl _⟩, ⟨zR HO_3.out⟩, ⟨by (with_reducible repeat (first | apply Kd.S_alloc | apply Kd.S_drewN | apply Kd.S_drew)); exact HO_4.out⟩, ⟨zR HO_5.out⟩, ⟨by (with_reducible repeat (first | refine blk_drewN ?_ _ | refine blk_drew ?_ | refine blk_alloc ?_ _)); exact BK525.out⟩, ⟨by repeat (first | (with_reducible first | exact HB.out | apply below_alloc | apply pw_below_drewN | apply below_drew1 | refine below_set ?_ GE525.out) | exact HB.out)⟩⟩
     case round =>
      clear H'
      try clear c1
      try clear c2
      try clear p2
      try clear c3
      try clear c6
      try clear c15
      try clear c15b0
      try clear c15b1
      try clear c15b2
      try clear c16
      try clear c16b0
      try clear c16b1
      try clear c16b2
      try clear c25
      try clear c29
      try clear hcz19_0
      try clear hcz19_1
      try clear hcz19_2
      try clear hcz19_3
      try clear hcz19_4
      try clear hcz25_0
      try clear hcz25_1
      try clear hcz25_2
      try clear hcz25_3
      try clear hcz25_4
      try clear hcz28_0
      try clear hcz28_1
      try clear hcz28_2
      try clear hcz28_3
      try clear hcz28_4
      try clear hcz9_0
      try clear hcz9_1
      try clear hcz9_2
      try clear hcz9_3
      try clear hcz9_4
      try clear hfz19_0
      try clear hfz19_1
      try clear hfz19_2
      try clear hfz19_3
      try clear hfz19_4
      try clear hfz25_0
      try clear hfz25_1
      try clear hfz25_2
      try clear hfz25_3
      try clear hfz25_4
      try clear hfz28_0
      try clear hfz28_1
      try clear hfz28_2
      try clear hfz28_3
      try clear hfz28_4
      try clear hfz9_0
      try clear hfz9_1
      try clear hfz9_2
      try clear hfz9_3
      try clear hfz9_4
      try clear p2
      obtain ⟨x6_2, x7_2, rfl, rfl, HA, HK2, HO_3, HO_4, HO_5, BK525, HB⟩ := hrel
      cases gk with
      | zero => exact absurd HA.out (by simp [balustradelaw17_GraphOrder.l0])
      | succ k2 =>
       have H := HA.out
       clear HA
       simp only [balustradelaw17_GraphOrder.l0] at H
       by_cases c30 : x7_2 < (t534.length : Int)
       ·rw [if_pos c30] at H
        have c30b0 : decide (x7_2 < (t534.length : Int)) = true := decide_eq_true c30
        clear c30
        by_cases c31 : 0 ≤ x7_2
        ·rw [if_pos c31] at H
         have c31b0 : decide (0 ≤ x7_2) = true := decide_eq_true c31
         clear c31
         obtain ⟨bq32, hbq32⟩ : ∃ b_ : Bool, b_ = (rdOf false t534 x7_2) := ⟨_, rfl⟩
         replace H : (if bq32 = true then (balustradelaw17_GraphOrder.l0 k2 t528 t531 t534 (wrap64 (x6_2 + 1)) (wrap64 (x7_2 + 1))) else (balustradelaw17_GraphOrder.l0 k2 t528 t531 t534 x6_2 (wrap64 (x7_2 + 1)))) = some r := by rw [← hbq32] at H; exact H
         have Nbq32 := Aside0.mk hbq32
         clear hbq32
         by_cases c33 : bq32 = true
         ·subst c33
          have H1 : (balustradelaw17_GraphOrder.l0 k2 t528 t531 t534 (wrap64 (x6_2 + 1)) (wrap64 (x7_2 + 1))) = some r := by rw [if_pos rfl] at H; exact H
          clear H
          have H := H1
          clear H1
          have H' := Aside0.mk H
          clear H
          obtain ⟨Ao34, co34, eo34⟩ := Kd.R_slice HO_5.out
          subst eo34
          have p540 : 0 ≤ (x7_2 : Int) := of_decide_eq_true (by first | (with_reducible assumption) | assumption)
          have q540 : x7_2 < (t534.length : Int) := of_decide_eq_true (by first | (with_reducible assumption) | assumption)
          obtain ⟨ad540, e540, hx540_0⟩ := Kd.at_bool (Kd.R_reads' HO_5.out).2.2 x7_2 p540 q540
          (try rw [← Nbq32.out] at hx540_0)
          cases e540
          replace p540 := eq_true p540
          replace q540 := eq_true q540
          go_wp2
          go_roundg k2
          case measure => have := HJ6.out; have := HK2.out; omega
          case rel => exact ⟨(wrap64 (x6_2 + 1)), (wrap64 (x7_2 + 1)), (by first | rfl | (simp; done) | (simp [*]; done)), (by first | rfl | (simp; done) | (simp [*]; done)), H', ⟨by have := HJ6.out; have := HK2.out; omega⟩, ⟨zR HO_3.out⟩, ⟨by (with_reducible repeat (first | apply Kd.S_alloc | apply Kd.S_drewN | apply Kd.S_drew)); exact HO_4.out⟩, ⟨zR HO_5.out⟩, ⟨by (with_reducible repeat (first | refine blk_drewN ?_ _ | refine blk_drew ?_ | refine blk_alloc ?_ _)); exact BK525.out⟩, ⟨by repeat (first | (with_reducible first | exact HB.out | apply below_alloc | apply pw_below_drewN | apply below_drew1 | refine below_set ?_ GE525.out) | exact HB.out)⟩⟩
         ·replace c33 := Bool.eq_false_iff.mpr c33
          subst c33
          have H1 : (balustradelaw17_GraphOrder.l0 k2 t528 t531 t534 x6_2 (wrap64 (x7_2 + 1))) = some r := by rw [if_neg (show ¬ (false = true) by decide)] at H; exact H
          clear H
          have H := H1
          clear H1
          have H' := Aside0.mk H
          clear H
          obtain ⟨Ao35, co35, eo35⟩ := Kd.R_slice HO_5.out
          subst eo35
          have p540 : 0 ≤ (x7_2 : Int) := of_decide_eq_true (by first | (with_reducible assumption) | assumption)
          have q540 : x7_2 < (t534.length : Int) := of_decide_eq_true (by first | (with_reducible assumption) | assumption)
          obtain ⟨ad540, e540, hx540_0⟩ := Kd.at_bool (Kd.R_reads' HO_5.out).2.2 x7_2 p540 q540
          (try rw [← Nbq32.out] at hx540_0)
          cases e540
          replace p540 := eq_true p540
          replace q540 := eq_true q540
          go_wp2
          go_roundg k2
          case measure => have := HJ6.out; have := HK2.out; omega
          case rel => exact ⟨(x6_2), (wrap64 (x7_2 + 1)), (by first | rfl | (simp; done) | (simp [*]; done)), (by first | rfl | (simp; done) | (simp [*]; done)), H', ⟨by have := HJ6.out; have := HK2.out; omega⟩, ⟨zR HO_3.out⟩, ⟨by (with_reducible repeat (first | apply Kd.S_alloc | apply Kd.S_drewN | apply Kd.S_drew)); exact HO_4.out⟩, ⟨zR HO_5.out⟩, ⟨by (with_reducible repeat (first | refine blk_drewN ?_ _ | refine blk_drew ?_ | refine blk_alloc ?_ _)); exact BK525.out⟩, ⟨by repeat (first | (with_reducible first | exact HB.out | apply below_alloc | apply pw_below_drewN | apply below_drew1 | refine below_set ?_ GE525.out) | exact HB.out)⟩⟩
        ·rw [if_neg c31] at H
         exact absurd H (by simp)
       ·rw [if_neg c30] at H
        have c30b0 : decide (x7_2 < (t534.length : Int)) = false := decide_eq_false c30
        clear c30
        have H' := Aside0.mk H
        clear H
        obtain ⟨Ao36, co36, eo36⟩ := Kd.R_slice HO_5.out
        subst eo36
        go_wp2
        go_loopg [8] k2 (fun kq v8 w' => ∃ (x8_3 : Int), v8 = .int .i64 x8_3 ∧ Aside0 (balustradelaw17_GraphOrder.l1 kq t528 t531 t534 x6_2 x8_3 = some r) ∧ Aside0 (kq ≤ k2) ∧ Aside0 (Kd.R (Kd.int .i64) 3 w' w.heap.size (fun _ => True) v529 t528) ∧ Aside0 (Kd.S (Kd.slice 3 (Kd.int .i64)) 22 w' w.heap.size (fun k_ => some k_ ≠ (v529 : Value).ownBlock) v532 t531) ∧ Aside0 (Kd.R Kd.bool 4 w' w.heap.size (fun _ => True) (.slice Ao36 t534.length co36) t534) ∧ Aside0 (w'.heap[gb525]? = some (.cells #[.string a0_0, .int .i64 a0_1, .int .i64 a0_2, (.slice A0_3 l0_3.length c0_3), (.slice A0_4 l0_4.length c0_4)] 35 (0, 0))) ∧ Aside0 (Below w.heap.size w w'))
        case atStart => exact ⟨(0), (by first | rfl | (simp; done) | (simp [*]; done)), H', ⟨Nat.le_refl _⟩, ⟨zR HO_3.out⟩, ⟨by (with_reducible repeat (first | apply Kd.S_alloc | apply Kd.S_drewN | apply Kd.S_drew)); exact HO_4.out⟩, ⟨zR HO_5.out⟩, ⟨by (with_reducible repeat (first | refine blk_drewN ?_ _ | refine blk_drew ?_ | refine blk_alloc ?_ _)); exact BK525.out⟩, ⟨by repeat (first | (with_reducible first | exact HB.out | apply below_alloc | apply pw_below_drewN | apply below_drew1 | refine below_set ?_ GE525.out) | exact HB.out)⟩⟩
        case round =>
         clear H'
         try clear c1
         try clear c2
         try clear p2
         try clear c3
         try clear q3
         try clear p5
         try clear q5
         try clear hx5
         try clear c6
         try clear p6
         try clear c15
         try clear c15b0
         try clear c15b1
         try clear c15b2
         try clear c16
         try clear c16b0
         try clear c16b1
         try clear c16b2
         try clear c25
         try clear c29
         try clear c30
         try clear c30b0
         try clear c31
         try clear c31b0
         try clear q32
         try clear c33
         try clear c35
         try clear hcz19_0
         try clear hcz19_1
         try clear hcz19_2
         try clear hcz19_3
         try clear hcz19_4
         try clear hcz25_0
         try clear hcz25_1
         try clear hcz25_2
         try clear hcz25_3
         try clear hcz25_4
         try clear hcz28_0
         try clear hcz28_1
         try clear hcz28_2
         try clear hcz28_3
         try clear hcz28_4
         try clear hcz9_0
         try clear hcz9_1
         try clear hcz9_2
         try clear hcz9_3
         try clear hcz9_4
         try clear hfz19_0
         try clear hfz19_1
         try clear hfz19_2
         try clear hfz19_3
         try clear hfz19_4
         try clear hfz25_0
         try clear hfz25_1
         try clear hfz25_2
         try clear hfz25_3
         try clear hfz25_4
         try clear hfz28_0
         try clear hfz28_1
         try clear hfz28_2
         try clear hfz28_3
         try clear hfz28_4
         try clear hfz9_0
         try clear hfz9_1
         try clear hfz9_2
         try clear hfz9_3
         try clear hfz9_4
         try clear hx540_0
         try clear p2
         try clear p540
         try clear q540
         obtain ⟨x8_3, rfl, HA, HK3, HO_3, HO_4, HO_5, BK525, HB⟩ := hrel
         cases gk with
         | zero => exact absurd HA.out (by simp [balustradelaw17_GraphOrder.l1])
         | succ k3 =>
          have H := HA.out
          clear HA
          simp only [balustradelaw17_GraphOrder.l1] at H
          by_cases c37 : x8_3 < (t528.length : Int)
          ·rw [if_pos c37] at H
           have c37b0 : decide (x8_3 < (t528.length : Int)) = true := decide_eq_true c37
           clear c37
           have HC38 := Aside0.mk H
           clear H
           obtain ⟨Ao39, co39, eo39⟩ := Kd.R_slice HO_3.out
           subst eo39
           go_upto_region 15 with (fail)
           go_cut [94] (fun v94 wc => ∃ (kq : Nat) (x94_37 : Bool), v94 = .bool x94_37 ∧ Aside0 (balustradelaw17_GraphOrder.j3 kq t528 t531 t534 x6_2 x8_3 x94_37 = some r) ∧ Aside0 (kq ≤ k3) ∧ Aside0 (Kd.R (Kd.int .i64) 3 wc w.heap.size (fun _ => True) (.slice Ao39 t528.length co39) t528) ∧ Aside0 (Kd.S (Kd.slice 3 (Kd.int .i64)) 22 wc w.heap.size (fun k_ => some k_ ≠ ((.slice Ao39 t528.length co39) : Value).ownBlock) v532 t531) ∧ Aside0 (Kd.R Kd.bool 4 wc w.heap.size (fun _ => True) (.slice Ao36 t534.length co36) t534) ∧ Aside0 (wc.heap[gb525]? = some (.cells #[.string a0_0, .int .i64 a0_1, .int .i64 a0_2, (.slice A0_3 l0_3.length c0_3), (.slice A0_4 l0_4.length c0_4)] 35 (0, 0))) ∧ Aside0 (Below w.heap.size w wc))
           case first =>
            have H := HC38.out
            clear HC38
            by_cases c40 : 0 ≤ x8_3
            ·rw [if_pos c40] at H
             have c40b0 : decide (0 ≤ x8_3) = true := decide_eq_true c40
             clear c40
             (first | rw [c40b0] | (simp only [i64_w, i32_w]; rw [c40b0]) | skip)
             by_cases c41 : (rd t528 x8_3) < 0
             ·rw [if_pos c41] at H
              have c41b0 : decide ((rd t528 x8_3) < 0) = true := decide_eq_true c41
              clear c41
              have H' := Aside0.mk H
              clear H
              have p542 : 0 ≤ (x8_3 : Int) := of_decide_eq_true (by first | (with_reducible assumption) | assumption)
              have q542 : x8_3 < (t528.length : Int) := of_decide_eq_true (by first | (with_reducible assumption) | assumption)
              obtain ⟨ad542, e542, hx542_0⟩ := Kd.at_int (Kd.R_reads' HO_3.out).2.2 x8_3 p542 q542
              cases e542
              replace p542 := eq_true p542
              replace q542 := eq_true q542
              go_wp2
              go_meet
              case rel => exact ⟨_, (true), (by first | rfl | (simp; done) | (simp [*]; done)), H', ⟨by have := HJ6.out; have := HK2.out; have := HK3.out; first | omega | exact Nat.le_refl _⟩, ⟨zR HO_3.out⟩, ⟨by (with_reducible repeat (first | apply Kd.S_alloc | apply Kd.S_drewN | apply Kd.S_drew)); exact HO_4.out⟩, ⟨zR HO_5.out⟩, ⟨by (with_reducible repeat (first | refine blk_drewN ?_ _ | refine blk_drew ?_ | refine blk_alloc ?_ _)); exact BK525.out⟩, ⟨by repeat (first | (with_reducible first | exact HB.out | apply below_alloc | apply pw_below_drewN | apply below_drew1 | refine below_set ?_ GE525.out) | exact HB.out)⟩⟩
             ·rw [if_neg c41] at H
              have c41b0 : decide ((rd t528 x8_3) < 0) = false := decide_eq_false c41
              clear c41
              by_cases c42 : (rd t528 x8_3) ≥ (t534.length : Int)
              ·rw [if_pos c42] at H
               have c42b0 : decide ((t534.length : Int) ≤ (rd t528 x8_3)) = true := decide_eq_true c42
               clear c42
               have H' := Aside0.mk H
               clear H
               have p542 : 0 ≤ (x8_3 : Int) := of_decide_eq_true (by first | (with_reducible assumption) | assumption)
               have q542 : x8_3 < (t528.length : Int) := of_decide_eq_true (by first | (with_reducible assumption) | assumption)
               obtain ⟨ad542, e542, hx542_0⟩ := Kd.at_int (Kd.R_reads' HO_3.out).2.2 x8_3 p542 q542
               cases e542
               replace p542 := eq_true p542
               replace q542 := eq_true q542
               have p543 : 0 ≤ (x8_3 : Int) := of_decide_eq_true (by first | (with_reducible assumption) | assumption)
               have q543 : x8_3 < (t528.length : Int) := of_decide_eq_true (by first | (with_reducible assumption) | assumption)
               obtain ⟨ad543, e543, hx543_0⟩ := Kd.at_int (Kd.R_reads' HO_3.out).2.2 x8_3 p543 q543
               obtain rfl : ad542 = ad543 := (by injection e543)
               replace p543 := eq_true p543
               replace q543 := eq_true q543
               go_wp2
               go_meet
               case rel => exact ⟨_, (true), (by first | rfl | (simp; done) | (simp [*]; done)), H', ⟨by have := HJ6.out; have := HK2.out; have := HK3.out; first | omega | exact Nat.le_refl _⟩, ⟨zR HO_3.out⟩, ⟨by (with_reducible repeat (first | apply Kd.S_alloc | apply Kd.S_drewN | apply Kd.S_drew)); exact HO_4.out⟩, ⟨zR HO_5.out⟩, ⟨by (with_reducible repeat (first | refine blk_drewN ?_ _ | refine blk_drew ?_ | refine blk_alloc ?_ _)); exact BK525.out⟩, ⟨by repeat (first | (with_reducible first | exact HB.out | apply below_alloc | apply pw_below_drewN | apply below_drew1 | refine below_set ?_ GE525.out) | exact HB.out)⟩⟩
              ·rw [if_neg c42] at H
               have c42b0 : decide ((t534.length : Int) ≤ (rd t528 x8_3)) = false := decide_eq_false c42
               clear c42
               by_cases c43 : 0 ≤ (rd t528 x8_3)
               ·rw [if_pos c43] at H
                have c43b0 : decide (0 ≤ (rd t528 x8_3)) = true := decide_eq_true c43
                clear c43
                by_cases c44 : (rd t528 x8_3) < (t534.length : Int)
                ·rw [if_pos c44] at H
                 have c44b0 : decide ((rd t528 x8_3) < (t534.length : Int)) = true := decide_eq_true c44
                 clear c44
                 obtain ⟨bq45, hbq45⟩ : ∃ b_ : Bool, b_ = (rdOf false t534 (rd t528 x8_3)) := ⟨_, rfl⟩
                 replace H : (if (bq45 = true) then (balustradelaw17_GraphOrder.j3 k3 t528 t531 t534 x6_2 x8_3 ((x8_3 == 0) != ((rd t528 x8_3) == 0))) else (balustradelaw17_GraphOrder.j3 k3 t528 t531 t534 x6_2 x8_3 true)) = some r := by rw [← hbq45] at H; exact H
                 have Nbq45 := Aside0.mk hbq45
                 clear hbq45
                 by_cases c46 : (bq45 = true)
                 ·subst c46
                  have H1 : (balustradelaw17_GraphOrder.j3 k3 t528 t531 t534 x6_2 x8_3 ((x8_3 == 0) != ((rd t528 x8_3) == 0))) = some r := by rw [if_pos rfl] at H; exact H
                  clear H
                  have H := H1
                  clear H1
                  have H' := Aside0.mk H
                  clear H
                  have p542 : 0 ≤ (x8_3 : Int) := of_decide_eq_true (by first | (with_reducible assumption) | assumption)
                  have q542 : x8_3 < (t528.length : Int) := of_decide_eq_true (by first | (with_reducible assumption) | assumption)
                  obtain ⟨ad542, e542, hx542_0⟩ := Kd.at_int (Kd.R_reads' HO_3.out).2.2 x8_3 p542 q542
                  cases e542
                  replace p542 := eq_true p542
                  replace q542 := eq_true q542
                  have p543 : 0 ≤ (x8_3 : Int) := of_decide_eq_true (by first | (with_reducible assumption) | assumption)
                  have q543 : x8_3 < (t528.length : Int) := of_decide_eq_true (by first | (with_reducible assumption) | assumption)
                  obtain ⟨ad543, e543, hx543_0⟩ := Kd.at_int (Kd.R_reads' HO_3.out).2.2 x8_3 p543 q543
                  obtain rfl : ad542 = ad543 := (by injection e543)
                  replace p543 := eq_true p543
                  replace q543 := eq_true q543
                  have p544 : 0 ≤ (x8_3 : Int) := of_decide_eq_true (by first | (with_reducible assumption) | assumption)
                  have q544 : x8_3 < (t528.length : Int) := of_decide_eq_true (by first | (with_reducible assumption) | assumption)
                  obtain ⟨ad544, e544, hx544_0⟩ := Kd.at_int (Kd.R_reads' HO_3.out).2.2 x8_3 p544 q544
                  obtain rfl : ad542 = ad544 := (by injection e544)
                  replace p544 := eq_true p544
                  replace q544 := eq_true q544
                  have p545 : 0 ≤ ((rd t528 x8_3) : Int) := of_decide_eq_true (by first | (with_reducible assumption) | assumption)
                  have q545 : (rd t528 x8_3) < (t534.length : Int) := of_decide_eq_true (by first | (with_reducible assumption) | assumption)
                  obtain ⟨ad545, e545, hx545_0⟩ := Kd.at_bool (Kd.R_reads' HO_5.out).2.2 (rd t528 x8_3) p545 q545
                  (try rw [← Nbq45.out] at hx545_0)
                  cases e545
                  replace p545 := eq_true p545
                  replace q545 := eq_true q545
                  have p546 : 0 ≤ (x8_3 : Int) := of_decide_eq_true (by first | (with_reducible assumption) | assumption)
                  have q546 : x8_3 < (t528.length : Int) := of_decide_eq_true (by first | (with_reducible assumption) | assumption)
                  obtain ⟨ad546, e546, hx546_0⟩ := Kd.at_int (Kd.R_reads' HO_3.out).2.2 x8_3 p546 q546
                  obtain rfl : ad542 = ad546 := (by injection e546)
                  replace p546 := eq_true p546
                  replace q546 := eq_true q546
                  go_wp2
                  go_meet
                  case rel => exact ⟨_, (((x8_3 == 0) != ((rd t528 x8_3) == 0))), (by first | rfl | (simp; done) | (simp [*]; done)), H', ⟨by have := HJ6.out; have := HK2.out; have := HK3.out; first | omega | exact Nat.le_refl _⟩, ⟨zR HO_3.out⟩, ⟨by (with_reducible repeat (first | apply Kd.S_alloc | apply Kd.S_drewN | apply Kd.S_drew)); exact HO_4.out⟩, ⟨zR HO_5.out⟩, ⟨by (with_reducible repeat (first | refine blk_drewN ?_ _ | refine blk_drew ?_ | refine blk_alloc ?_ _)); exact BK525.out⟩, ⟨by repeat (first | (with_reducible first | exact HB.out | apply below_alloc | apply pw_below_drewN | apply below_drew1 | refine below_set ?_ GE525.out) | exact HB.out)⟩⟩
                 ·replace c46 := Bool.eq_false_iff.mpr c46
                  subst c46
                  have H1 : (balustradelaw17_GraphOrder.j3 k3 t528 t531 t534 x6_2 x8_3 true) = some r := by rw [if_neg (show ¬ (false = true) by decide)] at H; exact H
                  clear H
                  have H := H1
                  clear H1
                  have H' := Aside0.mk H
                  clear H
                  have p542 : 0 ≤ (x8_3 : Int) := of_decide_eq_true (by first | (with_reducible assumption) | assumption)
                  have q542 : x8_3 < (t528.length : Int) := of_decide_eq_true (by first | (with_reducible assumption) | assumption)
                  obtain ⟨ad542, e542, hx542_0⟩ := Kd.at_int (Kd.R_reads' HO_3.out).2.2 x8_3 p542 q542
                  cases e542
                  replace p542 := eq_true p542
                  replace q542 := eq_true q542
                  have p543 : 0 ≤ (x8_3 : Int) := of_decide_eq_true (by first | (with_reducible assumption) | assumption)
                  have q543 : x8_3 < (t528.length : Int) := of_decide_eq_true (by first | (with_reducible assumption) | assumption)
                  obtain ⟨ad543, e543, hx543_0⟩ := Kd.at_int (Kd.R_reads' HO_3.out).2.2 x8_3 p543 q543
                  obtain rfl : ad542 = ad543 := (by injection e543)
                  replace p543 := eq_true p543
                  replace q543 := eq_true q543
                  have p544 : 0 ≤ (x8_3 : Int) := of_decide_eq_true (by first | (with_reducible assumption) | assumption)
                  have q544 : x8_3 < (t528.length : Int) := of_decide_eq_true (by first | (with_reducible assumption) | assumption)
                  obtain ⟨ad544, e544, hx544_0⟩ := Kd.at_int (Kd.R_reads' HO_3.out).2.2 x8_3 p544 q544
                  obtain rfl : ad542 = ad544 := (by injection e544)
                  replace p544 := eq_true p544
                  replace q544 := eq_true q544
                  have p545 : 0 ≤ ((rd t528 x8_3) : Int) := of_decide_eq_true (by first | (with_reducible assumption) | assumption)
                  have q545 : (rd t528 x8_3) < (t534.length : Int) := of_decide_eq_true (by first | (with_reducible assumption) | assumption)
                  obtain ⟨ad545, e545, hx545_0⟩ := Kd.at_bool (Kd.R_reads' HO_5.out).2.2 (rd t528 x8_3) p545 q545
                  (try rw [← Nbq45.out] at hx545_0)
                  cases e545
                  replace p545 := eq_true p545
                  replace q545 := eq_true q545
                  go_wp2
                  go_meet
                  case rel => exact ⟨_, (true), (by first | rfl | (simp; done) | (simp [*]; done)), H', ⟨by have := HJ6.out; have := HK2.out; have := HK3.out; first | omega | exact Nat.le_refl _⟩, ⟨zR HO_3.out⟩, ⟨by (with_reducible repeat (first | apply Kd.S_alloc | apply Kd.S_drewN | apply Kd.S_drew)); exact HO_4.out⟩, ⟨zR HO_5.out⟩, ⟨by (with_reducible repeat (first | refine blk_drewN ?_ _ | refine blk_drew ?_ | refine blk_alloc ?_ _)); exact BK525.out⟩, ⟨by repeat (first | (with_reducible first | exact HB.out | apply below_alloc | apply pw_below_drewN | apply below_drew1 | refine below_set ?_ GE525.out) | exact HB.out)⟩⟩
                ·rw [if_neg c44] at H
                 exact absurd H (by simp)
               ·rw [if_neg c43] at H
                exact absurd H (by simp)
            ·rw [if_neg c40] at H
             exact absurd H (by simp)
           case rest =>
            clear HC38
            try clear c1
            try clear c2
            try clear p2
            try clear c3
            try clear q3
            try clear c4
            try clear q4
            try clear p5
            try clear q5
            try clear hx5
            try clear c6
            try clear p6
            try clear c15
            try clear c15b0
            try clear c15b1
            try clear c15b2
            try clear c16
            try clear c16b0
            try clear c16b1
            try clear c16b2
            try clear c25
            try clear c29
            try clear c30
            try clear c30b0
            try clear c31
            try clear c31b0
            try clear q32
            try clear c33
            try clear c35
            try clear c37
            try clear c37b0
            try clear c40
            try clear c40b0
            try clear c41
            try clear c41b0
            try clear c42
            try clear c42b0
            try clear c43
            try clear c43b0
            try clear c44
            try clear c44b0
            try clear q45
            try clear c46
            try clear hcz19_0
            try clear hcz19_1
            try clear hcz19_2
            try clear hcz19_3
            try clear hcz19_4
            try clear hcz25_0
            try clear hcz25_1
            try clear hcz25_2
            try clear hcz25_3
            try clear hcz25_4
            try clear hcz28_0
            try clear hcz28_1
            try clear hcz28_2
            try clear hcz28_3
            try clear hcz28_4
            try clear hcz9_0
            try clear hcz9_1
            try clear hcz9_2
            try clear hcz9_3
            try clear hcz9_4
            try clear hfz19_0
            try clear hfz19_1
            try clear hfz19_2
            try clear hfz19_3
            try clear hfz19_4
            try clear hfz25_0
            try clear hfz25_1
            try clear hfz25_2
            try clear hfz25_3
            try clear hfz25_4
            try clear hfz28_0
            try clear hfz28_1
            try clear hfz28_2
            try clear hfz28_3
            try clear hfz28_4
            try clear hfz9_0
            try clear hfz9_1
            try clear hfz9_2
            try clear hfz9_3
            try clear hfz9_4
            try clear hx540_0
            try clear hx542_0
            try clear hx543_0
            try clear hx544_0
            try clear hx545_0
            try clear hx546_0
            try clear p2
            try clear p5
            try clear p540
            try clear p542
            try clear p543
            try clear p544
            try clear p545
            try clear p546
            try clear p6
            try clear q3
            try clear q32
            try clear q5
            try clear q540
            try clear q542
            try clear q543
            try clear q544
            try clear q545
            try clear q546
            obtain ⟨kq, x94_37, rfl, HA, HJ37, HO_3, HO_4, HO_5, BK525, HB⟩ := hcut
            cases kq with
            | zero => exact absurd HA.out (by simp [balustradelaw17_GraphOrder.j3])
            | succ kj37 =>
             have H := HA.out
             clear HA
             simp only [balustradelaw17_GraphOrder.j3] at H
             by_cases c47 : x94_37 = true
             ·subst c47
              have H1 : (some false) = some r := by rw [if_pos rfl] at H; exact H
              clear H
              have H := H1
              clear H1
              obtain rfl := Option.some.inj H
              go_wp2
              go_ret
              exact ⟨by first | rfl | (simp [errW_none, errW_some] <;> rfl) | (simp [*, errW_none, errW_some] <;> rfl), by repeat (first | (with_reducible first | exact HB.out | apply below_alloc | apply pw_below_drewN | apply below_drew1 | refine below_set ?_ GE525.out) | exact HB.out)⟩
             ·replace c47 := Bool.eq_false_iff.mpr c47
              subst c47
              have H1 : (balustradelaw17_GraphOrder.l2 kj37 t528 t531 t534 x6_2 x8_3 (x8_3 == 0) 0) = some r := by rw [if_neg (show ¬ (false = true) by decide)] at H; exact H
              clear H
              have H := H1
              clear H1
              have H' := Aside0.mk H
              clear H
              go_wp2
              go_loopg [9, 10] kj37 (fun kq v9 v10 w' => ∃ (x9_5 : Bool) (x10_5 : Int), v9 = .bool x9_5 ∧ v10 = .int .i64 x10_5 ∧ Aside0 (balustradelaw17_GraphOrder.l2 kq t528 t531 t534 x6_2 x8_3 x9_5 x10_5 = some r) ∧ Aside0 (kq ≤ kj37) ∧ Aside0 (Kd.R (Kd.int .i64) 3 w' w.heap.size (fun _ => True) (.slice Ao39 t528.length co39) t528) ∧ Aside0 (Kd.S (Kd.slice 3 (Kd.int .i64)) 22 w' w.heap.size (fun k_ => some k_ ≠ ((.slice Ao39 t528.length co39) : Value).ownBlock) v532 t531) ∧ Aside0 (Kd.R Kd.bool 4 w' w.heap.size (fun _ => True) (.slice Ao36 t534.length co36) t534) ∧ Aside0 (w'.heap[gb525]? = some (.cells #[.string a0_0, .int .i64 a0_1, .int .i64 a0_2, (.slice A0_3 l0_3.length c0_3), (.slice A0_4 l0_4.length c0_4)] 35 (0, 0))) ∧ Aside0 (Below w.heap.size w w'))
              case atStart => exact ⟨((x8_3 == 0)), (0), (by first | rfl | (simp; done) | (simp [*]; done)), (by first | rfl | (simp; done) | (simp [*]; done)), H', ⟨Nat.le_refl _⟩, ⟨zR HO_3.out⟩, ⟨by (with_reducible repeat (first | apply Kd.S_alloc | apply Kd.S_drewN | apply Kd.S_drew)); exact HO_4.out⟩, ⟨zR HO_5.out⟩, ⟨by (with_reducible repeat (first | refine blk_drewN ?_ _ | refine blk_drew ?_ | refine blk_alloc ?_ _)); exact BK525.out⟩, ⟨by repeat (first | (with_reducible first | exact HB.out | apply below_alloc | apply pw_below_drewN | apply below_drew1 | refine below_set ?_ GE525.out) | exact HB.out)⟩⟩
              case round =>
               clear H'
               try clear c1
               try clear c2
               try clear p2
               try clear c3
               try clear q3
               try clear c4
               try clear q4
               try clear p5
               try clear q5
               try clear hx5
               try clear c6
               try clear p6
               try clear c15
               try clear c15b0
               try clear c15b1
               try clear c15b2
               try clear c16
               try clear c16b0
               try clear c16b1
               try clear c16b2
               try clear c25
               try clear c29
               try clear c30
               try clear c30b0
               try clear c31
               try clear c31b0
               try clear q32
               try clear c33
               try clear c35
               try clear c37
               try clear c37b0
               try clear c40
               try clear c40b0
               try clear c41
               try clear c41b0
               try clear c42
               try clear c42b0
               try clear c43
               try clear c43b0
               try clear c44
               try clear c44b0
               try clear q45
               try clear c46
               try clear c47
               try clear hcz19_0
               try clear hcz19_1
               try clear hcz19_2
               try clear hcz19_3
               try clear hcz19_4
               try clear hcz25_0
               try clear hcz25_1
               try clear hcz25_2
               try clear hcz25_3
               try clear hcz25_4
               try clear hcz28_0
               try clear hcz28_1
               try clear hcz28_2
               try clear hcz28_3
               try clear hcz28_4
               try clear hcz9_0
               try clear hcz9_1
               try clear hcz9_2
               try clear hcz9_3
               try clear hcz9_4
               try clear hfz19_0
               try clear hfz19_1
               try clear hfz19_2
               try clear hfz19_3
               try clear hfz19_4
               try clear hfz25_0
               try clear hfz25_1
               try clear hfz25_2
               try clear hfz25_3
               try clear hfz25_4
               try clear hfz28_0
               try clear hfz28_1
               try clear hfz28_2
               try clear hfz28_3
               try clear hfz28_4
               try clear hfz9_0
               try clear hfz9_1
               try clear hfz9_2
               try clear hfz9_3
               try clear hfz9_4
               try clear hx540_0
               try clear hx542_0
               try clear hx543_0
               try clear hx544_0
               try clear hx545_0
               try clear hx546_0
               try clear p2
               try clear p5
               try clear p540
               try clear p542
               try clear p543
               try clear p544
               try clear p545
               try clear p546
               try clear p6
               try clear q3
               try clear q32
               try clear q4
               try clear q45
               try clear q5
               try clear q540
               try clear q542
               try clear q543
               try clear q544
               try clear q545
               try clear q546
               obtain ⟨x9_5, x10_5, rfl, rfl, HA, HK5, HO_3, HO_4, HO_5, BK525, HB⟩ := hrel
               cases gk with
               | zero => exact absurd HA.out (by simp [balustradelaw17_GraphOrder.l2])
               | succ k5 =>
                have H := HA.out
                clear HA
                simp only [balustradelaw17_GraphOrder.l2] at H
                by_cases c48 : 0 ≤ x8_3
                ·rw [if_pos c48] at H
                 have c48b0 : decide (0 ≤ x8_3) = true := decide_eq_true c48
                 clear c48
                 by_cases c49 : x8_3 < (t528.length : Int)
                 ·rw [if_pos c49] at H
                  have c49b0 : decide (x8_3 < (t528.length : Int)) = true := decide_eq_true c49
                  clear c49
                  by_cases c50 : 0 ≤ (rd t528 x8_3)
                  ·rw [if_pos c50] at H
                   have c50b0 : decide (0 ≤ (rd t528 x8_3)) = true := decide_eq_true c50
                   clear c50
                   by_cases c51 : (rd t528 x8_3) < (t531.length : Int)
                   ·rw [if_pos c51] at H
                    have c51b0 : decide ((rd t528 x8_3) < (t531.length : Int)) = true := decide_eq_true c51
                    clear c51
                    by_cases c52 : x10_5 < ((rd_L2 t531 (rd t528 x8_3)).length : Int)
                    ·rw [if_pos c52] at H
                     have c52b0 : decide (x10_5 < ((rd_L2 t531 (rd t528 x8_3)).length : Int)) = true := decide_eq_true c52
                     clear c52
                     by_cases c53 : x9_5 = true
                     ·subst c53
                      have H1 : (balustradelaw17_GraphOrder.l2 k5 t528 t531 t534 x6_2 x8_3 true (wrap64 (x10_5 + 1))) = some r := by rw [if_pos rfl] at H; exact H
                      clear H
                      have H := H1
                      clear H1
                      have H' := Aside0.mk H
                      clear H
                      have p547 : 0 ≤ (x8_3 : Int) := of_decide_eq_true (by first | (with_reducible assumption) | assumption)
                      have q547 : x8_3 < (t528.length : Int) := of_decide_eq_true (by first | (with_reducible assumption) | assumption)
                      obtain ⟨ad547, e547, hx547_0⟩ := Kd.at_int (Kd.R_reads' HO_3.out).2.2 x8_3 p547 q547
                      cases e547
                      replace p547 := eq_true p547
                      replace q547 := eq_true q547
                      obtain ⟨Ao54, co54, eo54⟩ := Kd.S_slice HO_4.out
                      subst eo54
                      have p548 : 0 ≤ ((rd t528 x8_3) : Int) := of_decide_eq_true (by first | (with_reducible assumption) | assumption)
                      have q548 : (rd t528 x8_3) < (t531.length : Int) := of_decide_eq_true (by first | (with_reducible assumption) | assumption)
                      obtain ⟨ad548, A548_0, c548_0, e548, hx548_0, hl548_0, hi548_0⟩ := at_L2 (Kd.S_reads' HO_4.out).2.2 (rd t528 x8_3) p548 q548
                      cases e548
                      obtain ⟨ce548, hce548, hMe548, hcc548⟩ := Kd.S_get HO_4.out [] (rd t528 x8_3) p548 (by first | exact q548 | exact of_decide_eq_true (by first | (with_reducible assumption) | assumption) | (have e_ := (Kd.S_reads' HO_4.out).1; omega))
                      obtain ⟨ve548_0, rfl, ge548_0⟩ := hMe548
                      have hv548_0 := hcc548 0 _ rfl
                      rw [Nat.add_zero, show ((Kd.slice 3 (Kd.int .i64))).sz = 1 from rfl, Nat.mul_one] at hv548_0
                      replace hv548_0 := Option.some.inj (hv548_0.symm.trans hx548_0)
                      rw [hv548_0] at ge548_0
                      have HL548_0 := Aside0.mk (show Kd.R (Kd.int .i64) 3 _ _ _ _ (rd_L2 t531 (rd t528 x8_3)) from ge548_0)
                      clear hv548_0 ge548_0
                      clear hcc548 hce548
                      have HR548_0 := Aside0.mk hi548_0
                      have HC548_0 := Aside0.mk hl548_0
                      clear hi548_0 hl548_0
                      replace p548 := eq_true p548
                      replace q548 := eq_true q548
                      try go_wp2
                      have n0_ := Aside0.mk (Kd.R_drew HO_3.out)
                      have n1_ := Aside0.mk (Kd.S_drew HO_4.out)
                      have n2_ := Aside0.mk (Kd.R_drew HO_5.out)
                      have n3_ := Aside0.mk (Kd.R_drew HL548_0.out)
                      have n4_ := Aside0.mk (blk_drew BK525.out)
                      have n5_ := Aside0.mk (Kd.C_drew HR548_0.out)
                      have n6_ := Aside0.mk (below_drew1 HB.out)
                      clear HO_3
                      clear HO_4
                      clear HO_5
                      clear HL548_0
                      clear BK525
                      clear HR548_0
                      clear HB
                      have HO_3 := n0_
                      have HO_4 := n1_
                      have HO_5 := n2_
                      have HL548_0 := n3_
                      have BK525 := n4_
                      have HR548_0 := n5_
                      have HB := n6_
                      clear n0_ n1_ n2_ n3_ n4_ n5_ n6_
                      refine start_ (n := 18) (S := fun w' => True) (ds := []) #[false, false, false, false, false, false, false, false, false, false, false, false, false, false, false, false, false, false] (by kernel_rfl) rfl rfl trivial (fun hHeld => ?_); refine with_tabW balustradelaw17_GraphOrder.tab21 balustradelaw17_GraphOrder.bits21 (fun HT_ HW_ => ?_)
                      generalize wr.drew = w55 at HO_3 HO_4 HO_5 HL548_0 BK525 HR548_0 HB hHeld ⊢
                      refine pure_ (i := 0) (N := some 109) (v := ?_) (a' := ?_) #[true, false, false, false, false, false, false, false, false, false, false, false, false, false, false, false, false, false] rfl rfl (any_of HT_.out (by kernel_rfl)) (fun _ _ _ h => h) (Or.inl ⟨by rfl, ?_⟩) ?_ ?_
                      rotate_left
                      ·intro w'
                       go_simp
                       with_reducible rfl
                      rotate_left
                      ·simp only [Act.put, List.setIfInBounds_toArray, List.set_cons_zero, List.set_cons_succ, i64_w, i32_w]
                       rfl
                      refine pure_ (i := 1) (N := some 110) (v := ?_) (a' := ?_) #[true, true, false, false, false, false, false, false, false, false, false, false, false, false, false, false, false, false] rfl rfl (any_of HT_.out (by kernel_rfl)) (fun _ _ _ h => h) (Or.inl ⟨by rfl, ?_⟩) ?_ ?_
                      rotate_left
                      ·intro w'
                       go_simp
                       with_reducible rfl
                      rotate_left
                      ·simp only [Act.put, List.setIfInBounds_toArray, List.set_cons_zero, List.set_cons_succ, i64_w, i32_w]
                       rfl
                      refine pure_ (i := 2) (N := some 111) (v := undef) (a' := ?_) #[true, true, true, false, false, false, false, false, false, false, false, false, false, false, false, false, false, false] rfl rfl (any_of HT_.out (by kernel_rfl)) (fun _ _ _ h => h) (Or.inr ⟨by rfl, rfl⟩) ?_ ?_
                      rotate_left
                      ·simp only [Act.put, List.setIfInBounds_toArray, List.set_cons_zero, List.set_cons_succ, i64_w, i32_w]
                       rfl
                      refine pure_ (i := 3) (N := some 112) (v := undef) (a' := ?_) #[true, true, true, true, false, false, false, false, false, false, false, false, false, false, false, false, false, false] rfl rfl (any_of HT_.out (by kernel_rfl)) (fun _ _ _ h => h) (Or.inr ⟨by rfl, rfl⟩) ?_ ?_
                      rotate_left
                      ·simp only [Act.put, List.setIfInBounds_toArray, List.set_cons_zero, List.set_cons_succ, i64_w, i32_w]
                       rfl
                      refine pure_ (i := 4) (N := some 113) (v := undef) (a' := ?_) #[true, true, true, true, true, false, false, false, false, false, false, false, false, false, false, false, false, false] rfl rfl (any_of HT_.out (by kernel_rfl)) (fun _ _ _ h => h) (Or.inr ⟨by rfl, rfl⟩) ?_ ?_
                      rotate_left
                      ·simp only [Act.put, List.setIfInBounds_toArray, List.set_cons_zero, List.set_cons_succ, i64_w, i32_w]
                       rfl
                      refine pure_ (i := 5) (N := some 114) (v := undef) (a' := ?_) #[true, true, true, true, true, true, false, false, false, false, false, false, false, false, false, false, false, false] rfl rfl (any_of HT_.out (by kernel_rfl)) (fun _ _ _ h => h) (Or.inr ⟨by rfl, rfl⟩) ?_ ?_
                      rotate_left
                      ·simp only [Act.put, List.setIfInBounds_toArray, List.set_cons_zero, List.set_cons_succ, i64_w, i32_w]
                       rfl
                      refine pure_ (i := 6) (N := some 115) (v := undef) (a' := ?_) #[true, true, true, true, true, true, true, false, false, false, false, false, false, false, false, false, false, false] rfl rfl (any_of HT_.out (by kernel_rfl)) (fun _ _ _ h => h) (Or.inr ⟨by rfl, rfl⟩) ?_ ?_
                      rotate_left
                      ·simp only [Act.put, List.setIfInBounds_toArray, List.set_cons_zero, List.set_cons_succ, i64_w, i32_w]
                       rfl
                      refine pure_ (i := 7) (N := some 116) (v := undef) (a' := ?_) #[true, true, true, true, true, true, true, true, false, false, false, false, false, false, false, false, false, false] rfl rfl (any_of HT_.out (by kernel_rfl)) (fun _ _ _ h => h) (Or.inr ⟨by rfl, rfl⟩) ?_ ?_
                      rotate_left
                      ·simp only [Act.put, List.setIfInBounds_toArray, List.set_cons_zero, List.set_cons_succ, i64_w, i32_w]
                       rfl
                      refine pure_ (i := 8) (N := some 117) (v := undef) (a' := ?_) #[true, true, true, true, true, true, true, true, true, false, false, false, false, false, false, false, false, false] rfl rfl (any_of HT_.out (by kernel_rfl)) (fun _ _ _ h => h) (Or.inr ⟨by rfl, rfl⟩) ?_ ?_
                      rotate_left
                      ·simp only [Act.put, List.setIfInBounds_toArray, List.set_cons_zero, List.set_cons_succ, i64_w, i32_w]
                       rfl
                      refine pure_ (i := 9) (N := some 118) (v := undef) (a' := ?_) #[true, true, true, true, true, true, true, true, true, true, false, false, false, false, false, false, false, false] rfl rfl (any_of HT_.out (by kernel_rfl)) (fun _ _ _ h => h) (Or.inr ⟨by rfl, rfl⟩) ?_ ?_
                      rotate_left
                      ·simp only [Act.put, List.setIfInBounds_toArray, List.set_cons_zero, List.set_cons_succ, i64_w, i32_w]
                       rfl
                      refine pure_ (i := 10) (N := some 119) (v := undef) (a' := ?_) #[true, true, true, true, true, true, true, true, true, true, true, false, false, false, false, false, false, false] rfl rfl (any_of HT_.out (by kernel_rfl)) (fun _ _ _ h => h) (Or.inr ⟨by rfl, rfl⟩) ?_ ?_
                      rotate_left
                      ·simp only [Act.put, List.setIfInBounds_toArray, List.set_cons_zero, List.set_cons_succ, i64_w, i32_w]
                       rfl
                      refine pure_ (i := 11) (N := some 120) (v := undef) (a' := ?_) #[true, true, true, true, true, true, true, true, true, true, true, true, false, false, false, false, false, false] rfl rfl (any_of HT_.out (by kernel_rfl)) (fun _ _ _ h => h) (Or.inr ⟨by rfl, rfl⟩) ?_ ?_
                      rotate_left
                      ·simp only [Act.put, List.setIfInBounds_toArray, List.set_cons_zero, List.set_cons_succ, i64_w, i32_w]
                       rfl
                      refine pure_ (i := 12) (N := some 121) (v := undef) (a' := ?_) #[true, true, true, true, true, true, true, true, true, true, true, true, true, false, false, false, false, false] rfl rfl (any_of HT_.out (by kernel_rfl)) (fun _ _ _ h => h) (Or.inr ⟨by rfl, rfl⟩) ?_ ?_
                      rotate_left
                      ·simp only [Act.put, List.setIfInBounds_toArray, List.set_cons_zero, List.set_cons_succ, i64_w, i32_w]
                       rfl
                      refine pure_ (i := 13) (N := some 122) (v := undef) (a' := ?_) #[true, true, true, true, true, true, true, true, true, true, true, true, true, true, false, false, false, false] rfl rfl (any_of HT_.out (by kernel_rfl)) (fun _ _ _ h => h) (Or.inr ⟨by rfl, rfl⟩) ?_ ?_
                      rotate_left
                      ·simp only [Act.put, List.setIfInBounds_toArray, List.set_cons_zero, List.set_cons_succ, i64_w, i32_w]
                       rfl
                      refine pure_ (i := 14) (N := some 123) (v := undef) (a' := ?_) #[true, true, true, true, true, true, true, true, true, true, true, true, true, true, true, false, false, false] rfl rfl (any_of HT_.out (by kernel_rfl)) (fun _ _ _ h => h) (Or.inr ⟨by rfl, rfl⟩) ?_ ?_
                      rotate_left
                      ·simp only [Act.put, List.setIfInBounds_toArray, List.set_cons_zero, List.set_cons_succ, i64_w, i32_w]
                       rfl
                      refine pure_ (i := 15) (N := some 124) (v := undef) (a' := ?_) #[true, true, true, true, true, true, true, true, true, true, true, true, true, true, true, true, false, false] rfl rfl (any_of HT_.out (by kernel_rfl)) (fun _ _ _ h => h) (Or.inr ⟨by rfl, rfl⟩) ?_ ?_
                      rotate_left
                      ·simp only [Act.put, List.setIfInBounds_toArray, List.set_cons_zero, List.set_cons_succ, i64_w, i32_w]
                       rfl
                      refine pure_ (i := 16) (N := some 125) (v := ?_) (a' := ?_) #[true, true, true, true, true, true, true, true, true, true, true, true, true, true, true, true, true, false] rfl rfl (any_of HT_.out (by kernel_rfl)) (fun _ _ _ h => h) (Or.inl ⟨by rfl, ?_⟩) ?_ ?_
                      rotate_left
                      ·intro w'
                       go_simp
                       with_reducible rfl
                      rotate_left
                      ·simp only [Act.put, List.setIfInBounds_toArray, List.set_cons_zero, List.set_cons_succ, i64_w, i32_w]
                       rfl
                      refine pure_ (i := 17) (N := some 9) (v := ?_) (a' := ?_) #[true, true, true, true, true, true, true, true, true, true, true, true, true, true, true, true, true, true] rfl rfl (any_of HT_.out (by kernel_rfl)) (fun _ _ _ h => h) (Or.inl ⟨by rfl, ?_⟩) ?_ ?_
                      rotate_left
                      ·intro w'
                       go_simp
                       with_reducible rfl
                      rotate_left
                      ·simp only [Act.put, List.setIfInBounds_toArray, List.set_cons_zero, List.set_cons_succ, i64_w, i32_w]
                       rfl
                      refine done_ (done_of HT_.out (by kernel_rfl)) ?_
                      try go_wp2
                      go_roundg k5
                      case measure => have := HJ6.out; have := HK2.out; have := HK3.out; have := HJ37.out; have := HK5.out; omega
                      case rel => exact ⟨(true), (wrap64 (x10_5 + 1)), (by first | rfl | (simp; done) | (simp [*]; done)), (by first | rfl | (simp; done) | (simp [*]; done)), H', ⟨by have := HJ6.out; have := HK2.out; have := HK3.out; have := HJ37.out; have := HK5.out; omega⟩, ⟨zR HO_3.out⟩, ⟨by (with_reducible repeat (first | apply Kd.S_alloc | apply Kd.S_drewN | apply Kd.S_drew)); exact HO_4.out⟩, ⟨zR HO_5.out⟩, ⟨by (with_reducible repeat (first | refine blk_drewN ?_ _ | refine blk_drew ?_ | refine blk_alloc ?_ _)); exact BK525.out⟩, ⟨by repeat (first | (with_reducible first | exact HB.out | apply below_alloc | apply pw_below_drewN | apply below_drew1 | refine below_set ?_ GE525.out) | exact HB.out)⟩⟩
                     ·replace c53 := Bool.eq_false_iff.mpr c53
                      subst c53
                      have H1 : (if x8_3 ≤ (t528.length : Int) then (if 0 ≤ x10_5 then ((balustradebase_HasInt.f k5 (t528.take (x8_3 : Int).toNat) (rd (rd_L2 t531 (rd t528 x8_3)) x10_5)).bind fun t556 => (balustradelaw17_GraphOrder.l2 k5 t528 t531 t534 x6_2 x8_3 t556 (wrap64 (x10_5 + 1)))) else (none)) else (none)) = some r := by rw [if_neg (show ¬ (false = true) by decide)] at H; exact H
                      clear H
                      have H := H1
                      clear H1
                      have c56b0 := eq_true (of_decide_eq_true (by first | (with_reducible assumption) | assumption) : 0 ≤ x8_3)
                      by_cases c57 : x8_3 ≤ (t528.length : Int)
                      ·rw [if_pos c57] at H
                       have c57b0 := eq_true c57
                       have c57b1 : decide (x8_3 ≤ (t528.length : Int)) = true := decide_eq_true c57
                       clear c57
                       obtain ⟨y549, hy549⟩ : ∃ y_ : List Int, y_ = (t528.take (x8_3 : Int).toNat) := ⟨_, rfl⟩
                       replace H : (if 0 ≤ x10_5 then ((balustradebase_HasInt.f k5 y549 (rd (rd_L2 t531 (rd t528 x8_3)) x10_5)).bind fun t556 => (balustradelaw17_GraphOrder.l2 k5 t528 t531 t534 x6_2 x8_3 t556 (wrap64 (x10_5 + 1)))) else (none)) = some r := by first | (rw [hy549]; with_reducible exact H) | (have H2_ := (Option.bind_some _ _).symm.trans H; rw [hy549]; with_reducible exact H2_) | (have H2_ := (Option.bind_some _ _).symm.trans H; with_reducible exact H2_) | with_reducible exact H | (rw [hy549]; exact H) | exact H
                       have Ny549 := Aside0.mk hy549
                       clear hy549
                       by_cases c58 : 0 ≤ x10_5
                       ·rw [if_pos c58] at H
                        have c58b0 : decide (0 ≤ x10_5) = true := decide_eq_true c58
                        clear c58
                        replace H := Option.bind_eq_some_iff.mp H
                        obtain ⟨t556, A590, H⟩ := H
                        replace H : (balustradelaw17_GraphOrder.l2 k5 t528 t531 t534 x6_2 x8_3 t556 (wrap64 (x10_5 + 1))) = some r := H
                        have A59 := Aside0.mk A590
                        clear A590
                        have H' := Aside0.mk H
                        clear H
                        have p547 : 0 ≤ (x8_3 : Int) := of_decide_eq_true (by first | (with_reducible assumption) | assumption)
                        have q547 : x8_3 < (t528.length : Int) := of_decide_eq_true (by first | (with_reducible assumption) | assumption)
                        obtain ⟨ad547, e547, hx547_0⟩ := Kd.at_int (Kd.R_reads' HO_3.out).2.2 x8_3 p547 q547
                        cases e547
                        replace p547 := eq_true p547
                        replace q547 := eq_true q547
                        obtain ⟨Ao60, co60, eo60⟩ := Kd.S_slice HO_4.out
                        subst eo60
                        have p548 : 0 ≤ ((rd t528 x8_3) : Int) := of_decide_eq_true (by first | (with_reducible assumption) | assumption)
                        have q548 : (rd t528 x8_3) < (t531.length : Int) := of_decide_eq_true (by first | (with_reducible assumption) | assumption)
                        obtain ⟨ad548, A548_0, c548_0, e548, hx548_0, hl548_0, hi548_0⟩ := at_L2 (Kd.S_reads' HO_4.out).2.2 (rd t528 x8_3) p548 q548
                        cases e548
                        obtain ⟨ce548, hce548, hMe548, hcc548⟩ := Kd.S_get HO_4.out [] (rd t528 x8_3) p548 (by first | exact q548 | exact of_decide_eq_true (by first | (with_reducible assumption) | assumption) | (have e_ := (Kd.S_reads' HO_4.out).1; omega))
                        obtain ⟨ve548_0, rfl, ge548_0⟩ := hMe548
                        have hv548_0 := hcc548 0 _ rfl
                        rw [Nat.add_zero, show ((Kd.slice 3 (Kd.int .i64))).sz = 1 from rfl, Nat.mul_one] at hv548_0
                        replace hv548_0 := Option.some.inj (hv548_0.symm.trans hx548_0)
                        rw [hv548_0] at ge548_0
                        have HL548_0 := Aside0.mk (show Kd.R (Kd.int .i64) 3 _ _ _ _ (rd_L2 t531 (rd t528 x8_3)) from ge548_0)
                        clear hv548_0 ge548_0
                        clear hcc548 hce548
                        have HR548_0 := Aside0.mk hi548_0
                        have HC548_0 := Aside0.mk hl548_0
                        clear hi548_0 hl548_0
                        replace p548 := eq_true p548
                        replace q548 := eq_true q548
                        try go_wp2
                        have n0_ := Aside0.mk (Kd.R_drew HO_3.out)
                        have n1_ := Aside0.mk (Kd.S_drew HO_4.out)
                        have n2_ := Aside0.mk (Kd.R_drew HO_5.out)
                        have n3_ := Aside0.mk (Kd.R_drew HL548_0.out)
                        have n4_ := Aside0.mk (blk_drew BK525.out)
                        have n5_ := Aside0.mk (Kd.C_drew HR548_0.out)
                        have n6_ := Aside0.mk (below_drew1 HB.out)
                        clear HO_3
                        clear HO_4
                        clear HO_5
                        clear HL548_0
                        clear BK525
                        clear HR548_0
                        clear HB
                        have HO_3 := n0_
                        have HO_4 := n1_
                        have HO_5 := n2_
                        have HL548_0 := n3_
                        have BK525 := n4_
                        have HR548_0 := n5_
                        have HB := n6_
                        clear n0_ n1_ n2_ n3_ n4_ n5_ n6_
                        have q62 : (x8_3 : Int) ≤ ((t528.length : Int) : Int) := of_decide_eq_true (by first | (with_reducible assumption) | assumption)
                        obtain ⟨i062, hi062, _, hsz62, _⟩ := info_parts info3
                        have hroom62 : t528.length ≤ co39 := (Kd.R_reads' HO_3.out).2.1
                        have hC62 : Kd.C (Kd.int .i64) _ (some ad547) t528.length t528 := (Kd.R_reads' HO_3.out).2.2
                        have hcut62 := cut_to (P := Try.prog) 22 3 .i64 Try.underlying22 hi062 (some ad547) t528.length co39 x8_3 (of_decide_eq_true (by first | (with_reducible assumption) | assumption)) q62 hroom62
                        have hr62 := Kd.C_take (m := (x8_3 : Int).toNat) hC62 (by omega)
                        have hy62 : y549.length = (x8_3 : Int).toNat := (by rw [Ny549.out, List.length_take]; omega)
                        rw [← Ny549.out] at hr62
                        rw [← hy62] at hcut62
                        have HR552 := Aside0.mk hr62
                        have HC552 := Aside0.mk (show y549.length ≤ co39 from by omega)
                        clear hr62 hC62 hroom62 hi062 hsz62
                        have KY62 := Aside0.mk hy62
                        clear hy62
                        have KL62 := Aside0.mk (show (x8_3 : Int).toNat ≤ t528.length from by omega)
                        replace q62 := eq_true q62
                        have p553 : 0 ≤ (x8_3 : Int) := of_decide_eq_true (by first | (with_reducible assumption) | assumption)
                        have q553 : x8_3 < (t528.length : Int) := of_decide_eq_true (by first | (with_reducible assumption) | assumption)
                        obtain ⟨ad553, e553, hx553_0⟩ := Kd.at_int (Kd.R_reads' HO_3.out).2.2 x8_3 p553 q553
                        obtain rfl : ad547 = ad553 := (by injection e553)
                        replace p553 := eq_true p553
                        replace q553 := eq_true q553
                        have p554 : 0 ≤ ((rd t528 x8_3) : Int) := of_decide_eq_true (by first | (with_reducible assumption) | assumption)
                        have q554 : (rd t528 x8_3) < (t531.length : Int) := of_decide_eq_true (by first | (with_reducible assumption) | assumption)
                        obtain ⟨ad554, A554_0, c554_0, e554, hx554_0, hl554_0, hi554_0⟩ := at_L2 (Kd.S_reads' HO_4.out).2.2 (rd t528 x8_3) p554 q554
                        obtain rfl : ad548 = ad554 := (by injection e554)
                        obtain ⟨ce554, hce554, hMe554, hcc554⟩ := Kd.S_get HO_4.out [] (rd t528 x8_3) p554 (by first | exact q554 | exact of_decide_eq_true (by first | (with_reducible assumption) | assumption) | (have e_ := (Kd.S_reads' HO_4.out).1; omega))
                        obtain ⟨ve554_0, rfl, ge554_0⟩ := hMe554
                        have hv554_0 := hcc554 0 _ rfl
                        rw [Nat.add_zero, show ((Kd.slice 3 (Kd.int .i64))).sz = 1 from rfl, Nat.mul_one] at hv554_0
                        replace hv554_0 := Option.some.inj (hv554_0.symm.trans hx554_0)
                        rw [hv554_0] at ge554_0
                        have HL554_0 := Aside0.mk (show Kd.R (Kd.int .i64) 3 _ _ _ _ (rd_L2 t531 (rd t528 x8_3)) from ge554_0)
                        clear hv554_0 ge554_0
                        clear hcc554 hce554
                        have HR554_0 := Aside0.mk hi554_0
                        have HC554_0 := Aside0.mk hl554_0
                        clear hi554_0 hl554_0
                        replace p554 := eq_true p554
                        replace q554 := eq_true q554
                        have p555 : 0 ≤ (x10_5 : Int) := of_decide_eq_true (by first | (with_reducible assumption) | assumption)
                        have q555 : x10_5 < ((rd_L2 t531 (rd t528 x8_3)).length : Int) := of_decide_eq_true (by first | (with_reducible assumption) | assumption)
                        obtain ⟨ad555, e555, hx555_0⟩ := Kd.at_int (by repeat (first | (with_reducible exact HR554_0.out) | (with_reducible refine Kd.C_alloc ?_ _) | (with_reducible refine Kd.C_drewN ?_ _) | (with_reducible refine Kd.C_drew ?_) | exact HR554_0.out)) x10_5 p555 q555
                        cases e555
                        replace p555 := eq_true p555
                        replace q555 := eq_true q555
                        refine start_ (n := 18) (S := fun w' => w'.cell? (ad547.add (x8_3).toNat) = some (.int .i64 (rd t528 x8_3)) ∧ w'.cell? (ad548.add ((rd t528 x8_3)).toNat) = some (.slice (some ad555) (rd_L2 t531 (rd t528 x8_3)).length c554_0) ∧ w'.cell? (ad555.add (x10_5).toNat) = some (.int .i64 (rd (rd_L2 t531 (rd t528 x8_3)) x10_5))) (ds := []) #[false, false, false, false, false, false, false, false, false, false, false, false, false, false, false, false, false, false] (by kernel_rfl) rfl rfl ⟨hx553_0, hx554_0, hx555_0⟩ (fun hHeld => ?_); refine with_tabW balustradelaw17_GraphOrder.tab21 balustradelaw17_GraphOrder.bits21 (fun HT_ HW_ => ?_)
                        generalize wr.drew = w61 at HO_3 HO_4 HO_5 HL548_0 BK525 HR548_0 HB HL554_0 HR552 HR554_0 hx553_0 hx554_0 hx555_0 hHeld ⊢
                        refine pure_ (i := 0) (N := some 109) (v := ?_) (a' := ?_) #[true, false, false, false, false, false, false, false, false, false, false, false, false, false, false, false, false, false] rfl rfl (any_of HT_.out (by kernel_rfl)) (fun _ _ _ h => h) (Or.inl ⟨by rfl, ?_⟩) ?_ ?_
                        rotate_left
                        ·intro w'
                         go_simp
                         with_reducible rfl
                        rotate_left
                        ·simp only [Act.put, List.setIfInBounds_toArray, List.set_cons_zero, List.set_cons_succ, i64_w, i32_w]
                         rfl
                        refine pure_ (i := 1) (N := some 110) (v := ?_) (a' := ?_) #[true, true, false, false, false, false, false, false, false, false, false, false, false, false, false, false, false, false] rfl rfl (any_of HT_.out (by kernel_rfl)) (fun _ _ _ h => h) (Or.inl ⟨by rfl, ?_⟩) ?_ ?_
                        rotate_left
                        ·intro w'
                         go_simp
                         with_reducible rfl
                        rotate_left
                        ·simp only [Act.put, List.setIfInBounds_toArray, List.set_cons_zero, List.set_cons_succ, i64_w, i32_w]
                         rfl
                        refine pure_ (i := 2) (N := some 111) (v := ?_) (a' := ?_) #[true, true, true, false, false, false, false, false, false, false, false, false, false, false, false, false, false, false] rfl rfl (any_of HT_.out (by kernel_rfl)) (fun _ _ _ h => h) (Or.inl ⟨by rfl, ?_⟩) ?_ ?_
                        rotate_left
                        ·intro w'
                         go_simp
                         with_reducible rfl
                        rotate_left
                        ·simp only [Act.put, List.setIfInBounds_toArray, List.set_cons_zero, List.set_cons_succ, i64_w, i32_w]
                         rfl
                        refine pure_ (i := 3) (N := some 112) (v := ?_) (a' := ?_) #[true, true, true, true, false, false, false, false, false, false, false, false, false, false, false, false, false, false] rfl rfl (any_of HT_.out (by kernel_rfl)) (fun _ _ _ h => h) (Or.inl ⟨by rfl, ?_⟩) ?_ ?_
                        rotate_left
                        ·intro w'
                         go_simp
                         with_reducible rfl
                        rotate_left
                        ·simp only [Act.put, List.setIfInBounds_toArray, List.set_cons_zero, List.set_cons_succ, i64_w, i32_w]
                         rfl
                        refine pure_ (i := 4) (N := some 113) (v := ?_) (a' := ?_) #[true, true, true, true, true, false, false, false, false, false, false, false, false, false, false, false, false, false] rfl rfl (any_of HT_.out (by kernel_rfl)) (fun _ _ _ h => h) (Or.inl ⟨by rfl, ?_⟩) ?_ ?_
                        rotate_left
                        ·intro w'
                         go_simp
                         with_reducible rfl
                        rotate_left
                        ·simp only [Act.put, List.setIfInBounds_toArray, List.set_cons_zero, List.set_cons_succ, i64_w, i32_w]
                         rfl
                        refine pure_ (i := 5) (N := some 114) (v := ?_) (a' := ?_) #[true, true, true, true, true, true, false, false, false, false, false, false, false, false, false, false, false, false] rfl rfl (any_of HT_.out (by kernel_rfl)) (fun _ _ _ h => h) (Or.inl ⟨by rfl, ?_⟩) ?_ ?_
                        rotate_left
                        ·intro w'
                         go_simp
                         with_reducible rfl
                        rotate_left
                        ·simp only [Act.put, List.setIfInBounds_toArray, List.set_cons_zero, List.set_cons_succ, i64_w, i32_w]
                         rfl
                        refine pure_ (i := 6) (N := some 115) (v := ?_) (a' := ?_) #[true, true, true, true, true, true, true, false, false, false, false, false, false, false, false, false, false, false] rfl rfl (any_of HT_.out (by kernel_rfl)) (fun _ _ _ h => h) (Or.inl ⟨by rfl, ?_⟩) ?_ ?_
                        rotate_left
                        ·intro w'
                         go_simp
                         with_reducible rfl
                        rotate_left
                        ·simp only [Act.put, List.setIfInBounds_toArray, List.set_cons_zero, List.set_cons_succ, i64_w, i32_w]
                         rfl
                        refine pure_ (i := 7) (N := some 116) (v := ?_) (a' := ?_) #[true, true, true, true, true, true, true, true, false, false, false, false, false, false, false, false, false, false] rfl rfl (any_of HT_.out (by kernel_rfl)) (fun _ _ _ h => h) (Or.inl ⟨by rfl, ?_⟩) ?_ ?_
                        rotate_left
                        ·intro w'
                         go_simp
                         with_reducible rfl
                        rotate_left
                        ·simp only [Act.put, List.setIfInBounds_toArray, List.set_cons_zero, List.set_cons_succ, i64_w, i32_w]
                         rfl
                        refine pure_ (i := 8) (N := some 117) (v := ?_) (a' := ?_) #[true, true, true, true, true, true, true, true, true, false, false, false, false, false, false, false, false, false] rfl rfl (any_of HT_.out (by kernel_rfl)) (fun _ _ _ h => h) (Or.inl ⟨by rfl, ?_⟩) ?_ ?_
                        rotate_left
                        ·intro w'
                         go_simp
                         with_reducible rfl
                        rotate_left
                        ·simp only [Act.put, List.setIfInBounds_toArray, List.set_cons_zero, List.set_cons_succ, i64_w, i32_w]
                         rfl
                        refine pure_ (i := 12) (N := some 121) (v := ?_) (a' := ?_) #[true, true, true, true, true, true, true, true, true, false, false, false, true, false, false, false, false, false] rfl rfl (any_of HT_.out (by kernel_rfl)) (fun _ _ _ h => h) (Or.inl ⟨by rfl, ?_⟩) ?_ ?_
                        rotate_left
                        ·intro w'
                         go_simp
                         with_reducible rfl
                        rotate_left
                        ·simp only [Act.put, List.setIfInBounds_toArray, List.set_cons_zero, List.set_cons_succ, i64_w, i32_w]
                         rfl
                        refine take_ (i := 9) (N := some 118) (v := ?_) (a' := ?_) #[true, true, true, true, true, true, true, true, true, true, false, false, true, false, false, false, false, false] rfl rfl (take_ofW HT_.out HW_.out (by kernel_rfl)) (fun _ _ _ h => h) (Or.inl ⟨by rfl, ?_⟩) hHeld ?_ ?_
                        rotate_left
                        ·rintro w' ⟨s0, s1, s2⟩
                         go_simp
                         with_reducible rfl
                        rotate_left
                        ·simp only [Act.put, List.setIfInBounds_toArray, List.set_cons_zero, List.set_cons_succ, i64_w, i32_w]
                         rfl
                        refine pure_ (i := 10) (N := some 119) (v := ?_) (a' := ?_) #[true, true, true, true, true, true, true, true, true, true, true, false, true, false, false, false, false, false] rfl rfl (any_of HT_.out (by kernel_rfl)) (fun _ _ _ h => h) (Or.inl ⟨by rfl, ?_⟩) ?_ ?_
                        rotate_left
                        ·intro w'
                         go_simp
                         with_reducible rfl
                        rotate_left
                        ·simp only [Act.put, List.setIfInBounds_toArray, List.set_cons_zero, List.set_cons_succ, i64_w, i32_w]
                         rfl
                        refine take_ (i := 11) (N := some 120) (v := ?_) (a' := ?_) #[true, true, true, true, true, true, true, true, true, true, true, true, true, false, false, false, false, false] rfl rfl (take_ofW HT_.out HW_.out (by kernel_rfl)) (fun _ _ _ h => h) (Or.inl ⟨by rfl, ?_⟩) hHeld ?_ ?_
                        rotate_left
                        ·rintro w' ⟨s0, s1, s2⟩
                         go_simp
                         with_reducible rfl
                        rotate_left
                        ·simp only [Act.put, List.setIfInBounds_toArray, List.set_cons_zero, List.set_cons_succ, i64_w, i32_w]
                         rfl
                        refine pure_ (i := 13) (N := some 122) (v := ?_) (a' := ?_) #[true, true, true, true, true, true, true, true, true, true, true, true, true, true, false, false, false, false] rfl rfl (any_of HT_.out (by kernel_rfl)) (fun _ _ _ h => h) (Or.inl ⟨by rfl, ?_⟩) ?_ ?_
                        rotate_left
                        ·intro w'
                         go_simp
                         with_reducible rfl
                        rotate_left
                        ·simp only [Act.put, List.setIfInBounds_toArray, List.set_cons_zero, List.set_cons_succ, i64_w, i32_w]
                         rfl
                        refine take_ (i := 14) (N := some 123) (v := ?_) (a' := ?_) #[true, true, true, true, true, true, true, true, true, true, true, true, true, true, true, false, false, false] rfl rfl (take_ofW HT_.out HW_.out (by kernel_rfl)) (fun _ _ _ h => h) (Or.inl ⟨by rfl, ?_⟩) hHeld ?_ ?_
                        rotate_left
                        ·rintro w' ⟨s0, s1, s2⟩
                         go_simp
                         with_reducible rfl
                        rotate_left
                        ·simp only [Act.put, List.setIfInBounds_toArray, List.set_cons_zero, List.set_cons_succ, i64_w, i32_w]
                         rfl
                        refine one_ (i := 15) (N := some 124) #[true, true, true, true, true, true, true, true, true, true, true, true, true, true, true, true, false, false] rfl rfl (one_of HT_.out (by kernel_rfl)) (by decide) (fun K hK => ?_)
                        refine goes_ Try.func40 (by kernel_rfl) rfl #[.slice (some ad547) y549.length co39, .int .i64 (rd (rd_L2 t531 (rd t528 x8_3)) x10_5)] (by rfl) rfl rfl zE ?_
                        with_reducible refine (balustradebase_HasInt.calls k5 _ _ y549 (rd (rd_L2 t531 (rd t528 x8_3)) x10_5) t556 _ ?side1 ?side2 A59.out).mono ?_
                        (case side1 => repeat (first | exact (by repeat (first | (with_reducible exact HR552.out) | (with_reducible refine Kd.C_alloc ?_ _) | (with_reducible refine Kd.C_drewN ?_ _) | (with_reducible refine Kd.C_drew ?_) | exact HR552.out)) | (with_reducible refine Kd.C_alloc ?_ _) | (with_reducible refine Kd.C_drewN ?_ _) | (with_reducible refine Kd.C_drew ?_)))
                        (case side2 => exact HC552.out)
                        rintro e w' ⟨rfl, ⟨nd, rfl⟩⟩
                        refine ⟨_, rfl, ?_⟩
                        refine hK.out _ _ ⟨hHeld.1, hHeld.2.1, hHeld.2.2⟩ (fun hHeld => ?_)
                        clear hK K
                        refine norm_ (a' := ?_) ?_ ?_
                        rotate_left
                        ·show Act.put _ (some 124) _ = _
                         simp only [Act.put, List.setIfInBounds_toArray, List.set_cons_zero, List.set_cons_succ, i64_w, i32_w]
                         rfl
                        refine pure_ (i := 16) (N := some 125) (v := ?_) (a' := ?_) #[true, true, true, true, true, true, true, true, true, true, true, true, true, true, true, true, true, false] rfl rfl (any_of HT_.out (by kernel_rfl)) (fun _ _ _ h => h) (Or.inl ⟨by rfl, ?_⟩) ?_ ?_
                        rotate_left
                        ·intro w'
                         go_simp
                         with_reducible rfl
                        rotate_left
                        ·simp only [Act.put, List.setIfInBounds_toArray, List.set_cons_zero, List.set_cons_succ, i64_w, i32_w]
                         rfl
                        refine pure_ (i := 17) (N := some 9) (v := ?_) (a' := ?_) #[true, true, true, true, true, true, true, true, true, true, true, true, true, true, true, true, true, true] rfl rfl (any_of HT_.out (by kernel_rfl)) (fun _ _ _ h => h) (Or.inl ⟨by rfl, ?_⟩) ?_ ?_
                        rotate_left
                        ·intro w'
                         go_simp
                         with_reducible rfl
                        rotate_left
                        ·simp only [Act.put, List.setIfInBounds_toArray, List.set_cons_zero, List.set_cons_succ, i64_w, i32_w]
                         rfl
                        refine done_ (done_of HT_.out (by kernel_rfl)) ?_
                        try go_wp2
                        go_roundg k5
                        case measure => have := HJ6.out; have := HK2.out; have := HK3.out; have := HJ37.out; have := HK5.out; omega
                        case rel => exact ⟨(t556), (wrap64 (x10_5 + 1)), (by first | rfl | (simp; done) | (simp [*]; done)), (by first | rfl | (simp; done) | (simp [*]; done)), H', ⟨by have := HJ6.out; have := HK2.out; have := HK3.out; have := HJ37.out; have := HK5.out; omega⟩, ⟨zR HO_3.out⟩, ⟨by (with_reducible repeat (first | apply Kd.S_alloc | apply Kd.S_drewN | apply Kd.S_drew)); exact HO_4.out⟩, ⟨zR HO_5.out⟩, ⟨by (with_reducible repeat (first | refine blk_drewN ?_ _ | refine blk_drew ?_ | refine blk_alloc ?_ _)); exact BK525.out⟩, ⟨by repeat (first | (with_reducible first | exact HB.out | apply below_alloc | apply pw_below_drewN | apply below_drew1 | refine below_set ?_ GE525.out) | exact HB.out)⟩⟩
                       ·rw [if_neg c58] at H
                        exact absurd H (by simp)
                      ·rw [if_neg c57] at H
                       exact absurd H (by simp)
                    ·rw [if_neg c52] at H
                     have c52b0 : decide (x10_5 < ((rd_L2 t531 (rd t528 x8_3)).length : Int)) = false := decide_eq_false c52
                     clear c52
                     by_cases c63 : x9_5 = true
                     ·subst c63
                      have H1 : (balustradelaw17_GraphOrder.l1 k5 t528 t531 t534 x6_2 (wrap64 (x8_3 + 1))) = some r := by rw [if_pos rfl] at H; exact H
                      clear H
                      have H := H1
                      clear H1
                      have H' := Aside0.mk H
                      clear H
                      have p547 : 0 ≤ (x8_3 : Int) := of_decide_eq_true (by first | (with_reducible assumption) | assumption)
                      have q547 : x8_3 < (t528.length : Int) := of_decide_eq_true (by first | (with_reducible assumption) | assumption)
                      obtain ⟨ad547, e547, hx547_0⟩ := Kd.at_int (Kd.R_reads' HO_3.out).2.2 x8_3 p547 q547
                      cases e547
                      replace p547 := eq_true p547
                      replace q547 := eq_true q547
                      obtain ⟨Ao64, co64, eo64⟩ := Kd.S_slice HO_4.out
                      subst eo64
                      have p548 : 0 ≤ ((rd t528 x8_3) : Int) := of_decide_eq_true (by first | (with_reducible assumption) | assumption)
                      have q548 : (rd t528 x8_3) < (t531.length : Int) := of_decide_eq_true (by first | (with_reducible assumption) | assumption)
                      obtain ⟨ad548, A548_0, c548_0, e548, hx548_0, hl548_0, hi548_0⟩ := at_L2 (Kd.S_reads' HO_4.out).2.2 (rd t528 x8_3) p548 q548
                      cases e548
                      obtain ⟨ce548, hce548, hMe548, hcc548⟩ := Kd.S_get HO_4.out [] (rd t528 x8_3) p548 (by first | exact q548 | exact of_decide_eq_true (by first | (with_reducible assumption) | assumption) | (have e_ := (Kd.S_reads' HO_4.out).1; omega))
                      obtain ⟨ve548_0, rfl, ge548_0⟩ := hMe548
                      have hv548_0 := hcc548 0 _ rfl
                      rw [Nat.add_zero, show ((Kd.slice 3 (Kd.int .i64))).sz = 1 from rfl, Nat.mul_one] at hv548_0
                      replace hv548_0 := Option.some.inj (hv548_0.symm.trans hx548_0)
                      rw [hv548_0] at ge548_0
                      have HL548_0 := Aside0.mk (show Kd.R (Kd.int .i64) 3 _ _ _ _ (rd_L2 t531 (rd t528 x8_3)) from ge548_0)
                      clear hv548_0 ge548_0
                      clear hcc548 hce548
                      have HR548_0 := Aside0.mk hi548_0
                      have HC548_0 := Aside0.mk hl548_0
                      clear hi548_0 hl548_0
                      replace p548 := eq_true p548
                      replace q548 := eq_true q548
                      go_wp2
                      go_roundg k5
                      case measure => have := HJ6.out; have := HK2.out; have := HK3.out; have := HJ37.out; have := HK5.out; omega
                      case rel => exact ⟨(wrap64 (x8_3 + 1)), (by first | rfl | (simp; done) | (simp [*]; done)), H', ⟨by have := HJ6.out; have := HK2.out; have := HK3.out; have := HJ37.out; have := HK5.out; omega⟩, ⟨zR HO_3.out⟩, ⟨by (with_reducible repeat (first | apply Kd.S_alloc | apply Kd.S_drewN | apply Kd.S_drew)); exact HO_4.out⟩, ⟨zR HO_5.out⟩, ⟨by (with_reducible repeat (first | refine blk_drewN ?_ _ | refine blk_drew ?_ | refine blk_alloc ?_ _)); exact BK525.out⟩, ⟨by repeat (first | (with_reducible first | exact HB.out | apply below_alloc | apply pw_below_drewN | apply below_drew1 | refine below_set ?_ GE525.out) | exact HB.out)⟩⟩
                     ·replace c63 := Bool.eq_false_iff.mpr c63
                      subst c63
                      have H1 : (some false) = some r := by rw [if_neg (show ¬ (false = true) by decide)] at H; exact H
                      clear H
                      have H := H1
                      clear H1
                      obtain rfl := Option.some.inj H
                      have p547 : 0 ≤ (x8_3 : Int) := of_decide_eq_true (by first | (with_reducible assumption) | assumption)
                      have q547 : x8_3 < (t528.length : Int) := of_decide_eq_true (by first | (with_reducible assumption) | assumption)
                      obtain ⟨ad547, e547, hx547_0⟩ := Kd.at_int (Kd.R_reads' HO_3.out).2.2 x8_3 p547 q547
                      cases e547
                      replace p547 := eq_true p547
                      replace q547 := eq_true q547
                      obtain ⟨Ao65, co65, eo65⟩ := Kd.S_slice HO_4.out
                      subst eo65
                      have p548 : 0 ≤ ((rd t528 x8_3) : Int) := of_decide_eq_true (by first | (with_reducible assumption) | assumption)
                      have q548 : (rd t528 x8_3) < (t531.length : Int) := of_decide_eq_true (by first | (with_reducible assumption) | assumption)
                      obtain ⟨ad548, A548_0, c548_0, e548, hx548_0, hl548_0, hi548_0⟩ := at_L2 (Kd.S_reads' HO_4.out).2.2 (rd t528 x8_3) p548 q548
                      cases e548
                      obtain ⟨ce548, hce548, hMe548, hcc548⟩ := Kd.S_get HO_4.out [] (rd t528 x8_3) p548 (by first | exact q548 | exact of_decide_eq_true (by first | (with_reducible assumption) | assumption) | (have e_ := (Kd.S_reads' HO_4.out).1; omega))
                      obtain ⟨ve548_0, rfl, ge548_0⟩ := hMe548
                      have hv548_0 := hcc548 0 _ rfl
                      rw [Nat.add_zero, show ((Kd.slice 3 (Kd.int .i64))).sz = 1 from rfl, Nat.mul_one] at hv548_0
                      replace hv548_0 := Option.some.inj (hv548_0.symm.trans hx548_0)
                      rw [hv548_0] at ge548_0
                      have HL548_0 := Aside0.mk (show Kd.R (Kd.int .i64) 3 _ _ _ _ (rd_L2 t531 (rd t528 x8_3)) from ge548_0)
                      clear hv548_0 ge548_0
                      clear hcc548 hce548
                      have HR548_0 := Aside0.mk hi548_0
                      have HC548_0 := Aside0.mk hl548_0
                      clear hi548_0 hl548_0
                      replace p548 := eq_true p548
                      replace q548 := eq_true q548
                      go_wp2
                      go_ret
                      exact ⟨by first | rfl | (simp [errW_none, errW_some] <;> rfl) | (simp [*, errW_none, errW_some] <;> rfl), by repeat (first | (with_reducible first | exact HB.out | apply below_alloc | apply pw_below_drewN | apply below_drew1 | refine below_set ?_ GE525.out) | exact HB.out)⟩
                   ·rw [if_neg c51] at H
                    exact absurd H (by simp)
                  ·rw [if_neg c50] at H
                   exact absurd H (by simp)
                 ·rw [if_neg c49] at H
                  exact absurd H (by simp)
                ·rw [if_neg c48] at H
                 exact absurd H (by simp)
          ·rw [if_neg c37] at H
           have c37b0 : decide (x8_3 < (t528.length : Int)) = false := decide_eq_false c37
           clear c37
           by_cases c66 : x6_2 = (t528.length : Int)
           ·rw [if_pos c66] at H
            have c66b0 : (x6_2 == (t528.length : Int)) = true := beq_iff_eq.mpr c66
            have c66b1 : (x6_2 != (t528.length : Int)) = false := bne_eq_false_iff_eq.mpr c66
            clear c66
            replace H := Option.bind_eq_some_iff.mp H
            obtain ⟨t541, A670, H⟩ := H
            replace H : (some t541) = some r := H
            have A67 := Aside0.mk A670
            clear A670
            obtain rfl := Option.some.inj H
            obtain ⟨Ao68, co68, eo68⟩ := Kd.R_slice HO_3.out
            subst eo68
            go_wp2_with (first | (go_at_call 26; (with_reducible refine (balustradelaw17_works.calls k3  t541 _ A67.out).mono ?_); rintro e w69 ⟨rfl, hb⟩; have n0_ := Aside0.mk (Kd.R_below (zR HO_3.out) hb); have n1_ := Aside0.mk (Kd.S_below (by (with_reducible repeat (first | apply Kd.S_alloc | apply Kd.S_drewN | apply Kd.S_drew)); exact HO_4.out) hb); have n2_ := Aside0.mk (Kd.R_below (zR HO_5.out) hb); have n3_ := Aside0.mk (blk_below (g := gb525) (o := .cells #[.string a0_0, .int .i64 a0_1, .int .i64 a0_2, .slice A0_3 l0_3.length c0_3, .slice A0_4 l0_4.length c0_4] 35 (0, 0)) (by (with_reducible repeat (first | refine blk_drewN ?_ _ | refine blk_drew ?_ | refine blk_alloc ?_ _)); exact BK525.out) hb); have n4_ := Aside0.mk (below_step (by repeat (first | (with_reducible first | exact HB.out | apply below_alloc | apply pw_below_drewN | apply below_drew1 | refine below_set ?_ GE525.out) | exact HB.out)) hb); clear HO_3; clear HO_4; clear HO_5; clear BK525; clear HB; have HO_3 := n0_; have HO_4 := n1_; have HO_5 := n2_; have BK525 := n3_; have HB := n4_; clear n0_ n1_ n2_ n3_ n4_; (try clear hb); (try clear hb2); (try clear hk); (try clear hi)))
            go_ret
            exact ⟨by first | rfl | (simp [errW_none, errW_some] <;> rfl) | (simp [*, errW_none, errW_some] <;> rfl), by repeat (first | (with_reducible first | exact HB.out | apply below_alloc | apply pw_below_drewN | apply below_drew1 | refine below_set ?_ GE525.out) | exact HB.out)⟩
           ·rw [if_neg c66] at H
            have c66b0 : (x6_2 == (t528.length : Int)) = false := beq_eq_false_iff_ne.mpr c66
            have c66b1 : (x6_2 != (t528.length : Int)) = true := bne_iff_ne.mpr c66
            obtain rfl := Option.some.inj H
            obtain ⟨Ao70, co70, eo70⟩ := Kd.R_slice HO_3.out
            subst eo70
            go_wp2
            go_ret
            exact ⟨by first | rfl | (simp [errW_none, errW_some] <;> rfl) | (simp [*, errW_none, errW_some] <;> rfl), by repeat (first | (with_reducible first | exact HB.out | apply below_alloc | apply pw_below_drewN | apply below_drew1 | refine below_set ?_ GE525.out) | exact HB.out)⟩
 ·replace c3 := Bool.eq_false_iff.mpr c3
  subst c3
  have H1 : ((balustradelaw17_works.f k).bind fun t527 => (some t527)) = some r := by rw [if_neg (show ¬ (false = true) by decide)] at H; exact H
  clear H
  have H := H1
  clear H1
  replace H := Option.bind_eq_some_iff.mp H
  obtain ⟨t527, A710, H⟩ := H
  replace H : (some t527) = some r := H
  have A71 := Aside0.mk A710
  clear A710
  obtain rfl := Option.some.inj H
  go_enter Try.func6, Try.ntmps6
  go_wp2_with (first | ((with_reducible refine gate_dst (N := 1) rfl ?_); (try (refine gate_guard (by rfl) ?_; dsimp only)); refine box_event ?hg (N := 1) ?hd (cs := #[.string a0_0, .int .i64 a0_1, .int .i64 a0_2, .slice A0_3 l0_3.length c0_3, .slice A0_4 l0_4.length c0_4]) (t := 35) ?hr ?_; (case hd => rfl); (case hg => rfl); (case hr => first | (go_simp; done) | (go_simp; rfl)); intro gb525 hg w72 hbox hb; have n0_ := Aside0.mk (below_step (zB) hb); have n1_ := Aside0.mk (hbox); have n2_ := Aside0.mk ((by rw [hg]; exact (below_size (zB)) : w.heap.size ≤ gb525)); have n3_ := Aside0.mk ((by rw [hg]; exact (below_size (zB)) : w.heap.size ≤ gb525)); clear HB; have HB := n0_; have BK525 := n1_; have GW525 := n2_; have GE525 := n3_; clear n0_ n1_ n2_ n3_; clear hb hbox hg; have hcz73_0 : w72.cell? ⟨gb525, 0, none⟩ = some (.string a0_0) := (blk_cell BK525.out 0).trans rfl; have hcz73_1 : w72.cell? ⟨gb525, 1, none⟩ = some (.int .i64 a0_1) := (blk_cell BK525.out 1).trans rfl; have hcz73_2 : w72.cell? ⟨gb525, 2, none⟩ = some (.int .i64 a0_2) := (blk_cell BK525.out 2).trans rfl; have hcz73_3 : w72.cell? ⟨gb525, 3, none⟩ = some (.slice A0_3 l0_3.length c0_3) := (blk_cell BK525.out 3).trans rfl; have hcz73_4 : w72.cell? ⟨gb525, 4, none⟩ = some (.slice A0_4 l0_4.length c0_4) := (blk_cell BK525.out 4).trans rfl; have hfz73_0 := blk_frozen BK525.out 0; have hfz73_1 := blk_frozen BK525.out 1; have hfz73_2 := blk_frozen BK525.out 2; have hfz73_3 := blk_frozen BK525.out 3; have hfz73_4 := blk_frozen BK525.out 4) | ((with_reducible refine gate_callee (f := 25) rfl ?_); refine goesL_ (some 12) rfl rfl Try.func25 (by kernel_rfl) rfl #[.agg #[.string a0_0, .int .i64 a0_1, .int .i64 a0_2, .slice A0_3 l0_3.length c0_3, .slice A0_4 l0_4.length c0_4]] rfl zE ?_; (with_reducible refine (balustraderef17_Few.calls k a0_0 a0_1 a0_2 _ _ l0_3 _ _ l0_4 false _ ?side1 ?side2 ?side3 ?side4 A2.out).mono ?_); (case side1 => exact zC (Kd.C_below HR0_3.out HB.out)); (case side2 => exact HC0_3.out); (case side3 => exact zC (Kd.C_below HR0_4.out HB.out)); (case side4 => exact HC0_4.out); rintro e w74 ⟨rfl, hb⟩; refine ⟨_, rfl, ?_⟩; have n0_ := Aside0.mk (blk_below (g := gb525) (o := .cells #[.string a0_0, .int .i64 a0_1, .int .i64 a0_2, .slice A0_3 l0_3.length c0_3, .slice A0_4 l0_4.length c0_4] 35 (0, 0)) (by (with_reducible repeat (first | refine blk_drewN ?_ _ | refine blk_drew ?_ | refine blk_alloc ?_ _)); exact BK525.out) hb); have n1_ := Aside0.mk (below_step (by repeat (first | (with_reducible first | exact HB.out | apply below_alloc | apply pw_below_drewN | apply below_drew1 | refine below_set ?_ GE525.out) | exact HB.out)) hb); clear BK525; clear HB; have BK525 := n0_; have HB := n1_; clear n0_ n1_; (try clear hb); (try clear hb2); (try clear hk); (try clear hi)) | ((with_reducible refine gate_callee (f := 26) rfl ?_); refine goesL_ (some 14) rfl rfl Try.func26 (by kernel_rfl) rfl #[] rfl zE ?_; (with_reducible refine (balustradelaw17_works.calls k  t527 _ A71.out).mono ?_); rintro e w75 ⟨rfl, hb⟩; refine ⟨_, rfl, ?_⟩; have n0_ := Aside0.mk (blk_below (g := gb525) (o := .cells #[.string a0_0, .int .i64 a0_1, .int .i64 a0_2, .slice A0_3 l0_3.length c0_3, .slice A0_4 l0_4.length c0_4] 35 (0, 0)) (by (with_reducible repeat (first | refine blk_drewN ?_ _ | refine blk_drew ?_ | refine blk_alloc ?_ _)); exact BK525.out) hb); have n1_ := Aside0.mk (below_step (by repeat (first | (with_reducible first | exact HB.out | apply below_alloc | apply pw_below_drewN | apply below_drew1 | refine below_set ?_ GE525.out) | exact HB.out)) hb); clear BK525; clear HB; have BK525 := n0_; have HB := n1_; clear n0_ n1_; (try clear hb); (try clear hb2); (try clear hk); (try clear hi)))
  go_ret
  exact ⟨by first | rfl | (simp [errW_none, errW_some] <;> rfl) | (simp [*, errW_none, errW_some] <;> rfl), by repeat (first | (with_reducible first | exact HB.out | apply below_alloc | apply pw_below_drewN | apply below_drew1 | refine below_set ?_ GE525.out) | exact HB.out)⟩
end Go.Proofs.Ytlhaopjdpkhogaa.P

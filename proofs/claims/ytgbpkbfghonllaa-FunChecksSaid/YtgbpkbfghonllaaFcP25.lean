/- A part of it. -/
import Derived.Test.YtgbpkbfghonllaaFcZ
import Derived.Test.YtgbpkbfghonllaaFcP0
import Derived.Test.YtgbpkbfghonllaaFcM42
import Derived.Test.YtgbpkbfghonllaaFcM48
namespace Go.Proofs.Ytgbpkbfghonllaa.P
open Go.RowKit Go.Proofs.YtgbpkbfghonllaaW.PrintWords Go.Proofs.YtgbpkbfghonllaaW.PrintLast Go.Proofs.YtgbpkbfghonllaaW.PrintMore
attribute [local go_sem] max2_int min2_int max_two min_two max_three min_three max_four min_four   
set_option linter.unusedVariables false
set_option linter.unusedSimpArgs false
mutual
def balustraderef16_Check.j0 : Nat → Bool → List (S39) → Int → List (S48) → Option (Int × Int × Int × Int)
 | 0, _, _, _, _ => none
 | k + 1, x17, x349000, x349001, x349002 => if x17 = true then (some ((-1), (-1), (-1), 3)) else (if x349001 < 0 then (balustraderef16_Check.j1 k true x349000 x349001 x349002) else (if x349001 ≥ (x349000.length : Int) then (balustraderef16_Check.j1 k true x349000 x349001 x349002) else (if 0 ≤ x349001 then (if x349001 < (x349000.length : Int) then (if ((rd_T39 x349000 x349001).f1) = 1 then (if (((rd_T39 x349000 x349001).f3).length : Int) = 0 then (balustraderef16_Check.j1 k true x349000 x349001 x349002) else (if 0 < (((rd_T39 x349000 x349001).f3).length : Int) then (if (rd ((rd_T39 x349000 x349001).f3) 0) = 3 then (balustraderef16_Check.j1 k (((rd_T39 x349000 x349001).f2) != 1) x349000 x349001 x349002) else (balustraderef16_Check.j1 k true x349000 x349001 x349002)) else (none))) else (balustraderef16_Check.j1 k true x349000 x349001 x349002)) else (none)) else (none))))
def balustraderef16_Check.j1 : Nat → Bool → List (S39) → Int → List (S48) → Option (Int × Int × Int × Int)
 | 0, _, _, _, _ => none
 | k + 1, x72, x349000, x349001, x349002 => if x72 = true then (some ((-1), (-1), (-1), 13)) else (balustraderef16_Check.l0 k 0 x349000 x349001 x349002)
def balustraderef16_Check.l0 : Nat → Int → List (S39) → Int → List (S48) → Option (Int × Int × Int × Int)
 | 0, _, _, _, _ => none
 | k + 1, x3, x349000, x349001, x349002 => if x3 < (x349000.length : Int) then (if 0 ≤ x3 then ((balustraderef16_head.f k ((rd_T39 x349000 x3).f0) ((rd_T39 x349000 x3).f1) ((rd_T39 x349000 x3).f2) ((rd_T39 x349000 x3).f3) ((rd_T39 x349000 x3).f4)).bind fun t357 => (if t357 = 0 then (balustraderef16_Check.l1 k x3 0 x349000 x349001 x349002 ((rd_T39 x349000 x3).f0) ((rd_T39 x349000 x3).f1) ((rd_T39 x349000 x3).f2) ((rd_T39 x349000 x3).f3) ((rd_T39 x349000 x3).f4)) else (some (x3, (-1), (-1), t357)))) else (none)) else (some (0, 0, 0, 0))
def balustraderef16_Check.l1 : Nat → Int → Int → List (S39) → Int → List (S48) → ByteArray → Int → Int → List Int → List (List (S42)) → Option (Int × Int × Int × Int)
 | 0, _, _, _, _, _, _, _, _, _, _ => none
 | k + 1, x3, x6, x349000, x349001, x349002, x357000, x357001, x357002, x357003, x357004 => if x6 < (x357004.length : Int) then (if 0 ≤ x6 then (if ((rd_L5 x357004 x6).length : Int) = 0 then (some (x3, x6, (-1), 5)) else (balustraderef16_Check.l2 k x3 x6 0 x349000 x349001 x349002 x357000 x357001 x357002 x357003 x357004)) else (none)) else (balustraderef16_Check.l0 k (wrap64 (x3 + 1)) x349000 x349001 x349002)
def balustraderef16_Check.l2 : Nat → Int → Int → Int → List (S39) → Int → List (S48) → ByteArray → Int → Int → List Int → List (List (S42)) → Option (Int × Int × Int × Int)
 | 0, _, _, _, _, _, _, _, _, _, _, _ => none
 | k + 1, x3, x6, x7, x349000, x349001, x349002, x357000, x357001, x357002, x357003, x357004 => if 0 ≤ x6 then (if x6 < (x357004.length : Int) then (if x7 < ((rd_L5 x357004 x6).length : Int) then ((balustraderef16_one.f k x349000 x349001 x349002 x357000 x357001 x357002 x357003 x357004 x6 x7).bind fun t360 => (if t360 = 0 then (balustraderef16_Check.l2 k x3 x6 (wrap64 (x7 + 1)) x349000 x349001 x349002 x357000 x357001 x357002 x357003 x357004) else (some (x3, x6, x7, t360)))) else (balustraderef16_Check.l1 k x3 (wrap64 (x6 + 1)) x349000 x349001 x349002 x357000 x357001 x357002 x357003 x357004)) else (none)) else (none)
end
def balustraderef16_Check.f (k : Nat) (l0_0 : List (S39)) (a0_1 : Int) (l0_2 : List (S48)) : Option (Int × Int × Int × Int) := if (l0_0.length : Int) > 200 then (balustraderef16_Check.j0 k true l0_0 a0_1 l0_2) else (balustraderef16_Check.j0 k (decide ((l0_2.length : Int) > 262144)) l0_0 a0_1 l0_2)
set_option maxHeartbeats 8000000 in
set_option maxRecDepth 100000 in
theorem balustraderef16_Check.calls (k : Nat) (A0_0 : Option Addr) (c0_0 : Nat) (l0_0 : List (S39)) (a0_1 : Int) (A0_2 : Option Addr) (c0_2 : Nat) (l0_2 : List (S48)) (r1 : Int) (r2 : Int) (r3 : Int) (r4 : Int) (w : World) (hr0_0 : Kd.C k39 w A0_0 l0_0.length l0_0) (hc0_0 : l0_0.length ≤ c0_0) (hr0_2 : Kd.C k48 w A0_2 l0_2.length l0_2) (hc0_2 : l0_2.length ≤ c0_2) (h : balustraderef16_Check.f k l0_0 a0_1 l0_2 = some (r1, r2, r3, r4)) :
  Calls Try.prog 10 #[.agg #[.slice A0_0 l0_0.length c0_0, .int .i64 a0_1, .slice A0_2 l0_2.length c0_2]] w fun e w' => e = .returned (.agg #[.int .i64 r1, .int .i64 r2, .int .i64 r3, .int .i64 r4]) ∧ Below w.heap.size w w' := by
 have hu25 := Try.underlying25
 have hu32 := Try.underlying32
 have hu39 := Try.underlying39
 have HR0_0 := Aside0.mk hr0_0
 have HC0_0 := Aside0.mk hc0_0
 clear hr0_0 hc0_0
 have HR0_2 := Aside0.mk hr0_2
 have HC0_2 := Aside0.mk hc0_2
 clear hr0_2 hc0_2
 have HB := Aside0.mk (Below.refl w.heap.size w)
 have H : (if (l0_0.length : Int) > 200 then (balustraderef16_Check.j0 k true l0_0 a0_1 l0_2) else (balustraderef16_Check.j0 k (decide ((l0_2.length : Int) > 262144)) l0_0 a0_1 l0_2)) = some (r1, r2, r3, r4) := h
 clear h
 have HC2 := Aside0.mk H
 clear H
 go_enter Try.func10, Try.ntmps10
 go_upto_region 1 with (first | ((with_reducible refine gate_dst (N := 1) rfl ?_); (try (refine gate_guard (by rfl) ?_; dsimp only)); refine box_event ?hg (N := 1) ?hd (cs := #[.slice A0_0 l0_0.length c0_0, .int .i64 a0_1, .slice A0_2 l0_2.length c0_2]) (t := 25) ?hr ?_; (case hd => rfl); (case hg => rfl); (case hr => first | (go_simp; done) | (go_simp; rfl)); intro gb348 hg w3 hbox hb; have n0_ := Aside0.mk (below_step (zB) hb); have n1_ := Aside0.mk (hbox); have n2_ := Aside0.mk (zH hg : w.heap.size ≤ gb348); have n3_ := Aside0.mk (zH hg : w.heap.size ≤ gb348); clear HB; have HB := n0_; have BK348 := n1_; have GW348 := n2_; have GE348 := n3_; clear n0_ n1_ n2_ n3_; clear hb hbox hg) | ((with_reducible refine gate_dst (N := 2) rfl ?_); (try (refine gate_guard (by rfl) ?_; dsimp only)); refine box_event ?hg (N := 2) ?hd (cs := #[.int .i64 0, .int .i64 0, .int .i64 0, .int .i64 0]) (t := 32) ?hr ?_; (case hd => rfl); (case hg => rfl); (case hr => first | (go_simp; done) | (go_simp; rfl)); intro gb349 hg w4 hbox hb; have n0_ := Aside0.mk (blk_below (g := gb348) (o := .cells #[.slice A0_0 l0_0.length c0_0, .int .i64 a0_1, .slice A0_2 l0_2.length c0_2] 25 (0, 0)) (zK BK348.out) hb); have n1_ := Aside0.mk (below_step (zG) hb); have n2_ := Aside0.mk (hbox); have n3_ := Aside0.mk ((by rw [hg]; exact (below_size (zG)) : w.heap.size ≤ gb349)); have n4_ := Aside0.mk ((by rw [hg]; exact (below_size (zG)) : w.heap.size ≤ gb349)); have n5_ := Aside0.mk ((by rw [hg]; exact Nat.ne_of_lt (blk_lt (g := gb348) (o := .cells #[.slice A0_0 l0_0.length c0_0, .int .i64 a0_1, .slice A0_2 l0_2.length c0_2] 25 (0, 0)) (zK BK348.out)) : gb348 ≠ gb349)); have n6_ := Aside0.mk ((by rw [hg]; exact Nat.ne_of_gt (blk_lt (g := gb348) (o := .cells #[.slice A0_0 l0_0.length c0_0, .int .i64 a0_1, .slice A0_2 l0_2.length c0_2] 25 (0, 0)) (zK BK348.out)) : gb349 ≠ gb348)); clear BK348; clear HB; have BK348 := n0_; have HB := n1_; have BK349 := n2_; have GW349 := n3_; have GE349 := n4_; have NB348_349 := n5_; have NB349_348 := n6_; clear n0_ n1_ n2_ n3_ n4_ n5_ n6_; clear hb hbox hg))
 (try simp only [Act.put, List.setIfInBounds_toArray, List.set_cons_zero, List.set_cons_succ])
 go_cut [17] (fun v17 wc => ∃ (kq : Nat) (x17_1 : Bool), v17 = .bool x17_1 ∧ Aside0 (balustraderef16_Check.j0 kq x17_1 l0_0 a0_1 l0_2 = some (r1, r2, r3, r4)) ∧ Aside0 (kq ≤ k) ∧ Aside0 (wc.heap[gb348]? = some (.cells #[(.slice A0_0 l0_0.length c0_0), .int .i64 a0_1, (.slice A0_2 l0_2.length c0_2)] 25 (0, 0))) ∧ Aside0 (wc.heap[gb349]? = some (.cells #[.int .i64 0, .int .i64 0, .int .i64 0, .int .i64 0] 32 (0, 0))) ∧ Aside0 (Below w.heap.size w wc))
 case first =>
  have H := HC2.out
  clear HC2
  by_cases c5 : (l0_0.length : Int) > 200
  ·rw [if_pos c5] at H
   have c5b0 : decide (200 < (l0_0.length : Int)) = true := decide_eq_true c5
   have c5b1 : decide (200 < l0_0.length) = true := decide_eq_true (by omega)
   clear c5
   (first | rw [c5b0] | (simp only [i64_w, i32_w]; rw [c5b0]) | skip)
   have H' := Aside0.mk H
   clear H
   have hnb6 := NB348_349.out
   have hnc6 := NB349_348.out
   have hcz7_0 : w4.cell? ⟨gb348, 0, none⟩ = some (.slice A0_0 l0_0.length c0_0) := (blk_cell BK348.out 0).trans rfl
   have hcz7_1 : w4.cell? ⟨gb348, 1, none⟩ = some (.int .i64 a0_1) := (blk_cell BK348.out 1).trans rfl
   have hcz7_2 : w4.cell? ⟨gb348, 2, none⟩ = some (.slice A0_2 l0_2.length c0_2) := (blk_cell BK348.out 2).trans rfl
   have hfz7_0 := blk_frozen BK348.out 0
   have hfz7_1 := blk_frozen BK348.out 1
   have hfz7_2 := blk_frozen BK348.out 2
   go_wp2
   go_meet
   case rel => exact ⟨_, (true), zQ, H', ⟨by first | omega | exact Nat.le_refl _⟩, ⟨zK BK348.out⟩, ⟨zK BK349.out⟩, ⟨zG⟩⟩
  ·rw [if_neg c5] at H
   have c5b0 : decide (200 < (l0_0.length : Int)) = false := decide_eq_false c5
   have c5b1 : decide (200 < l0_0.length) = false := decide_eq_false (by omega)
   clear c5
   (first | rw [c5b0] | (simp only [i64_w, i32_w]; rw [c5b0]) | skip)
   have H' := Aside0.mk H
   clear H
   have hnb8 := NB348_349.out
   have hnc8 := NB349_348.out
   have hcz9_0 : w4.cell? ⟨gb348, 0, none⟩ = some (.slice A0_0 l0_0.length c0_0) := (blk_cell BK348.out 0).trans rfl
   have hcz9_1 : w4.cell? ⟨gb348, 1, none⟩ = some (.int .i64 a0_1) := (blk_cell BK348.out 1).trans rfl
   have hcz9_2 : w4.cell? ⟨gb348, 2, none⟩ = some (.slice A0_2 l0_2.length c0_2) := (blk_cell BK348.out 2).trans rfl
   have hfz9_0 := blk_frozen BK348.out 0
   have hfz9_1 := blk_frozen BK348.out 1
   have hfz9_2 := blk_frozen BK348.out 2
   go_wp2
   go_meet
   case rel => exact ⟨_, (decide ((l0_2.length : Int) > 262144)), zQ, H', ⟨by first | omega | exact Nat.le_refl _⟩, ⟨zK BK348.out⟩, ⟨zK BK349.out⟩, ⟨zG⟩⟩
 case rest =>
  clear HC2
  (try clear c1); (try clear p2); (try clear c5); (try clear c5b0); (try clear c5b1); (try clear c6); (try clear c8); (try clear hcz7_0 hcz7_1 hcz7_2); (try clear hcz9_0 hcz9_1 hcz9_2); (try clear hfz7_0 hfz7_1 hfz7_2); (try clear hfz9_0 hfz9_1 hfz9_2)
  obtain ⟨kq, x17_1, rfl, HA, HJ1, BK348, BK349, HB⟩ := hcut
  cases kq with
  | zero => exact absurd HA.out (by simp [balustraderef16_Check.j0])
  | succ kj1 =>
   have H := HA.out
   clear HA
   simp only [balustraderef16_Check.j0] at H
   by_cases c10 : x17_1 = true
   ·subst c10
    have H1 : (some ((-1), (-1), (-1), 3)) = some (r1, r2, r3, r4) := by rw [if_pos rfl] at H; exact H
    clear H
    have H := H1
    clear H1
    simp only [Option.some.injEq, Prod.mk.injEq] at H
    obtain ⟨rfl, rfl, rfl, rfl⟩ := H
    have hnb11 := NB349_348.out
    have hnc11 := NB348_349.out
    have hcz12_0 : wc.cell? ⟨gb349, 0, none⟩ = some (.int .i64 0) := (blk_cell BK349.out 0).trans rfl
    have hcz12_1 : wc.cell? ⟨gb349, 1, none⟩ = some (.int .i64 0) := (blk_cell BK349.out 1).trans rfl
    have hcz12_2 : wc.cell? ⟨gb349, 2, none⟩ = some (.int .i64 0) := (blk_cell BK349.out 2).trans rfl
    have hcz12_3 : wc.cell? ⟨gb349, 3, none⟩ = some (.int .i64 0) := (blk_cell BK349.out 3).trans rfl
    have hfz12_0 := blk_frozen BK349.out 0
    have hfz12_1 := blk_frozen BK349.out 1
    have hfz12_2 := blk_frozen BK349.out 2
    have hfz12_3 := blk_frozen BK349.out 3
    go_wp2
    refine bodyPost_ret (results_cell_row rfl _ _ gb349 32 #[.int .i64 (-1), .int .i64 (-1), .int .i64 (-1), .int .i64 3] (0, 0) _ rfl (by (with_reducible repeat (first | refine blk_drewN ?_ _ | refine blk_drew ?_ | refine blk_alloc ?_ _)); refine blk_put (cs := #[.int .i64 (-1), .int .i64 (-1), .int .i64 (-1), .int .i64 0]) ?_ 3 _ rfl; (with_reducible repeat (first | refine blk_drewN ?_ _ | refine blk_drew ?_ | refine blk_alloc ?_ _)); refine blk_put (cs := #[.int .i64 (-1), .int .i64 (-1), .int .i64 0, .int .i64 0]) ?_ 2 _ rfl; (with_reducible repeat (first | refine blk_drewN ?_ _ | refine blk_drew ?_ | refine blk_alloc ?_ _)); refine blk_put (cs := #[.int .i64 (-1), .int .i64 0, .int .i64 0, .int .i64 0]) ?_ 1 _ rfl; (with_reducible repeat (first | refine blk_drewN ?_ _ | refine blk_drew ?_ | refine blk_alloc ?_ _)); refine blk_put (cs := #[.int .i64 0, .int .i64 0, .int .i64 0, .int .i64 0]) ?_ 0 _ rfl; (with_reducible repeat (first | refine blk_drewN ?_ _ | refine blk_drew ?_ | refine blk_alloc ?_ _)); exact BK349.out) Try.underlying32 rfl (by kernel_rfl)) rfl ?_
    exact ⟨zV, zG⟩
   ·replace c10 := Bool.eq_false_iff.mpr c10
    subst c10
    have H1 : (if a0_1 < 0 then (balustraderef16_Check.j1 kj1 true l0_0 a0_1 l0_2) else (if a0_1 ≥ (l0_0.length : Int) then (balustraderef16_Check.j1 kj1 true l0_0 a0_1 l0_2) else (if 0 ≤ a0_1 then (if a0_1 < (l0_0.length : Int) then (if ((rd_T39 l0_0 a0_1).f1) = 1 then (if (((rd_T39 l0_0 a0_1).f3).length : Int) = 0 then (balustraderef16_Check.j1 kj1 true l0_0 a0_1 l0_2) else (if 0 < (((rd_T39 l0_0 a0_1).f3).length : Int) then (if (rd ((rd_T39 l0_0 a0_1).f3) 0) = 3 then (balustraderef16_Check.j1 kj1 (((rd_T39 l0_0 a0_1).f2) != 1) l0_0 a0_1 l0_2) else (balustraderef16_Check.j1 kj1 true l0_0 a0_1 l0_2)) else (none))) else (balustraderef16_Check.j1 kj1 true l0_0 a0_1 l0_2)) else (none)) else (none)))) = some (r1, r2, r3, r4) := by rw [if_neg (show ¬ (false = true) by decide)] at H; exact H
    clear H
    have H := H1
    clear H1
    have HC13 := Aside0.mk H
    clear H
    go_upto_region 3 with (fail)
    go_cut [72] (fun v72 wc => ∃ (kq : Nat) (x72_12 : Bool), v72 = .bool x72_12 ∧ Aside0 (balustraderef16_Check.j1 kq x72_12 l0_0 a0_1 l0_2 = some (r1, r2, r3, r4)) ∧ Aside0 (kq ≤ kj1) ∧ Aside0 (wc.heap[gb348]? = some (.cells #[(.slice A0_0 l0_0.length c0_0), .int .i64 a0_1, (.slice A0_2 l0_2.length c0_2)] 25 (0, 0))) ∧ Aside0 (wc.heap[gb349]? = some (.cells #[.int .i64 0, .int .i64 0, .int .i64 0, .int .i64 0] 32 (0, 0))) ∧ Aside0 (Below w.heap.size w wc))
    case first =>
     have H := HC13.out
     clear HC13
     by_cases c14 : a0_1 < 0
     ·rw [if_pos c14] at H
      have c14b0 : decide (a0_1 < 0) = true := decide_eq_true c14
      clear c14
      (first | rw [c14b0] | (simp only [i64_w, i32_w]; rw [c14b0]) | skip)
      have H' := Aside0.mk H
      clear H
      have hnb15 := NB348_349.out
      have hnc15 := NB349_348.out
      have hcz16_0 : wc.cell? ⟨gb348, 0, none⟩ = some (.slice A0_0 l0_0.length c0_0) := (blk_cell BK348.out 0).trans rfl
      have hcz16_1 : wc.cell? ⟨gb348, 1, none⟩ = some (.int .i64 a0_1) := (blk_cell BK348.out 1).trans rfl
      have hcz16_2 : wc.cell? ⟨gb348, 2, none⟩ = some (.slice A0_2 l0_2.length c0_2) := (blk_cell BK348.out 2).trans rfl
      have hfz16_0 := blk_frozen BK348.out 0
      have hfz16_1 := blk_frozen BK348.out 1
      have hfz16_2 := blk_frozen BK348.out 2
      go_wp2
      go_meet
      case rel => exact ⟨_, (true), zQ, H', ⟨by have := HJ1.out; first | omega | exact Nat.le_refl _⟩, ⟨zK BK348.out⟩, ⟨zK BK349.out⟩, ⟨zG⟩⟩
     ·rw [if_neg c14] at H
      have c14b0 : decide (a0_1 < 0) = false := decide_eq_false c14
      clear c14
      (first | rw [c14b0] | (simp only [i64_w, i32_w]; rw [c14b0]) | skip)
      by_cases c17 : a0_1 ≥ (l0_0.length : Int)
      ·rw [if_pos c17] at H
       have c17b0 : decide ((l0_0.length : Int) ≤ a0_1) = true := decide_eq_true c17
       clear c17
       have H' := Aside0.mk H
       clear H
       have hnb18 := NB348_349.out
       have hnc18 := NB349_348.out
       have hcz19_0 : wc.cell? ⟨gb348, 0, none⟩ = some (.slice A0_0 l0_0.length c0_0) := (blk_cell BK348.out 0).trans rfl
       have hcz19_1 : wc.cell? ⟨gb348, 1, none⟩ = some (.int .i64 a0_1) := (blk_cell BK348.out 1).trans rfl
       have hcz19_2 : wc.cell? ⟨gb348, 2, none⟩ = some (.slice A0_2 l0_2.length c0_2) := (blk_cell BK348.out 2).trans rfl
       have hfz19_0 := blk_frozen BK348.out 0
       have hfz19_1 := blk_frozen BK348.out 1
       have hfz19_2 := blk_frozen BK348.out 2
       go_wp2
       go_meet
       case rel => exact ⟨_, (true), zQ, H', ⟨by have := HJ1.out; first | omega | exact Nat.le_refl _⟩, ⟨zK BK348.out⟩, ⟨zK BK349.out⟩, ⟨zG⟩⟩
      ·rw [if_neg c17] at H
       have c17b0 : decide ((l0_0.length : Int) ≤ a0_1) = false := decide_eq_false c17
       clear c17
       by_cases c20 : 0 ≤ a0_1
       ·rw [if_pos c20] at H
        have c20b0 : decide (0 ≤ a0_1) = true := decide_eq_true c20
        clear c20
        by_cases c21 : a0_1 < (l0_0.length : Int)
        ·rw [if_pos c21] at H
         have c21b0 : decide (a0_1 < (l0_0.length : Int)) = true := decide_eq_true c21
         clear c21
         by_cases c22 : ((rd_T39 l0_0 a0_1).f1) = 1
         ·rw [if_pos c22] at H
          have c22b0 : (((rd_T39 l0_0 a0_1).f1) == 1) = true := beq_iff_eq.mpr c22
          have c22b1 : (((rd_T39 l0_0 a0_1).f1) != 1) = false := bne_eq_false_iff_eq.mpr c22
          clear c22
          by_cases c23 : (((rd_T39 l0_0 a0_1).f3).length : Int) = 0
          ·rw [if_pos c23] at H
           have c23b0 : ((((rd_T39 l0_0 a0_1).f3).length : Int) == 0) = true := beq_iff_eq.mpr c23
           have c23b1 : ((((rd_T39 l0_0 a0_1).f3).length : Int) != 0) = false := bne_eq_false_iff_eq.mpr c23
           clear c23
           have H' := Aside0.mk H
           clear H
           have hnb24 := NB348_349.out
           have hnc24 := NB349_348.out
           have hcz25_0 : wc.cell? ⟨gb348, 0, none⟩ = some (.slice A0_0 l0_0.length c0_0) := (blk_cell BK348.out 0).trans rfl
           have hcz25_1 : wc.cell? ⟨gb348, 1, none⟩ = some (.int .i64 a0_1) := (blk_cell BK348.out 1).trans rfl
           have hcz25_2 : wc.cell? ⟨gb348, 2, none⟩ = some (.slice A0_2 l0_2.length c0_2) := (blk_cell BK348.out 2).trans rfl
           have hfz25_0 := blk_frozen BK348.out 0
           have hfz25_1 := blk_frozen BK348.out 1
           have hfz25_2 := blk_frozen BK348.out 2
           have p350 : 0 ≤ (a0_1 : Int) := zO
           have q350 : a0_1 < (l0_0.length : Int) := zO
           obtain ⟨ad350, A350_3, c350_3, A350_4, c350_4, e350, hx350_0, hx350_1, hx350_2, hx350_3, hx350_4, hl350_3, hi350_3, hl350_4, hi350_4⟩ := at_T39 HR0_0.out a0_1 p350 q350
           cases e350
           replace hx350_0 := pw_cell_below HB.out hx350_0
           replace hx350_1 := pw_cell_below HB.out hx350_1
           replace hx350_2 := pw_cell_below HB.out hx350_2
           replace hx350_3 := pw_cell_below HB.out hx350_3
           replace hx350_4 := pw_cell_below HB.out hx350_4
           have HR350_3 := Aside0.mk hi350_3
           have HC350_3 := Aside0.mk hl350_3
           clear hi350_3 hl350_3
           have HR350_4 := Aside0.mk hi350_4
           have HC350_4 := Aside0.mk hl350_4
           clear hi350_4 hl350_4
           replace p350 := eq_true p350
           replace q350 := eq_true q350
           have p351 : 0 ≤ (a0_1 : Int) := zO
           have q351 : a0_1 < (l0_0.length : Int) := zO
           obtain ⟨ad351, A351_3, c351_3, A351_4, c351_4, e351, hx351_0, hx351_1, hx351_2, hx351_3, hx351_4, hl351_3, hi351_3, hl351_4, hi351_4⟩ := at_T39 HR0_0.out a0_1 p351 q351
           obtain rfl : ad350 = ad351 := (by injection e351)
           replace hx351_0 := pw_cell_below HB.out hx351_0
           replace hx351_1 := pw_cell_below HB.out hx351_1
           replace hx351_2 := pw_cell_below HB.out hx351_2
           replace hx351_3 := pw_cell_below HB.out hx351_3
           replace hx351_4 := pw_cell_below HB.out hx351_4
           have HR351_3 := Aside0.mk hi351_3
           have HC351_3 := Aside0.mk hl351_3
           clear hi351_3 hl351_3
           have HR351_4 := Aside0.mk hi351_4
           have HC351_4 := Aside0.mk hl351_4
           clear hi351_4 hl351_4
           replace p351 := eq_true p351
           replace q351 := eq_true q351
           have ea_ := Option.some.inj (hx350_3.symm.trans hx351_3)
           injection ea_ with ea_ en_ ec_
           subst ea_
           subst ec_
           clear en_
           have ea_ := Option.some.inj (hx350_4.symm.trans hx351_4)
           injection ea_ with ea_ en_ ec_
           subst ea_
           subst ec_
           clear en_
           go_wp2
           go_meet
           case rel => exact ⟨_, (true), zQ, H', ⟨by have := HJ1.out; first | omega | exact Nat.le_refl _⟩, ⟨zK BK348.out⟩, ⟨zK BK349.out⟩, ⟨zG⟩⟩
          ·rw [if_neg c23] at H
           have c23b0 : ((((rd_T39 l0_0 a0_1).f3).length : Int) == 0) = false := beq_eq_false_iff_ne.mpr c23
           have c23b1 : ((((rd_T39 l0_0 a0_1).f3).length : Int) != 0) = true := bne_iff_ne.mpr c23
           have c23b2 : ¬ (((rd_T39 l0_0 a0_1).f3) = []) := fun h_ => c23 (by rw [h_]; rfl)
           by_cases c26 : 0 < (((rd_T39 l0_0 a0_1).f3).length : Int)
           ·rw [if_pos c26] at H
            have c26b0 : decide (0 < (((rd_T39 l0_0 a0_1).f3).length : Int)) = true := decide_eq_true c26
            have c26b1 : decide (0 < ((rd_T39 l0_0 a0_1).f3).length) = true := decide_eq_true (by omega)
            clear c26
            by_cases c27 : (rd ((rd_T39 l0_0 a0_1).f3) 0) = 3
            ·rw [if_pos c27] at H
             have c27b0 : ((rd ((rd_T39 l0_0 a0_1).f3) 0) == 3) = true := beq_iff_eq.mpr c27
             have c27b1 : ((rd ((rd_T39 l0_0 a0_1).f3) 0) != 3) = false := bne_eq_false_iff_eq.mpr c27
             clear c27
             have H' := Aside0.mk H
             clear H
             have hnb28 := NB348_349.out
             have hnc28 := NB349_348.out
             have hcz29_0 : wc.cell? ⟨gb348, 0, none⟩ = some (.slice A0_0 l0_0.length c0_0) := (blk_cell BK348.out 0).trans rfl
             have hcz29_1 : wc.cell? ⟨gb348, 1, none⟩ = some (.int .i64 a0_1) := (blk_cell BK348.out 1).trans rfl
             have hcz29_2 : wc.cell? ⟨gb348, 2, none⟩ = some (.slice A0_2 l0_2.length c0_2) := (blk_cell BK348.out 2).trans rfl
             have hfz29_0 := blk_frozen BK348.out 0
             have hfz29_1 := blk_frozen BK348.out 1
             have hfz29_2 := blk_frozen BK348.out 2
             have p350 : 0 ≤ (a0_1 : Int) := zO
             have q350 : a0_1 < (l0_0.length : Int) := zO
             obtain ⟨ad350, A350_3, c350_3, A350_4, c350_4, e350, hx350_0, hx350_1, hx350_2, hx350_3, hx350_4, hl350_3, hi350_3, hl350_4, hi350_4⟩ := at_T39 HR0_0.out a0_1 p350 q350
             cases e350
             replace hx350_0 := pw_cell_below HB.out hx350_0
             replace hx350_1 := pw_cell_below HB.out hx350_1
             replace hx350_2 := pw_cell_below HB.out hx350_2
             replace hx350_3 := pw_cell_below HB.out hx350_3
             replace hx350_4 := pw_cell_below HB.out hx350_4
             have HR350_3 := Aside0.mk hi350_3
             have HC350_3 := Aside0.mk hl350_3
             clear hi350_3 hl350_3
             have HR350_4 := Aside0.mk hi350_4
             have HC350_4 := Aside0.mk hl350_4
             clear hi350_4 hl350_4
             replace p350 := eq_true p350
             replace q350 := eq_true q350
             have p351 : 0 ≤ (a0_1 : Int) := zO
             have q351 : a0_1 < (l0_0.length : Int) := zO
             obtain ⟨ad351, A351_3, c351_3, A351_4, c351_4, e351, hx351_0, hx351_1, hx351_2, hx351_3, hx351_4, hl351_3, hi351_3, hl351_4, hi351_4⟩ := at_T39 HR0_0.out a0_1 p351 q351
             obtain rfl : ad350 = ad351 := (by injection e351)
             replace hx351_0 := pw_cell_below HB.out hx351_0
             replace hx351_1 := pw_cell_below HB.out hx351_1
             replace hx351_2 := pw_cell_below HB.out hx351_2
             replace hx351_3 := pw_cell_below HB.out hx351_3
             replace hx351_4 := pw_cell_below HB.out hx351_4
             have HR351_3 := Aside0.mk hi351_3
             have HC351_3 := Aside0.mk hl351_3
             clear hi351_3 hl351_3
             have HR351_4 := Aside0.mk hi351_4
             have HC351_4 := Aside0.mk hl351_4
             clear hi351_4 hl351_4
             replace p351 := eq_true p351
             replace q351 := eq_true q351
             have ea_ := Option.some.inj (hx350_3.symm.trans hx351_3)
             injection ea_ with ea_ en_ ec_
             subst ea_
             subst ec_
             clear en_
             have ea_ := Option.some.inj (hx350_4.symm.trans hx351_4)
             injection ea_ with ea_ en_ ec_
             subst ea_
             subst ec_
             clear en_
             have p352 : 0 ≤ (a0_1 : Int) := zO
             have q352 : a0_1 < (l0_0.length : Int) := zO
             obtain ⟨ad352, A352_3, c352_3, A352_4, c352_4, e352, hx352_0, hx352_1, hx352_2, hx352_3, hx352_4, hl352_3, hi352_3, hl352_4, hi352_4⟩ := at_T39 HR0_0.out a0_1 p352 q352
             obtain rfl : ad350 = ad352 := (by injection e352)
             replace hx352_0 := pw_cell_below HB.out hx352_0
             replace hx352_1 := pw_cell_below HB.out hx352_1
             replace hx352_2 := pw_cell_below HB.out hx352_2
             replace hx352_3 := pw_cell_below HB.out hx352_3
             replace hx352_4 := pw_cell_below HB.out hx352_4
             have HR352_3 := Aside0.mk hi352_3
             have HC352_3 := Aside0.mk hl352_3
             clear hi352_3 hl352_3
             have HR352_4 := Aside0.mk hi352_4
             have HC352_4 := Aside0.mk hl352_4
             clear hi352_4 hl352_4
             replace p352 := eq_true p352
             replace q352 := eq_true q352
             have ea_ := Option.some.inj (hx350_3.symm.trans hx352_3)
             injection ea_ with ea_ en_ ec_
             subst ea_
             subst ec_
             clear en_
             have ea_ := Option.some.inj (hx350_4.symm.trans hx352_4)
             injection ea_ with ea_ en_ ec_
             subst ea_
             subst ec_
             clear en_
             have p353 : 0 ≤ (0 : Int) := (by omega)
             have q353 : 0 < (((rd_T39 l0_0 a0_1).f3).length : Int) := zO
             obtain ⟨ad353, e353, hx353_0⟩ := Kd.at_int HR352_3.out 0 p353 q353
             cases e353
             have qi353 : (0 < ((rd_T39 l0_0 a0_1).f3).length) = True := eq_true (by omega)
             (try rw [show ((0 : Int)).toNat = 0 from rfl] at hx353_0)
             (try rw [Addr.add_zero'] at hx353_0)
             replace hx353_0 := pw_cell_below HB.out hx353_0
             replace p353 := eq_true p353
             replace q353 := eq_true q353
             have p354 : 0 ≤ (a0_1 : Int) := zO
             have q354 : a0_1 < (l0_0.length : Int) := zO
             obtain ⟨ad354, A354_3, c354_3, A354_4, c354_4, e354, hx354_0, hx354_1, hx354_2, hx354_3, hx354_4, hl354_3, hi354_3, hl354_4, hi354_4⟩ := at_T39 HR0_0.out a0_1 p354 q354
             obtain rfl : ad350 = ad354 := (by injection e354)
             replace hx354_0 := pw_cell_below HB.out hx354_0
             replace hx354_1 := pw_cell_below HB.out hx354_1
             replace hx354_2 := pw_cell_below HB.out hx354_2
             replace hx354_3 := pw_cell_below HB.out hx354_3
             replace hx354_4 := pw_cell_below HB.out hx354_4
             have HR354_3 := Aside0.mk hi354_3
             have HC354_3 := Aside0.mk hl354_3
             clear hi354_3 hl354_3
             have HR354_4 := Aside0.mk hi354_4
             have HC354_4 := Aside0.mk hl354_4
             clear hi354_4 hl354_4
             replace p354 := eq_true p354
             replace q354 := eq_true q354
             have ea_ := Option.some.inj (hx350_3.symm.trans hx354_3)
             injection ea_ with ea_ en_ ec_
             subst ea_
             subst ec_
             clear en_
             have ea_ := Option.some.inj (hx350_4.symm.trans hx354_4)
             injection ea_ with ea_ en_ ec_
             subst ea_
             subst ec_
             clear en_
             go_wp2
             go_meet
             case rel => exact ⟨_, ((((rd_T39 l0_0 a0_1).f2) != 1)), zQ, H', ⟨by have := HJ1.out; first | omega | exact Nat.le_refl _⟩, ⟨zK BK348.out⟩, ⟨zK BK349.out⟩, ⟨zG⟩⟩
            ·rw [if_neg c27] at H
             have c27b0 : ((rd ((rd_T39 l0_0 a0_1).f3) 0) == 3) = false := beq_eq_false_iff_ne.mpr c27
             have c27b1 : ((rd ((rd_T39 l0_0 a0_1).f3) 0) != 3) = true := bne_iff_ne.mpr c27
             have H' := Aside0.mk H
             clear H
             have hnb30 := NB348_349.out
             have hnc30 := NB349_348.out
             have hcz31_0 : wc.cell? ⟨gb348, 0, none⟩ = some (.slice A0_0 l0_0.length c0_0) := (blk_cell BK348.out 0).trans rfl
             have hcz31_1 : wc.cell? ⟨gb348, 1, none⟩ = some (.int .i64 a0_1) := (blk_cell BK348.out 1).trans rfl
             have hcz31_2 : wc.cell? ⟨gb348, 2, none⟩ = some (.slice A0_2 l0_2.length c0_2) := (blk_cell BK348.out 2).trans rfl
             have hfz31_0 := blk_frozen BK348.out 0
             have hfz31_1 := blk_frozen BK348.out 1
             have hfz31_2 := blk_frozen BK348.out 2
             have p350 : 0 ≤ (a0_1 : Int) := zO
             have q350 : a0_1 < (l0_0.length : Int) := zO
             obtain ⟨ad350, A350_3, c350_3, A350_4, c350_4, e350, hx350_0, hx350_1, hx350_2, hx350_3, hx350_4, hl350_3, hi350_3, hl350_4, hi350_4⟩ := at_T39 HR0_0.out a0_1 p350 q350
             cases e350
             replace hx350_0 := pw_cell_below HB.out hx350_0
             replace hx350_1 := pw_cell_below HB.out hx350_1
             replace hx350_2 := pw_cell_below HB.out hx350_2
             replace hx350_3 := pw_cell_below HB.out hx350_3
             replace hx350_4 := pw_cell_below HB.out hx350_4
             have HR350_3 := Aside0.mk hi350_3
             have HC350_3 := Aside0.mk hl350_3
             clear hi350_3 hl350_3
             have HR350_4 := Aside0.mk hi350_4
             have HC350_4 := Aside0.mk hl350_4
             clear hi350_4 hl350_4
             replace p350 := eq_true p350
             replace q350 := eq_true q350
             have p351 : 0 ≤ (a0_1 : Int) := zO
             have q351 : a0_1 < (l0_0.length : Int) := zO
             obtain ⟨ad351, A351_3, c351_3, A351_4, c351_4, e351, hx351_0, hx351_1, hx351_2, hx351_3, hx351_4, hl351_3, hi351_3, hl351_4, hi351_4⟩ := at_T39 HR0_0.out a0_1 p351 q351
             obtain rfl : ad350 = ad351 := (by injection e351)
             replace hx351_0 := pw_cell_below HB.out hx351_0
             replace hx351_1 := pw_cell_below HB.out hx351_1
             replace hx351_2 := pw_cell_below HB.out hx351_2
             replace hx351_3 := pw_cell_below HB.out hx351_3
             replace hx351_4 := pw_cell_below HB.out hx351_4
             have HR351_3 := Aside0.mk hi351_3
             have HC351_3 := Aside0.mk hl351_3
             clear hi351_3 hl351_3
             have HR351_4 := Aside0.mk hi351_4
             have HC351_4 := Aside0.mk hl351_4
             clear hi351_4 hl351_4
             replace p351 := eq_true p351
             replace q351 := eq_true q351
             have ea_ := Option.some.inj (hx350_3.symm.trans hx351_3)
             injection ea_ with ea_ en_ ec_
             subst ea_
             subst ec_
             clear en_
             have ea_ := Option.some.inj (hx350_4.symm.trans hx351_4)
             injection ea_ with ea_ en_ ec_
             subst ea_
             subst ec_
             clear en_
             have p352 : 0 ≤ (a0_1 : Int) := zO
             have q352 : a0_1 < (l0_0.length : Int) := zO
             obtain ⟨ad352, A352_3, c352_3, A352_4, c352_4, e352, hx352_0, hx352_1, hx352_2, hx352_3, hx352_4, hl352_3, hi352_3, hl352_4, hi352_4⟩ := at_T39 HR0_0.out a0_1 p352 q352
             obtain rfl : ad350 = ad352 := (by injection e352)
             replace hx352_0 := pw_cell_below HB.out hx352_0
             replace hx352_1 := pw_cell_below HB.out hx352_1
             replace hx352_2 := pw_cell_below HB.out hx352_2
             replace hx352_3 := pw_cell_below HB.out hx352_3
             replace hx352_4 := pw_cell_below HB.out hx352_4
             have HR352_3 := Aside0.mk hi352_3
             have HC352_3 := Aside0.mk hl352_3
             clear hi352_3 hl352_3
             have HR352_4 := Aside0.mk hi352_4
             have HC352_4 := Aside0.mk hl352_4
             clear hi352_4 hl352_4
             replace p352 := eq_true p352
             replace q352 := eq_true q352
             have ea_ := Option.some.inj (hx350_3.symm.trans hx352_3)
             injection ea_ with ea_ en_ ec_
             subst ea_
             subst ec_
             clear en_
             have ea_ := Option.some.inj (hx350_4.symm.trans hx352_4)
             injection ea_ with ea_ en_ ec_
             subst ea_
             subst ec_
             clear en_
             have p353 : 0 ≤ (0 : Int) := (by omega)
             have q353 : 0 < (((rd_T39 l0_0 a0_1).f3).length : Int) := zO
             obtain ⟨ad353, e353, hx353_0⟩ := Kd.at_int HR352_3.out 0 p353 q353
             cases e353
             have qi353 : (0 < ((rd_T39 l0_0 a0_1).f3).length) = True := eq_true (by omega)
             (try rw [show ((0 : Int)).toNat = 0 from rfl] at hx353_0)
             (try rw [Addr.add_zero'] at hx353_0)
             replace hx353_0 := pw_cell_below HB.out hx353_0
             replace p353 := eq_true p353
             replace q353 := eq_true q353
             go_wp2
             go_meet
             case rel => exact ⟨_, (true), zQ, H', ⟨by have := HJ1.out; first | omega | exact Nat.le_refl _⟩, ⟨zK BK348.out⟩, ⟨zK BK349.out⟩, ⟨zG⟩⟩
           ·rw [if_neg c26] at H
            exact absurd H (by simp)
         ·rw [if_neg c22] at H
          have c22b0 : (((rd_T39 l0_0 a0_1).f1) == 1) = false := beq_eq_false_iff_ne.mpr c22
          have c22b1 : (((rd_T39 l0_0 a0_1).f1) != 1) = true := bne_iff_ne.mpr c22
          have H' := Aside0.mk H
          clear H
          have hnb32 := NB348_349.out
          have hnc32 := NB349_348.out
          have hcz33_0 : wc.cell? ⟨gb348, 0, none⟩ = some (.slice A0_0 l0_0.length c0_0) := (blk_cell BK348.out 0).trans rfl
          have hcz33_1 : wc.cell? ⟨gb348, 1, none⟩ = some (.int .i64 a0_1) := (blk_cell BK348.out 1).trans rfl
          have hcz33_2 : wc.cell? ⟨gb348, 2, none⟩ = some (.slice A0_2 l0_2.length c0_2) := (blk_cell BK348.out 2).trans rfl
          have hfz33_0 := blk_frozen BK348.out 0
          have hfz33_1 := blk_frozen BK348.out 1
          have hfz33_2 := blk_frozen BK348.out 2
          have p350 : 0 ≤ (a0_1 : Int) := zO
          have q350 : a0_1 < (l0_0.length : Int) := zO
          obtain ⟨ad350, A350_3, c350_3, A350_4, c350_4, e350, hx350_0, hx350_1, hx350_2, hx350_3, hx350_4, hl350_3, hi350_3, hl350_4, hi350_4⟩ := at_T39 HR0_0.out a0_1 p350 q350
          cases e350
          replace hx350_0 := pw_cell_below HB.out hx350_0
          replace hx350_1 := pw_cell_below HB.out hx350_1
          replace hx350_2 := pw_cell_below HB.out hx350_2
          replace hx350_3 := pw_cell_below HB.out hx350_3
          replace hx350_4 := pw_cell_below HB.out hx350_4
          have HR350_3 := Aside0.mk hi350_3
          have HC350_3 := Aside0.mk hl350_3
          clear hi350_3 hl350_3
          have HR350_4 := Aside0.mk hi350_4
          have HC350_4 := Aside0.mk hl350_4
          clear hi350_4 hl350_4
          replace p350 := eq_true p350
          replace q350 := eq_true q350
          go_wp2
          go_meet
          case rel => exact ⟨_, (true), zQ, H', ⟨by have := HJ1.out; first | omega | exact Nat.le_refl _⟩, ⟨zK BK348.out⟩, ⟨zK BK349.out⟩, ⟨zG⟩⟩
        ·rw [if_neg c21] at H
         exact absurd H (by simp)
       ·rw [if_neg c20] at H
        exact absurd H (by simp)
    case rest =>
     clear HC13
     (try clear c1); (try clear c2); (try clear p2); (try clear c3); (try clear p3); (try clear q3); (try clear hx3); (try clear qi3); (try clear c5); (try clear c5b0); (try clear c5b1); (try clear c6); (try clear c8); (try clear c10); (try clear c11); (try clear c14); (try clear c14b0); (try clear c15); (try clear c17); (try clear c17b0); (try clear c18); (try clear c20); (try clear c20b0); (try clear c21)
     (try clear c21b0); (try clear c22); (try clear c22b0); (try clear c22b1); (try clear c23); (try clear c23b0); (try clear c23b1); (try clear c23b2); (try clear c24); (try clear c26); (try clear c26b0); (try clear c26b1); (try clear c27); (try clear c27b0); (try clear c27b1); (try clear c28); (try clear c30); (try clear c32); (try clear hcz12_0 hcz12_1 hcz12_2 hcz12_3)
     (try clear hcz16_0 hcz16_1 hcz16_2); (try clear hcz19_0 hcz19_1 hcz19_2); (try clear hcz25_0 hcz25_1 hcz25_2); (try clear hcz29_0 hcz29_1 hcz29_2); (try clear hcz31_0 hcz31_1 hcz31_2); (try clear hcz33_0 hcz33_1 hcz33_2); (try clear hcz7_0)
     (try clear hcz7_1 hcz7_2); (try clear hcz9_0 hcz9_1 hcz9_2); (try clear hfz12_0 hfz12_1 hfz12_2 hfz12_3); (try clear hfz16_0 hfz16_1 hfz16_2); (try clear hfz19_0 hfz19_1 hfz19_2); (try clear hfz25_0 hfz25_1 hfz25_2); (try clear hfz29_0 hfz29_1)
     (try clear hfz29_2); (try clear hfz31_0 hfz31_1 hfz31_2); (try clear hfz33_0 hfz33_1 hfz33_2); (try clear hfz7_0 hfz7_1 hfz7_2); (try clear hfz9_0 hfz9_1 hfz9_2); (try clear hx350_0); (try clear hx350_1); (try clear hx350_2); (try clear hx350_3); (try clear hx350_4); (try clear hx351_0); (try clear hx351_1)
     (try clear hx351_2); (try clear hx351_3); (try clear hx351_4); (try clear hx352_0); (try clear hx352_1); (try clear hx352_2); (try clear hx352_3); (try clear hx352_4); (try clear hx353_0); (try clear hx354_0); (try clear hx354_1); (try clear hx354_2); (try clear hx354_3); (try clear hx354_4); (try clear p2); (try clear p350); (try clear p351); (try clear p352); (try clear p353); (try clear p354)
     (try clear q350); (try clear q351); (try clear q352); (try clear q353); (try clear q354)
     obtain ⟨kq, x72_12, rfl, HA, HJ12, BK348, BK349, HB⟩ := hcut
     cases kq with
     | zero => exact absurd HA.out (by simp [balustraderef16_Check.j1])
     | succ kj12 =>
      have H := HA.out
      clear HA
      simp only [balustraderef16_Check.j1] at H
      by_cases c34 : x72_12 = true
      ·subst c34
       have H1 : (some ((-1), (-1), (-1), 13)) = some (r1, r2, r3, r4) := by rw [if_pos rfl] at H; exact H
       clear H
       have H := H1
       clear H1
       simp only [Option.some.injEq, Prod.mk.injEq] at H
       obtain ⟨rfl, rfl, rfl, rfl⟩ := H
       have hnb35 := NB349_348.out
       have hnc35 := NB348_349.out
       have hcz36_0 : wc.cell? ⟨gb349, 0, none⟩ = some (.int .i64 0) := (blk_cell BK349.out 0).trans rfl
       have hcz36_1 : wc.cell? ⟨gb349, 1, none⟩ = some (.int .i64 0) := (blk_cell BK349.out 1).trans rfl
       have hcz36_2 : wc.cell? ⟨gb349, 2, none⟩ = some (.int .i64 0) := (blk_cell BK349.out 2).trans rfl
       have hcz36_3 : wc.cell? ⟨gb349, 3, none⟩ = some (.int .i64 0) := (blk_cell BK349.out 3).trans rfl
       have hfz36_0 := blk_frozen BK349.out 0
       have hfz36_1 := blk_frozen BK349.out 1
       have hfz36_2 := blk_frozen BK349.out 2
       have hfz36_3 := blk_frozen BK349.out 3
       go_wp2
       refine bodyPost_ret (results_cell_row rfl _ _ gb349 32 #[.int .i64 (-1), .int .i64 (-1), .int .i64 (-1), .int .i64 13] (0, 0) _ rfl (by (with_reducible repeat (first | refine blk_drewN ?_ _ | refine blk_drew ?_ | refine blk_alloc ?_ _)); refine blk_put (cs := #[.int .i64 (-1), .int .i64 (-1), .int .i64 (-1), .int .i64 0]) ?_ 3 _ rfl; (with_reducible repeat (first | refine blk_drewN ?_ _ | refine blk_drew ?_ | refine blk_alloc ?_ _)); refine blk_put (cs := #[.int .i64 (-1), .int .i64 (-1), .int .i64 0, .int .i64 0]) ?_ 2 _ rfl; (with_reducible repeat (first | refine blk_drewN ?_ _ | refine blk_drew ?_ | refine blk_alloc ?_ _)); refine blk_put (cs := #[.int .i64 (-1), .int .i64 0, .int .i64 0, .int .i64 0]) ?_ 1 _ rfl; (with_reducible repeat (first | refine blk_drewN ?_ _ | refine blk_drew ?_ | refine blk_alloc ?_ _)); refine blk_put (cs := #[.int .i64 0, .int .i64 0, .int .i64 0, .int .i64 0]) ?_ 0 _ rfl; (with_reducible repeat (first | refine blk_drewN ?_ _ | refine blk_drew ?_ | refine blk_alloc ?_ _)); exact BK349.out) Try.underlying32 rfl (by kernel_rfl)) rfl ?_
       exact ⟨zV, zG⟩
      ·replace c34 := Bool.eq_false_iff.mpr c34
       subst c34
       have H1 : (balustraderef16_Check.l0 kj12 0 l0_0 a0_1 l0_2) = some (r1, r2, r3, r4) := by rw [if_neg (show ¬ (false = true) by decide)] at H; exact H
       clear H
       have H := H1
       clear H1
       have H' := Aside0.mk H
       clear H
       go_wp2
       go_loopg [3] kj12 (fun kq v3 w' => ∃ (x3_3 : Int) (x350000_3 : Int) (x350001_3 : Int) (x350002_3 : Int) (x350003_3 : Int), v3 = .int .i64 x3_3 ∧ Aside0 (balustraderef16_Check.l0 kq x3_3 l0_0 a0_1 l0_2 = some (r1, r2, r3, r4)) ∧ Aside0 (kq ≤ kj12) ∧ Aside0 (w'.heap[gb348]? = some (.cells #[(.slice A0_0 l0_0.length c0_0), .int .i64 a0_1, (.slice A0_2 l0_2.length c0_2)] 25 (0, 0))) ∧ Aside0 (w'.heap[gb349]? = some (.cells #[.int .i64 x350000_3, .int .i64 x350001_3, .int .i64 x350002_3, .int .i64 x350003_3] 32 (0, 0))) ∧ Aside0 (Below w.heap.size w w'))
       case atStart => exact ⟨(0), (0), (0), (0), (0), zQ, H', ⟨Nat.le_refl _⟩, ⟨zK BK348.out⟩, ⟨zK BK349.out⟩, ⟨zG⟩⟩
       case round =>
        clear H'
        (try clear c1); (try clear c2); (try clear p2); (try clear c3); (try clear p3); (try clear q3); (try clear hx3); (try clear qi3); (try clear c5); (try clear c5b0); (try clear c5b1); (try clear c6); (try clear c8); (try clear c10); (try clear c11); (try clear c14); (try clear c14b0); (try clear c15); (try clear c17); (try clear c17b0); (try clear c18); (try clear c20); (try clear c20b0); (try clear c21)
        (try clear c21b0); (try clear c22); (try clear c22b0); (try clear c22b1); (try clear c23); (try clear c23b0); (try clear c23b1); (try clear c23b2); (try clear c24); (try clear c26); (try clear c26b0); (try clear c26b1); (try clear c27); (try clear c27b0); (try clear c27b1); (try clear c28); (try clear c30); (try clear c32); (try clear c34); (try clear c35); (try clear p35); (try clear q35)
        (try clear hx35); (try clear qi35); (try clear hcz12_0 hcz12_1 hcz12_2 hcz12_3); (try clear hcz16_0 hcz16_1 hcz16_2); (try clear hcz19_0 hcz19_1 hcz19_2); (try clear hcz25_0 hcz25_1 hcz25_2); (try clear hcz29_0 hcz29_1 hcz29_2); (try clear hcz31_0 hcz31_1)
        (try clear hcz31_2); (try clear hcz33_0 hcz33_1 hcz33_2); (try clear hcz36_0 hcz36_1 hcz36_2 hcz36_3); (try clear hcz7_0 hcz7_1 hcz7_2); (try clear hcz9_0 hcz9_1 hcz9_2); (try clear hfz12_0 hfz12_1 hfz12_2 hfz12_3); (try clear hfz16_0 hfz16_1)
        (try clear hfz16_2); (try clear hfz19_0 hfz19_1 hfz19_2); (try clear hfz25_0 hfz25_1 hfz25_2); (try clear hfz29_0 hfz29_1 hfz29_2); (try clear hfz31_0 hfz31_1 hfz31_2); (try clear hfz33_0 hfz33_1 hfz33_2); (try clear hfz36_0 hfz36_1 hfz36_2)
        (try clear hfz36_3); (try clear hfz7_0 hfz7_1 hfz7_2); (try clear hfz9_0 hfz9_1 hfz9_2); (try clear hx350_0); (try clear hx350_1); (try clear hx350_2); (try clear hx350_3); (try clear hx350_4); (try clear hx351_0); (try clear hx351_1); (try clear hx351_2); (try clear hx351_3); (try clear hx351_4); (try clear hx352_0); (try clear hx352_1); (try clear hx352_2)
        (try clear hx352_3); (try clear hx352_4); (try clear hx353_0); (try clear hx354_0); (try clear hx354_1); (try clear hx354_2); (try clear hx354_3); (try clear hx354_4); (try clear p2); (try clear p3); (try clear p350); (try clear p351); (try clear p352); (try clear p353); (try clear p354); (try clear q3); (try clear q350); (try clear q351); (try clear q352); (try clear q353); (try clear q354)
        obtain ⟨x3_3, x350000_3, x350001_3, x350002_3, x350003_3, rfl, HA, HK3, BK348, BK349, HB⟩ := hrel
        cases gk with
        | zero => exact absurd HA.out (by simp [balustraderef16_Check.l0])
        | succ k3 =>
         have H := HA.out
         clear HA
         simp only [balustraderef16_Check.l0] at H
         by_cases c37 : x3_3 < (l0_0.length : Int)
         ·rw [if_pos c37] at H
          have c37b0 : decide (x3_3 < (l0_0.length : Int)) = true := decide_eq_true c37
          clear c37
          by_cases c38 : 0 ≤ x3_3
          ·rw [if_pos c38] at H
           have c38b0 : decide (0 ≤ x3_3) = true := decide_eq_true c38
           clear c38
           replace H := Option.bind_eq_some_iff.mp H
           obtain ⟨t357, A390, H⟩ := H
           replace H : (if t357 = 0 then (balustraderef16_Check.l1 k3 x3_3 0 l0_0 a0_1 l0_2 ((rd_T39 l0_0 x3_3).f0) ((rd_T39 l0_0 x3_3).f1) ((rd_T39 l0_0 x3_3).f2) ((rd_T39 l0_0 x3_3).f3) ((rd_T39 l0_0 x3_3).f4)) else (some (x3_3, (-1), (-1), t357))) = some (r1, r2, r3, r4) := H
           have A39 := Aside0.mk A390
           clear A390
           by_cases c40 : t357 = 0
           ·rw [if_pos c40] at H
            have c40b0 : (t357 == 0) = true := beq_iff_eq.mpr c40
            have c40b1 : (t357 != 0) = false := bne_eq_false_iff_eq.mpr c40
            clear c40
            have H' := Aside0.mk H
            clear H
            have hnb41 := NB348_349.out
            have hnc41 := NB349_348.out
            have hcz42_0 : wr.cell? ⟨gb348, 0, none⟩ = some (.slice A0_0 l0_0.length c0_0) := (blk_cell BK348.out 0).trans rfl
            have hcz42_1 : wr.cell? ⟨gb348, 1, none⟩ = some (.int .i64 a0_1) := (blk_cell BK348.out 1).trans rfl
            have hcz42_2 : wr.cell? ⟨gb348, 2, none⟩ = some (.slice A0_2 l0_2.length c0_2) := (blk_cell BK348.out 2).trans rfl
            have hfz42_0 := blk_frozen BK348.out 0
            have hfz42_1 := blk_frozen BK348.out 1
            have hfz42_2 := blk_frozen BK348.out 2
            have p355 : 0 ≤ (x3_3 : Int) := zO
            have q355 : x3_3 < (l0_0.length : Int) := zO
            obtain ⟨ad355, A355_3, c355_3, A355_4, c355_4, e355, hx355_0, hx355_1, hx355_2, hx355_3, hx355_4, hl355_3, hi355_3, hl355_4, hi355_4⟩ := at_T39 HR0_0.out x3_3 p355 q355
            cases e355
            replace hx355_0 := pw_cell_below HB.out hx355_0
            replace hx355_1 := pw_cell_below HB.out hx355_1
            replace hx355_2 := pw_cell_below HB.out hx355_2
            replace hx355_3 := pw_cell_below HB.out hx355_3
            replace hx355_4 := pw_cell_below HB.out hx355_4
            have HR355_3 := Aside0.mk hi355_3
            have HC355_3 := Aside0.mk hl355_3
            clear hi355_3 hl355_3
            have HR355_4 := Aside0.mk hi355_4
            have HC355_4 := Aside0.mk hl355_4
            clear hi355_4 hl355_4
            replace p355 := eq_true p355
            replace q355 := eq_true q355
            go_wp2_with (first | ((with_reducible refine gate_dst (N := 4) rfl ?_); (try (refine gate_guard (by rfl) ?_; dsimp only)); refine box_event ?hg (N := 4) ?hd (cs := #[.string (⟨#[]⟩ : ByteArray), .int .i64 0, .int .i64 0, .slice none 0 0, .slice none 0 0]) (t := 39) ?hr ?_; (case hd => rfl); (case hg => rfl); (case hr => first | (go_simp; done) | (go_simp; rfl)); intro gb356 hg w43 hbox hb; have n0_ := Aside0.mk (blk_below (g := gb348) (o := .cells #[.slice (some ad355) l0_0.length c0_0, .int .i64 a0_1, .slice A0_2 l0_2.length c0_2] 25 (0, 0)) (zK BK348.out) hb); have n1_ := Aside0.mk (blk_below (g := gb349) (o := .cells #[.int .i64 x350000_3, .int .i64 x350001_3, .int .i64 x350002_3, .int .i64 x350003_3] 32 (0, 0)) (zK BK349.out) hb); have n2_ := Aside0.mk (below_step (zG) hb); have n3_ := Aside0.mk (hbox); have n4_ := Aside0.mk ((by rw [hg]; exact (below_size (zG)) : w.heap.size ≤ gb356)); have n5_ := Aside0.mk ((by rw [hg]; exact (below_size (zG)) : w.heap.size ≤ gb356)); have n6_ := Aside0.mk ((by rw [hg]; exact Nat.ne_of_lt (blk_lt (g := gb348) (o := .cells #[.slice (some ad355) l0_0.length c0_0, .int .i64 a0_1, .slice A0_2 l0_2.length c0_2] 25 (0, 0)) (zK BK348.out)) : gb348 ≠ gb356)); have n7_ := Aside0.mk ((by rw [hg]; exact Nat.ne_of_gt (blk_lt (g := gb348) (o := .cells #[.slice (some ad355) l0_0.length c0_0, .int .i64 a0_1, .slice A0_2 l0_2.length c0_2] 25 (0, 0)) (zK BK348.out)) : gb356 ≠ gb348)); have n8_ := Aside0.mk ((by rw [hg]; exact Nat.ne_of_lt (blk_lt (g := gb349) (o := .cells #[.int .i64 x350000_3, .int .i64 x350001_3, .int .i64 x350002_3, .int .i64 x350003_3] 32 (0, 0)) (zK BK349.out)) : gb349 ≠ gb356)); have n9_ := Aside0.mk ((by rw [hg]; exact Nat.ne_of_gt (blk_lt (g := gb349) (o := .cells #[.int .i64 x350000_3, .int .i64 x350001_3, .int .i64 x350002_3, .int .i64 x350003_3] 32 (0, 0)) (zK BK349.out)) : gb356 ≠ gb349)); clear BK348; clear BK349; clear HB; have BK348 := n0_; have BK349 := n1_; have HB := n2_; have BK356 := n3_; have GW356 := n4_; have GE356 := n5_; have NB348_356 := n6_; have NB356_348 := n7_; have NB349_356 := n8_; have NB356_349 := n9_; clear n0_ n1_ n2_ n3_ n4_ n5_ n6_ n7_ n8_ n9_; clear hb hbox hg; have hnb44 := NB356_348.out; have hnc44 := NB348_356.out; have hnb45 := NB356_349.out; have hnc45 := NB349_356.out; obtain ⟨hcz46_0, hcz46_1, hcz46_2, hcz46_3, hcz46_4⟩ := zc5 BK356.out; obtain ⟨hfz46_0, hfz46_1, hfz46_2, hfz46_3, hfz46_4⟩ := zf5 BK356.out) | ((with_reducible refine gate_callee (f := 26) rfl ?_); refine goesL_ (some 87) rfl rfl Try.func26 (by kernel_rfl) rfl #[.agg #[.string ((rd_T39 l0_0 x3_3).f0), .int .i64 ((rd_T39 l0_0 x3_3).f1), .int .i64 ((rd_T39 l0_0 x3_3).f2), .slice A355_3 ((rd_T39 l0_0 x3_3).f3).length c355_3, .slice A355_4 ((rd_T39 l0_0 x3_3).f4).length c355_4]] rfl zE ?_; (with_reducible refine (balustraderef16_head.calls k3 ((rd_T39 l0_0 x3_3).f0) ((rd_T39 l0_0 x3_3).f1) ((rd_T39 l0_0 x3_3).f2) _ _ ((rd_T39 l0_0 x3_3).f3) _ _ ((rd_T39 l0_0 x3_3).f4) t357 _ ?side1 ?side2 ?side3 ?side4 A39.out).mono ?_); (case side1 => exact Kd.C_below HR355_3.out (zG)); (case side2 => exact HC355_3.out); (case side3 => exact Kd.C_below HR355_4.out (zG)); (case side4 => exact HC355_4.out); rintro e w47 ⟨rfl, hb⟩; refine ⟨_, rfl, ?_⟩; have n0_ := Aside0.mk (blk_below (g := gb348) (o := .cells #[.slice (some ad355) l0_0.length c0_0, .int .i64 a0_1, .slice A0_2 l0_2.length c0_2] 25 (0, 0)) (by (with_reducible repeat (first | refine blk_drewN ?_ _ | refine blk_drew ?_ | refine blk_alloc ?_ _)); refine blk_far ?_ NB348_356.out _; (with_reducible repeat (first | refine blk_drewN ?_ _ | refine blk_drew ?_ | refine blk_alloc ?_ _)); refine blk_far ?_ NB348_356.out _; (with_reducible repeat (first | refine blk_drewN ?_ _ | refine blk_drew ?_ | refine blk_alloc ?_ _)); refine blk_far ?_ NB348_356.out _; (with_reducible repeat (first | refine blk_drewN ?_ _ | refine blk_drew ?_ | refine blk_alloc ?_ _)); refine blk_far ?_ NB348_356.out _; (with_reducible repeat (first | refine blk_drewN ?_ _ | refine blk_drew ?_ | refine blk_alloc ?_ _)); refine blk_far ?_ NB348_356.out _; (with_reducible repeat (first | refine blk_drewN ?_ _ | refine blk_drew ?_ | refine blk_alloc ?_ _)); exact BK348.out) hb); have n1_ := Aside0.mk (blk_below (g := gb349) (o := .cells #[.int .i64 x350000_3, .int .i64 x350001_3, .int .i64 x350002_3, .int .i64 x350003_3] 32 (0, 0)) (by (with_reducible repeat (first | refine blk_drewN ?_ _ | refine blk_drew ?_ | refine blk_alloc ?_ _)); refine blk_far ?_ NB349_356.out _; (with_reducible repeat (first | refine blk_drewN ?_ _ | refine blk_drew ?_ | refine blk_alloc ?_ _)); refine blk_far ?_ NB349_356.out _; (with_reducible repeat (first | refine blk_drewN ?_ _ | refine blk_drew ?_ | refine blk_alloc ?_ _)); refine blk_far ?_ NB349_356.out _; (with_reducible repeat (first | refine blk_drewN ?_ _ | refine blk_drew ?_ | refine blk_alloc ?_ _)); refine blk_far ?_ NB349_356.out _; (with_reducible repeat (first | refine blk_drewN ?_ _ | refine blk_drew ?_ | refine blk_alloc ?_ _)); refine blk_far ?_ NB349_356.out _; (with_reducible repeat (first | refine blk_drewN ?_ _ | refine blk_drew ?_ | refine blk_alloc ?_ _)); exact BK349.out) hb); have n2_ := Aside0.mk (blk_below (g := gb356) (o := .cells #[.string ((rd_T39 l0_0 x3_3).f0), .int .i64 ((rd_T39 l0_0 x3_3).f1), .int .i64 ((rd_T39 l0_0 x3_3).f2), .slice A355_3 ((rd_T39 l0_0 x3_3).f3).length c355_3, .slice A355_4 ((rd_T39 l0_0 x3_3).f4).length c355_4] 39 (0, 0)) (by (with_reducible repeat (first | refine blk_drewN ?_ _ | refine blk_drew ?_ | refine blk_alloc ?_ _)); refine blk_put (cs := #[.string ((rd_T39 l0_0 x3_3).f0), .int .i64 ((rd_T39 l0_0 x3_3).f1), .int .i64 ((rd_T39 l0_0 x3_3).f2), .slice A355_3 ((rd_T39 l0_0 x3_3).f3).length c355_3, .slice none 0 0]) ?_ 4 _ rfl; (with_reducible repeat (first | refine blk_drewN ?_ _ | refine blk_drew ?_ | refine blk_alloc ?_ _)); refine blk_put (cs := #[.string ((rd_T39 l0_0 x3_3).f0), .int .i64 ((rd_T39 l0_0 x3_3).f1), .int .i64 ((rd_T39 l0_0 x3_3).f2), .slice none 0 0, .slice none 0 0]) ?_ 3 _ rfl; (with_reducible repeat (first | refine blk_drewN ?_ _ | refine blk_drew ?_ | refine blk_alloc ?_ _)); refine blk_put (cs := #[.string ((rd_T39 l0_0 x3_3).f0), .int .i64 ((rd_T39 l0_0 x3_3).f1), .int .i64 0, .slice none 0 0, .slice none 0 0]) ?_ 2 _ rfl; (with_reducible repeat (first | refine blk_drewN ?_ _ | refine blk_drew ?_ | refine blk_alloc ?_ _)); refine blk_put (cs := #[.string ((rd_T39 l0_0 x3_3).f0), .int .i64 0, .int .i64 0, .slice none 0 0, .slice none 0 0]) ?_ 1 _ rfl; (with_reducible repeat (first | refine blk_drewN ?_ _ | refine blk_drew ?_ | refine blk_alloc ?_ _)); refine blk_put (cs := #[.string (⟨#[]⟩ : ByteArray), .int .i64 0, .int .i64 0, .slice none 0 0, .slice none 0 0]) ?_ 0 _ rfl; (with_reducible repeat (first | refine blk_drewN ?_ _ | refine blk_drew ?_ | refine blk_alloc ?_ _)); exact BK356.out) hb); have n3_ := Aside0.mk (below_step (zG) hb); clear BK348; clear BK349; clear BK356; clear HB; have BK348 := n0_; have BK349 := n1_; have BK356 := n2_; have HB := n3_; clear n0_ n1_ n2_ n3_; (try clear hb); (try clear hb2); (try clear hk); (try clear hi)))
            go_loopg [6] k3 (fun kq v6 w' => ∃ (x6_4 : Int) (x350000_4 : Int) (x350001_4 : Int) (x350002_4 : Int) (x350003_4 : Int), v6 = .int .i64 x6_4 ∧ Aside0 (balustraderef16_Check.l1 kq x3_3 x6_4 l0_0 a0_1 l0_2 ((rd_T39 l0_0 x3_3).f0) ((rd_T39 l0_0 x3_3).f1) ((rd_T39 l0_0 x3_3).f2) ((rd_T39 l0_0 x3_3).f3) ((rd_T39 l0_0 x3_3).f4) = some (r1, r2, r3, r4)) ∧ Aside0 (kq ≤ k3) ∧ Aside0 (w'.heap[gb348]? = some (.cells #[(.slice (some ad355) l0_0.length c0_0), .int .i64 a0_1, (.slice A0_2 l0_2.length c0_2)] 25 (0, 0))) ∧ Aside0 (w'.heap[gb349]? = some (.cells #[.int .i64 x350000_4, .int .i64 x350001_4, .int .i64 x350002_4, .int .i64 x350003_4] 32 (0, 0))) ∧ Aside0 (w'.heap[gb356]? = some (.cells #[.string ((rd_T39 l0_0 x3_3).f0), .int .i64 ((rd_T39 l0_0 x3_3).f1), .int .i64 ((rd_T39 l0_0 x3_3).f2), (.slice A355_3 ((rd_T39 l0_0 x3_3).f3).length c355_3), (.slice A355_4 ((rd_T39 l0_0 x3_3).f4).length c355_4)] 39 (0, 0))) ∧ Aside0 (Below w.heap.size w w'))
            case atStart => exact ⟨(0), (x350000_3), (x350001_3), (x350002_3), (x350003_3), zQ, H', ⟨Nat.le_refl _⟩, ⟨zK BK348.out⟩, ⟨zK BK349.out⟩, ⟨zK BK356.out⟩, ⟨zG⟩⟩
            case round =>
             clear H'
             (try clear c1); (try clear c2); (try clear p2); (try clear c3); (try clear p3); (try clear q3); (try clear hx3); (try clear qi3); (try clear c4); (try clear c5); (try clear c5b0); (try clear c5b1); (try clear c6); (try clear c8); (try clear c10); (try clear c11); (try clear c14); (try clear c14b0); (try clear c15); (try clear c17); (try clear c17b0); (try clear c18); (try clear c20); (try clear c20b0)
             (try clear c21); (try clear c21b0); (try clear c22); (try clear c22b0); (try clear c22b1); (try clear c23); (try clear c23b0); (try clear c23b1); (try clear c23b2); (try clear c24); (try clear c26); (try clear c26b0); (try clear c26b1); (try clear c27); (try clear c27b0); (try clear c27b1); (try clear c28); (try clear c30); (try clear c32); (try clear c34); (try clear c35); (try clear p35)
             (try clear q35); (try clear hx35); (try clear qi35); (try clear c37); (try clear c37b0); (try clear c38); (try clear c38b0); (try clear c40); (try clear c40b0); (try clear c40b1); (try clear c41); (try clear c44); (try clear c45); (try clear hcz12_0 hcz12_1 hcz12_2 hcz12_3); (try clear hcz16_0 hcz16_1 hcz16_2); (try clear hcz19_0)
             (try clear hcz19_1 hcz19_2); (try clear hcz25_0 hcz25_1 hcz25_2); (try clear hcz29_0 hcz29_1 hcz29_2); (try clear hcz31_0 hcz31_1 hcz31_2); (try clear hcz33_0 hcz33_1 hcz33_2); (try clear hcz36_0 hcz36_1 hcz36_2 hcz36_3); (try clear hcz42_0)
             (try clear hcz42_1 hcz42_2); (try clear hcz46_0 hcz46_1 hcz46_2 hcz46_3 hcz46_4); (try clear hcz7_0 hcz7_1 hcz7_2); (try clear hcz9_0 hcz9_1 hcz9_2); (try clear hfz12_0 hfz12_1 hfz12_2 hfz12_3); (try clear hfz16_0 hfz16_1)
             (try clear hfz16_2); (try clear hfz19_0 hfz19_1 hfz19_2); (try clear hfz25_0 hfz25_1 hfz25_2); (try clear hfz29_0 hfz29_1 hfz29_2); (try clear hfz31_0 hfz31_1 hfz31_2); (try clear hfz33_0 hfz33_1 hfz33_2); (try clear hfz36_0 hfz36_1 hfz36_2)
             (try clear hfz36_3); (try clear hfz42_0 hfz42_1 hfz42_2); (try clear hfz46_0 hfz46_1 hfz46_2 hfz46_3 hfz46_4); (try clear hfz7_0 hfz7_1 hfz7_2); (try clear hfz9_0 hfz9_1 hfz9_2); (try clear hx350_0); (try clear hx350_1); (try clear hx350_2); (try clear hx350_3)
             (try clear hx350_4); (try clear hx351_0); (try clear hx351_1); (try clear hx351_2); (try clear hx351_3); (try clear hx351_4); (try clear hx352_0); (try clear hx352_1); (try clear hx352_2); (try clear hx352_3); (try clear hx352_4); (try clear hx353_0); (try clear hx354_0); (try clear hx354_1); (try clear hx354_2); (try clear hx354_3); (try clear hx354_4); (try clear hx355_0); (try clear hx355_1)
             (try clear hx355_2); (try clear hx355_3); (try clear hx355_4); (try clear p2); (try clear p3); (try clear p35); (try clear p350); (try clear p351); (try clear p352); (try clear p353); (try clear p354); (try clear p355); (try clear q3); (try clear q35); (try clear q350); (try clear q351); (try clear q352); (try clear q353); (try clear q354); (try clear q355)
             obtain ⟨x6_4, x350000_4, x350001_4, x350002_4, x350003_4, rfl, HA, HK4, BK348, BK349, BK356, HB⟩ := hrel
             cases gk with
             | zero => exact absurd HA.out (by simp [balustraderef16_Check.l1])
             | succ k4 =>
              have H := HA.out
              clear HA
              simp only [balustraderef16_Check.l1] at H
              by_cases c48 : x6_4 < (((rd_T39 l0_0 x3_3).f4).length : Int)
              ·rw [if_pos c48] at H
               have c48b0 : decide (x6_4 < (((rd_T39 l0_0 x3_3).f4).length : Int)) = true := decide_eq_true c48
               clear c48
               by_cases c49 : 0 ≤ x6_4
               ·rw [if_pos c49] at H
                have c49b0 : decide (0 ≤ x6_4) = true := decide_eq_true c49
                clear c49
                by_cases c50 : ((rd_L5 ((rd_T39 l0_0 x3_3).f4) x6_4).length : Int) = 0
                ·rw [if_pos c50] at H
                 have c50b0 : (((rd_L5 ((rd_T39 l0_0 x3_3).f4) x6_4).length : Int) == 0) = true := beq_iff_eq.mpr c50
                 have c50b1 : (((rd_L5 ((rd_T39 l0_0 x3_3).f4) x6_4).length : Int) != 0) = false := bne_eq_false_iff_eq.mpr c50
                 clear c50
                 simp only [Option.some.injEq, Prod.mk.injEq] at H
                 obtain ⟨rfl, rfl, rfl, rfl⟩ := H
                 have hnb51 := NB356_348.out
                 have hnc51 := NB348_356.out
                 have hnb52 := NB356_349.out
                 have hnc52 := NB349_356.out
                 obtain ⟨hcz53_0, hcz53_1, hcz53_2, hcz53_3, hcz53_4⟩ := zc5 BK356.out
                 obtain ⟨hfz53_0, hfz53_1, hfz53_2, hfz53_3, hfz53_4⟩ := zf5 BK356.out
                 have p358 : 0 ≤ (x6_4 : Int) := zO
                 have q358 : x6_4 < (((rd_T39 l0_0 x3_3).f4).length : Int) := zO
                 obtain ⟨ad358, A358_0, c358_0, e358, hx358_0, hl358_0, hi358_0⟩ := at_L5 HR355_4.out x6_4 p358 q358
                 cases e358
                 replace hx358_0 := pw_cell_below HB.out hx358_0
                 have HR358_0 := Aside0.mk hi358_0
                 have HC358_0 := Aside0.mk hl358_0
                 clear hi358_0 hl358_0
                 replace p358 := eq_true p358
                 replace q358 := eq_true q358
                 have hnb54 := NB349_348.out
                 have hnc54 := NB348_349.out
                 have hcz55_0 : wr.cell? ⟨gb349, 0, none⟩ = some (.int .i64 x350000_4) := (blk_cell BK349.out 0).trans rfl
                 have hcz55_1 : wr.cell? ⟨gb349, 1, none⟩ = some (.int .i64 x350001_4) := (blk_cell BK349.out 1).trans rfl
                 have hcz55_2 : wr.cell? ⟨gb349, 2, none⟩ = some (.int .i64 x350002_4) := (blk_cell BK349.out 2).trans rfl
                 have hcz55_3 : wr.cell? ⟨gb349, 3, none⟩ = some (.int .i64 x350003_4) := (blk_cell BK349.out 3).trans rfl
                 have hfz55_0 := blk_frozen BK349.out 0
                 have hfz55_1 := blk_frozen BK349.out 1
                 have hfz55_2 := blk_frozen BK349.out 2
                 have hfz55_3 := blk_frozen BK349.out 3
                 go_wp2
                 refine bodyPost_ret (results_cell_row rfl _ _ gb349 32 #[.int .i64 x3_3, .int .i64 x6_4, .int .i64 (-1), .int .i64 5] (0, 0) _ rfl (by (with_reducible repeat (first | refine blk_drewN ?_ _ | refine blk_drew ?_ | refine blk_alloc ?_ _)); refine blk_put (cs := #[.int .i64 x3_3, .int .i64 x6_4, .int .i64 (-1), .int .i64 x350003_4]) ?_ 3 _ rfl; (with_reducible repeat (first | refine blk_drewN ?_ _ | refine blk_drew ?_ | refine blk_alloc ?_ _)); refine blk_put (cs := #[.int .i64 x3_3, .int .i64 x6_4, .int .i64 x350002_4, .int .i64 x350003_4]) ?_ 2 _ rfl; (with_reducible repeat (first | refine blk_drewN ?_ _ | refine blk_drew ?_ | refine blk_alloc ?_ _)); refine blk_put (cs := #[.int .i64 x3_3, .int .i64 x350001_4, .int .i64 x350002_4, .int .i64 x350003_4]) ?_ 1 _ rfl; (with_reducible repeat (first | refine blk_drewN ?_ _ | refine blk_drew ?_ | refine blk_alloc ?_ _)); refine blk_put (cs := #[.int .i64 x350000_4, .int .i64 x350001_4, .int .i64 x350002_4, .int .i64 x350003_4]) ?_ 0 _ rfl; (with_reducible repeat (first | refine blk_drewN ?_ _ | refine blk_drew ?_ | refine blk_alloc ?_ _)); exact BK349.out) Try.underlying32 rfl (by kernel_rfl)) rfl ?_
                 exact ⟨zV, zG⟩
                ·rw [if_neg c50] at H
                 have c50b0 : (((rd_L5 ((rd_T39 l0_0 x3_3).f4) x6_4).length : Int) == 0) = false := beq_eq_false_iff_ne.mpr c50
                 have c50b1 : (((rd_L5 ((rd_T39 l0_0 x3_3).f4) x6_4).length : Int) != 0) = true := bne_iff_ne.mpr c50
                 have c50b2 : ¬ ((rd_L5 ((rd_T39 l0_0 x3_3).f4) x6_4) = []) := fun h_ => c50 (by rw [h_]; rfl)
                 have H' := Aside0.mk H
                 clear H
                 have hnb56 := NB356_348.out
                 have hnc56 := NB348_356.out
                 have hnb57 := NB356_349.out
                 have hnc57 := NB349_356.out
                 obtain ⟨hcz58_0, hcz58_1, hcz58_2, hcz58_3, hcz58_4⟩ := zc5 BK356.out
                 obtain ⟨hfz58_0, hfz58_1, hfz58_2, hfz58_3, hfz58_4⟩ := zf5 BK356.out
                 have p358 : 0 ≤ (x6_4 : Int) := zO
                 have q358 : x6_4 < (((rd_T39 l0_0 x3_3).f4).length : Int) := zO
                 obtain ⟨ad358, A358_0, c358_0, e358, hx358_0, hl358_0, hi358_0⟩ := at_L5 HR355_4.out x6_4 p358 q358
                 cases e358
                 replace hx358_0 := pw_cell_below HB.out hx358_0
                 have HR358_0 := Aside0.mk hi358_0
                 have HC358_0 := Aside0.mk hl358_0
                 clear hi358_0 hl358_0
                 replace p358 := eq_true p358
                 replace q358 := eq_true q358
                 go_wp2
                 go_loopg [7] k4 (fun kq v7 w' => ∃ (x7_5 : Int) (x350000_5 : Int) (x350001_5 : Int) (x350002_5 : Int) (x350003_5 : Int), v7 = .int .i64 x7_5 ∧ Aside0 (balustraderef16_Check.l2 kq x3_3 x6_4 x7_5 l0_0 a0_1 l0_2 ((rd_T39 l0_0 x3_3).f0) ((rd_T39 l0_0 x3_3).f1) ((rd_T39 l0_0 x3_3).f2) ((rd_T39 l0_0 x3_3).f3) ((rd_T39 l0_0 x3_3).f4) = some (r1, r2, r3, r4)) ∧ Aside0 (kq ≤ k4) ∧ Aside0 (w'.heap[gb348]? = some (.cells #[(.slice (some ad355) l0_0.length c0_0), .int .i64 a0_1, (.slice A0_2 l0_2.length c0_2)] 25 (0, 0))) ∧ Aside0 (w'.heap[gb349]? = some (.cells #[.int .i64 x350000_5, .int .i64 x350001_5, .int .i64 x350002_5, .int .i64 x350003_5] 32 (0, 0))) ∧ Aside0 (w'.heap[gb356]? = some (.cells #[.string ((rd_T39 l0_0 x3_3).f0), .int .i64 ((rd_T39 l0_0 x3_3).f1), .int .i64 ((rd_T39 l0_0 x3_3).f2), (.slice A355_3 ((rd_T39 l0_0 x3_3).f3).length c355_3), (.slice (some ad358) ((rd_T39 l0_0 x3_3).f4).length c355_4)] 39 (0, 0))) ∧ Aside0 (Below w.heap.size w w'))
                 case atStart => exact ⟨(0), (x350000_4), (x350001_4), (x350002_4), (x350003_4), zQ, H', ⟨Nat.le_refl _⟩, ⟨zK BK348.out⟩, ⟨zK BK349.out⟩, ⟨zK BK356.out⟩, ⟨zG⟩⟩
                 case round =>
                  clear H'
                  (try clear c1); (try clear c2); (try clear p2); (try clear c3); (try clear p3); (try clear q3); (try clear hx3); (try clear qi3); (try clear c4); (try clear c5); (try clear c5b0); (try clear c5b1); (try clear c6); (try clear c8); (try clear c10); (try clear c11); (try clear c14); (try clear c14b0); (try clear c15); (try clear c17); (try clear c17b0); (try clear c18); (try clear c20)
                  (try clear c20b0); (try clear c21); (try clear c21b0); (try clear c22); (try clear c22b0); (try clear c22b1); (try clear c23); (try clear c23b0); (try clear c23b1); (try clear c23b2); (try clear c24); (try clear c26); (try clear c26b0); (try clear c26b1); (try clear c27); (try clear c27b0); (try clear c27b1); (try clear c28); (try clear c30); (try clear c32); (try clear c34); (try clear c35)
                  (try clear p35); (try clear q35); (try clear hx35); (try clear qi35); (try clear c37); (try clear c37b0); (try clear c38); (try clear c38b0); (try clear c40); (try clear c40b0); (try clear c40b1); (try clear c41); (try clear c44); (try clear c45); (try clear c48); (try clear c48b0); (try clear c49); (try clear c49b0); (try clear c50); (try clear c50b0); (try clear c50b1); (try clear c50b2)
                  (try clear c51); (try clear c52); (try clear c54); (try clear c56); (try clear c57); (try clear hcz12_0 hcz12_1 hcz12_2 hcz12_3); (try clear hcz16_0 hcz16_1 hcz16_2); (try clear hcz19_0 hcz19_1 hcz19_2); (try clear hcz25_0 hcz25_1 hcz25_2); (try clear hcz29_0 hcz29_1)
                  (try clear hcz29_2); (try clear hcz31_0 hcz31_1 hcz31_2); (try clear hcz33_0 hcz33_1 hcz33_2); (try clear hcz36_0 hcz36_1 hcz36_2 hcz36_3); (try clear hcz42_0 hcz42_1 hcz42_2); (try clear hcz46_0 hcz46_1 hcz46_2 hcz46_3 hcz46_4)
                  (try clear hcz53_0 hcz53_1 hcz53_2 hcz53_3 hcz53_4); (try clear hcz55_0 hcz55_1 hcz55_2 hcz55_3); (try clear hcz58_0 hcz58_1 hcz58_2 hcz58_3 hcz58_4); (try clear hcz7_0 hcz7_1 hcz7_2); (try clear hcz9_0 hcz9_1)
                  (try clear hcz9_2); (try clear hfz12_0 hfz12_1 hfz12_2 hfz12_3); (try clear hfz16_0 hfz16_1 hfz16_2); (try clear hfz19_0 hfz19_1 hfz19_2); (try clear hfz25_0 hfz25_1 hfz25_2); (try clear hfz29_0 hfz29_1 hfz29_2); (try clear hfz31_0 hfz31_1)
                  (try clear hfz31_2); (try clear hfz33_0 hfz33_1 hfz33_2); (try clear hfz36_0 hfz36_1 hfz36_2 hfz36_3); (try clear hfz42_0 hfz42_1 hfz42_2); (try clear hfz46_0 hfz46_1 hfz46_2 hfz46_3 hfz46_4); (try clear hfz53_0 hfz53_1 hfz53_2)
                  (try clear hfz53_3 hfz53_4); (try clear hfz55_0 hfz55_1 hfz55_2 hfz55_3); (try clear hfz58_0 hfz58_1 hfz58_2 hfz58_3 hfz58_4); (try clear hfz7_0 hfz7_1 hfz7_2); (try clear hfz9_0 hfz9_1 hfz9_2); (try clear hx350_0); (try clear hx350_1)
                  (try clear hx350_2); (try clear hx350_3); (try clear hx350_4); (try clear hx351_0); (try clear hx351_1); (try clear hx351_2); (try clear hx351_3); (try clear hx351_4); (try clear hx352_0); (try clear hx352_1); (try clear hx352_2); (try clear hx352_3); (try clear hx352_4); (try clear hx353_0); (try clear hx354_0); (try clear hx354_1); (try clear hx354_2); (try clear hx354_3); (try clear hx354_4)
                  (try clear hx355_0); (try clear hx355_1); (try clear hx355_2); (try clear hx355_3); (try clear hx355_4); (try clear hx358_0); (try clear p2); (try clear p3); (try clear p35); (try clear p350); (try clear p351); (try clear p352); (try clear p353); (try clear p354); (try clear p355); (try clear p358); (try clear q3); (try clear q35); (try clear q350); (try clear q351); (try clear q352)
                  (try clear q353); (try clear q354); (try clear q355); (try clear q358)
                  obtain ⟨x7_5, x350000_5, x350001_5, x350002_5, x350003_5, rfl, HA, HK5, BK348, BK349, BK356, HB⟩ := hrel
                  cases gk with
                  | zero => exact absurd HA.out (by simp [balustraderef16_Check.l2])
                  | succ k5 =>
                   have H := HA.out
                   clear HA
                   simp only [balustraderef16_Check.l2] at H
                   by_cases c59 : 0 ≤ x6_4
                   ·rw [if_pos c59] at H
                    have c59b0 : decide (0 ≤ x6_4) = true := decide_eq_true c59
                    clear c59
                    by_cases c60 : x6_4 < (((rd_T39 l0_0 x3_3).f4).length : Int)
                    ·rw [if_pos c60] at H
                     have c60b0 : decide (x6_4 < (((rd_T39 l0_0 x3_3).f4).length : Int)) = true := decide_eq_true c60
                     clear c60
                     by_cases c61 : x7_5 < ((rd_L5 ((rd_T39 l0_0 x3_3).f4) x6_4).length : Int)
                     ·rw [if_pos c61] at H
                      have c61b0 : decide (x7_5 < ((rd_L5 ((rd_T39 l0_0 x3_3).f4) x6_4).length : Int)) = true := decide_eq_true c61
                      clear c61
                      replace H := Option.bind_eq_some_iff.mp H
                      obtain ⟨t360, A620, H⟩ := H
                      replace H : (if t360 = 0 then (balustraderef16_Check.l2 k5 x3_3 x6_4 (wrap64 (x7_5 + 1)) l0_0 a0_1 l0_2 ((rd_T39 l0_0 x3_3).f0) ((rd_T39 l0_0 x3_3).f1) ((rd_T39 l0_0 x3_3).f2) ((rd_T39 l0_0 x3_3).f3) ((rd_T39 l0_0 x3_3).f4)) else (some (x3_3, x6_4, x7_5, t360))) = some (r1, r2, r3, r4) := H
                      have A62 := Aside0.mk A620
                      clear A620
                      by_cases c63 : t360 = 0
                      ·rw [if_pos c63] at H
                       have c63b0 : (t360 == 0) = true := beq_iff_eq.mpr c63
                       have c63b1 : (t360 != 0) = false := bne_eq_false_iff_eq.mpr c63
                       clear c63
                       have H' := Aside0.mk H
                       clear H
                       have hnb64 := NB356_348.out
                       have hnc64 := NB348_356.out
                       have hnb65 := NB356_349.out
                       have hnc65 := NB349_356.out
                       obtain ⟨hcz66_0, hcz66_1, hcz66_2, hcz66_3, hcz66_4⟩ := zc5 BK356.out
                       obtain ⟨hfz66_0, hfz66_1, hfz66_2, hfz66_3, hfz66_4⟩ := zf5 BK356.out
                       have p359 : 0 ≤ (x6_4 : Int) := zO
                       have q359 : x6_4 < (((rd_T39 l0_0 x3_3).f4).length : Int) := zO
                       obtain ⟨ad359, A359_0, c359_0, e359, hx359_0, hl359_0, hi359_0⟩ := at_L5 HR355_4.out x6_4 p359 q359
                       obtain rfl : ad358 = ad359 := (by injection e359)
                       replace hx359_0 := pw_cell_below HB.out hx359_0
                       have HR359_0 := Aside0.mk hi359_0
                       have HC359_0 := Aside0.mk hl359_0
                       clear hi359_0 hl359_0
                       replace p359 := eq_true p359
                       replace q359 := eq_true q359
                       have hnb67 := NB348_349.out
                       have hnc67 := NB349_348.out
                       have hcz68_0 : wr.cell? ⟨gb348, 0, none⟩ = some (.slice (some ad355) l0_0.length c0_0) := (blk_cell BK348.out 0).trans rfl
                       have hcz68_1 : wr.cell? ⟨gb348, 1, none⟩ = some (.int .i64 a0_1) := (blk_cell BK348.out 1).trans rfl
                       have hcz68_2 : wr.cell? ⟨gb348, 2, none⟩ = some (.slice A0_2 l0_2.length c0_2) := (blk_cell BK348.out 2).trans rfl
                       have hfz68_0 := blk_frozen BK348.out 0
                       have hfz68_1 := blk_frozen BK348.out 1
                       have hfz68_2 := blk_frozen BK348.out 2
                       go_wp2_with (first | ((with_reducible refine gate_callee (f := 27) rfl ?_); refine goesL_ (some 124) rfl rfl Try.func27 (by kernel_rfl) rfl #[.agg #[.slice (some ad355) l0_0.length c0_0, .int .i64 a0_1, .slice A0_2 l0_2.length c0_2], .agg #[.string ((rd_T39 l0_0 x3_3).f0), .int .i64 ((rd_T39 l0_0 x3_3).f1), .int .i64 ((rd_T39 l0_0 x3_3).f2), .slice A355_3 ((rd_T39 l0_0 x3_3).f3).length c355_3, .slice (some ad358) ((rd_T39 l0_0 x3_3).f4).length c355_4], .int .i64 x6_4, .int .i64 x7_5] rfl zE ?_; (with_reducible refine (balustraderef16_one.calls k5 _ _ l0_0 a0_1 _ _ l0_2 ((rd_T39 l0_0 x3_3).f0) ((rd_T39 l0_0 x3_3).f1) ((rd_T39 l0_0 x3_3).f2) _ _ ((rd_T39 l0_0 x3_3).f3) _ _ ((rd_T39 l0_0 x3_3).f4) x6_4 x7_5 t360 _ ?side1 ?side2 ?side3 ?side4 ?side5 ?side6 ?side7 ?side8 A62.out).mono ?_); (case side1 => exact zC (Kd.C_below HR0_0.out HB.out)); (case side2 => exact HC0_0.out); (case side3 => exact zC (Kd.C_below HR0_2.out HB.out)); (case side4 => exact HC0_2.out); (case side5 => exact zC (Kd.C_below HR355_3.out HB.out)); (case side6 => exact HC355_3.out); (case side7 => exact zC (Kd.C_below HR355_4.out HB.out)); (case side8 => exact HC355_4.out); rintro e w69 ⟨rfl, hb⟩; refine ⟨_, rfl, ?_⟩; have n0_ := Aside0.mk (blk_below (g := gb348) (o := .cells #[.slice (some ad355) l0_0.length c0_0, .int .i64 a0_1, .slice A0_2 l0_2.length c0_2] 25 (0, 0)) (zK BK348.out) hb); have n1_ := Aside0.mk (blk_below (g := gb349) (o := .cells #[.int .i64 x350000_5, .int .i64 x350001_5, .int .i64 x350002_5, .int .i64 x350003_5] 32 (0, 0)) (zK BK349.out) hb); have n2_ := Aside0.mk (blk_below (g := gb356) (o := .cells #[.string ((rd_T39 l0_0 x3_3).f0), .int .i64 ((rd_T39 l0_0 x3_3).f1), .int .i64 ((rd_T39 l0_0 x3_3).f2), .slice A355_3 ((rd_T39 l0_0 x3_3).f3).length c355_3, .slice (some ad358) ((rd_T39 l0_0 x3_3).f4).length c355_4] 39 (0, 0)) (zK BK356.out) hb); have n3_ := Aside0.mk (below_step (zG) hb); clear BK348; clear BK349; clear BK356; clear HB; have BK348 := n0_; have BK349 := n1_; have BK356 := n2_; have HB := n3_; clear n0_ n1_ n2_ n3_; (try clear hb); (try clear hb2); (try clear hk); (try clear hi)))
                       go_roundg k5
                       case measure => have := HJ1.out; have := HJ12.out; have := HK3.out; have := HK4.out; have := HK5.out; omega
                       case rel => exact ⟨(wrap64 (x7_5 + 1)), (x350000_5), (x350001_5), (x350002_5), (x350003_5), zQ, H', ⟨by have := HJ1.out; have := HJ12.out; have := HK3.out; have := HK4.out; have := HK5.out; omega⟩, ⟨zK BK348.out⟩, ⟨zK BK349.out⟩, ⟨zK BK356.out⟩, ⟨zG⟩⟩
                      ·rw [if_neg c63] at H
                       have c63b0 : (t360 == 0) = false := beq_eq_false_iff_ne.mpr c63
                       have c63b1 : (t360 != 0) = true := bne_iff_ne.mpr c63
                       simp only [Option.some.injEq, Prod.mk.injEq] at H
                       obtain ⟨rfl, rfl, rfl, rfl⟩ := H
                       have hnb70 := NB356_348.out
                       have hnc70 := NB348_356.out
                       have hnb71 := NB356_349.out
                       have hnc71 := NB349_356.out
                       obtain ⟨hcz72_0, hcz72_1, hcz72_2, hcz72_3, hcz72_4⟩ := zc5 BK356.out
                       obtain ⟨hfz72_0, hfz72_1, hfz72_2, hfz72_3, hfz72_4⟩ := zf5 BK356.out
                       have p359 : 0 ≤ (x6_4 : Int) := zO
                       have q359 : x6_4 < (((rd_T39 l0_0 x3_3).f4).length : Int) := zO
                       obtain ⟨ad359, A359_0, c359_0, e359, hx359_0, hl359_0, hi359_0⟩ := at_L5 HR355_4.out x6_4 p359 q359
                       obtain rfl : ad358 = ad359 := (by injection e359)
                       replace hx359_0 := pw_cell_below HB.out hx359_0
                       have HR359_0 := Aside0.mk hi359_0
                       have HC359_0 := Aside0.mk hl359_0
                       clear hi359_0 hl359_0
                       replace p359 := eq_true p359
                       replace q359 := eq_true q359
                       have hnb73 := NB348_349.out
                       have hnc73 := NB349_348.out
                       have hcz74_0 : wr.cell? ⟨gb348, 0, none⟩ = some (.slice (some ad355) l0_0.length c0_0) := (blk_cell BK348.out 0).trans rfl
                       have hcz74_1 : wr.cell? ⟨gb348, 1, none⟩ = some (.int .i64 a0_1) := (blk_cell BK348.out 1).trans rfl
                       have hcz74_2 : wr.cell? ⟨gb348, 2, none⟩ = some (.slice A0_2 l0_2.length c0_2) := (blk_cell BK348.out 2).trans rfl
                       have hfz74_0 := blk_frozen BK348.out 0
                       have hfz74_1 := blk_frozen BK348.out 1
                       have hfz74_2 := blk_frozen BK348.out 2
                       go_wp2_with (first | ((with_reducible refine gate_callee (f := 27) rfl ?_); refine goesL_ (some 124) rfl rfl Try.func27 (by kernel_rfl) rfl #[.agg #[.slice (some ad355) l0_0.length c0_0, .int .i64 a0_1, .slice A0_2 l0_2.length c0_2], .agg #[.string ((rd_T39 l0_0 x3_3).f0), .int .i64 ((rd_T39 l0_0 x3_3).f1), .int .i64 ((rd_T39 l0_0 x3_3).f2), .slice A355_3 ((rd_T39 l0_0 x3_3).f3).length c355_3, .slice (some ad358) ((rd_T39 l0_0 x3_3).f4).length c355_4], .int .i64 x6_4, .int .i64 x7_5] rfl zE ?_; (with_reducible refine (balustraderef16_one.calls k5 _ _ l0_0 a0_1 _ _ l0_2 ((rd_T39 l0_0 x3_3).f0) ((rd_T39 l0_0 x3_3).f1) ((rd_T39 l0_0 x3_3).f2) _ _ ((rd_T39 l0_0 x3_3).f3) _ _ ((rd_T39 l0_0 x3_3).f4) x6_4 x7_5 t360 _ ?side1 ?side2 ?side3 ?side4 ?side5 ?side6 ?side7 ?side8 A62.out).mono ?_); (case side1 => exact zC (Kd.C_below HR0_0.out HB.out)); (case side2 => exact HC0_0.out); (case side3 => exact zC (Kd.C_below HR0_2.out HB.out)); (case side4 => exact HC0_2.out); (case side5 => exact zC (Kd.C_below HR355_3.out HB.out)); (case side6 => exact HC355_3.out); (case side7 => exact zC (Kd.C_below HR355_4.out HB.out)); (case side8 => exact HC355_4.out); rintro e w75 ⟨rfl, hb⟩; refine ⟨_, rfl, ?_⟩; have n0_ := Aside0.mk (blk_below (g := gb348) (o := .cells #[.slice (some ad355) l0_0.length c0_0, .int .i64 a0_1, .slice A0_2 l0_2.length c0_2] 25 (0, 0)) (zK BK348.out) hb); have n1_ := Aside0.mk (blk_below (g := gb349) (o := .cells #[.int .i64 x350000_5, .int .i64 x350001_5, .int .i64 x350002_5, .int .i64 x350003_5] 32 (0, 0)) (zK BK349.out) hb); have n2_ := Aside0.mk (blk_below (g := gb356) (o := .cells #[.string ((rd_T39 l0_0 x3_3).f0), .int .i64 ((rd_T39 l0_0 x3_3).f1), .int .i64 ((rd_T39 l0_0 x3_3).f2), .slice A355_3 ((rd_T39 l0_0 x3_3).f3).length c355_3, .slice (some ad358) ((rd_T39 l0_0 x3_3).f4).length c355_4] 39 (0, 0)) (zK BK356.out) hb); have n3_ := Aside0.mk (below_step (zG) hb); clear BK348; clear BK349; clear BK356; clear HB; have BK348 := n0_; have BK349 := n1_; have BK356 := n2_; have HB := n3_; clear n0_ n1_ n2_ n3_; (try clear hb); (try clear hb2); (try clear hk); (try clear hi); obtain ⟨hcz76_0, hcz76_1, hcz76_2, hcz76_3⟩ := zc4 BK349.out; obtain ⟨hfz76_0, hfz76_1, hfz76_2, hfz76_3⟩ := zf4 BK349.out))
                       refine bodyPost_ret (results_cell_row rfl _ _ gb349 32 #[.int .i64 x3_3, .int .i64 x6_4, .int .i64 x7_5, .int .i64 t360] (0, 0) _ rfl (by (with_reducible repeat (first | refine blk_drewN ?_ _ | refine blk_drew ?_ | refine blk_alloc ?_ _)); refine blk_put (cs := #[.int .i64 x3_3, .int .i64 x6_4, .int .i64 x7_5, .int .i64 x350003_5]) ?_ 3 _ rfl; (with_reducible repeat (first | refine blk_drewN ?_ _ | refine blk_drew ?_ | refine blk_alloc ?_ _)); refine blk_put (cs := #[.int .i64 x3_3, .int .i64 x6_4, .int .i64 x350002_5, .int .i64 x350003_5]) ?_ 2 _ rfl; (with_reducible repeat (first | refine blk_drewN ?_ _ | refine blk_drew ?_ | refine blk_alloc ?_ _)); refine blk_put (cs := #[.int .i64 x3_3, .int .i64 x350001_5, .int .i64 x350002_5, .int .i64 x350003_5]) ?_ 1 _ rfl; (with_reducible repeat (first | refine blk_drewN ?_ _ | refine blk_drew ?_ | refine blk_alloc ?_ _)); refine blk_put (cs := #[.int .i64 x350000_5, .int .i64 x350001_5, .int .i64 x350002_5, .int .i64 x350003_5]) ?_ 0 _ rfl; (with_reducible repeat (first | refine blk_drewN ?_ _ | refine blk_drew ?_ | refine blk_alloc ?_ _)); exact BK349.out) Try.underlying32 rfl (by kernel_rfl)) rfl ?_
                       exact ⟨zV, zG⟩
                     ·rw [if_neg c61] at H
                      have c61b0 : decide (x7_5 < ((rd_L5 ((rd_T39 l0_0 x3_3).f4) x6_4).length : Int)) = false := decide_eq_false c61
                      clear c61
                      have H' := Aside0.mk H
                      clear H
                      have hnb77 := NB356_348.out
                      have hnc77 := NB348_356.out
                      have hnb78 := NB356_349.out
                      have hnc78 := NB349_356.out
                      obtain ⟨hcz79_0, hcz79_1, hcz79_2, hcz79_3, hcz79_4⟩ := zc5 BK356.out
                      obtain ⟨hfz79_0, hfz79_1, hfz79_2, hfz79_3, hfz79_4⟩ := zf5 BK356.out
                      have p359 : 0 ≤ (x6_4 : Int) := zO
                      have q359 : x6_4 < (((rd_T39 l0_0 x3_3).f4).length : Int) := zO
                      obtain ⟨ad359, A359_0, c359_0, e359, hx359_0, hl359_0, hi359_0⟩ := at_L5 HR355_4.out x6_4 p359 q359
                      obtain rfl : ad358 = ad359 := (by injection e359)
                      replace hx359_0 := pw_cell_below HB.out hx359_0
                      have HR359_0 := Aside0.mk hi359_0
                      have HC359_0 := Aside0.mk hl359_0
                      clear hi359_0 hl359_0
                      replace p359 := eq_true p359
                      replace q359 := eq_true q359
                      go_wp2
                      go_roundg k5
                      case measure => have := HJ1.out; have := HJ12.out; have := HK3.out; have := HK4.out; have := HK5.out; omega
                      case rel => exact ⟨(wrap64 (x6_4 + 1)), (x350000_5), (x350001_5), (x350002_5), (x350003_5), zQ, H', ⟨by have := HJ1.out; have := HJ12.out; have := HK3.out; have := HK4.out; have := HK5.out; omega⟩, ⟨zK BK348.out⟩, ⟨zK BK349.out⟩, ⟨zK BK356.out⟩, ⟨zG⟩⟩
                    ·rw [if_neg c60] at H
                     exact absurd H (by simp)
                   ·rw [if_neg c59] at H
                    exact absurd H (by simp)
               ·rw [if_neg c49] at H
                exact absurd H (by simp)
              ·rw [if_neg c48] at H
               have c48b0 : decide (x6_4 < (((rd_T39 l0_0 x3_3).f4).length : Int)) = false := decide_eq_false c48
               clear c48
               have H' := Aside0.mk H
               clear H
               have hnb80 := NB356_348.out
               have hnc80 := NB348_356.out
               have hnb81 := NB356_349.out
               have hnc81 := NB349_356.out
               obtain ⟨hcz82_0, hcz82_1, hcz82_2, hcz82_3, hcz82_4⟩ := zc5 BK356.out
               obtain ⟨hfz82_0, hfz82_1, hfz82_2, hfz82_3, hfz82_4⟩ := zf5 BK356.out
               go_wp2
               go_roundg k4
               case measure => have := HJ1.out; have := HJ12.out; have := HK3.out; have := HK4.out; omega
               case rel => exact ⟨(wrap64 (x3_3 + 1)), (x350000_4), (x350001_4), (x350002_4), (x350003_4), zQ, H', ⟨by have := HJ1.out; have := HJ12.out; have := HK3.out; have := HK4.out; omega⟩, ⟨zK BK348.out⟩, ⟨zK BK349.out⟩, ⟨zG⟩⟩
           ·rw [if_neg c40] at H
            have c40b0 : (t357 == 0) = false := beq_eq_false_iff_ne.mpr c40
            have c40b1 : (t357 != 0) = true := bne_iff_ne.mpr c40
            simp only [Option.some.injEq, Prod.mk.injEq] at H
            obtain ⟨rfl, rfl, rfl, rfl⟩ := H
            have hnb83 := NB348_349.out
            have hnc83 := NB349_348.out
            have hcz84_0 : wr.cell? ⟨gb348, 0, none⟩ = some (.slice A0_0 l0_0.length c0_0) := (blk_cell BK348.out 0).trans rfl
            have hcz84_1 : wr.cell? ⟨gb348, 1, none⟩ = some (.int .i64 a0_1) := (blk_cell BK348.out 1).trans rfl
            have hcz84_2 : wr.cell? ⟨gb348, 2, none⟩ = some (.slice A0_2 l0_2.length c0_2) := (blk_cell BK348.out 2).trans rfl
            have hfz84_0 := blk_frozen BK348.out 0
            have hfz84_1 := blk_frozen BK348.out 1
            have hfz84_2 := blk_frozen BK348.out 2
            have p355 : 0 ≤ (x3_3 : Int) := zO
            have q355 : x3_3 < (l0_0.length : Int) := zO
            obtain ⟨ad355, A355_3, c355_3, A355_4, c355_4, e355, hx355_0, hx355_1, hx355_2, hx355_3, hx355_4, hl355_3, hi355_3, hl355_4, hi355_4⟩ := at_T39 HR0_0.out x3_3 p355 q355
            cases e355
            replace hx355_0 := pw_cell_below HB.out hx355_0
            replace hx355_1 := pw_cell_below HB.out hx355_1
            replace hx355_2 := pw_cell_below HB.out hx355_2
            replace hx355_3 := pw_cell_below HB.out hx355_3
            replace hx355_4 := pw_cell_below HB.out hx355_4
            have HR355_3 := Aside0.mk hi355_3
            have HC355_3 := Aside0.mk hl355_3
            clear hi355_3 hl355_3
            have HR355_4 := Aside0.mk hi355_4
            have HC355_4 := Aside0.mk hl355_4
            clear hi355_4 hl355_4
            replace p355 := eq_true p355
            replace q355 := eq_true q355
            go_wp2_with (first | ((with_reducible refine gate_dst (N := 4) rfl ?_); (try (refine gate_guard (by rfl) ?_; dsimp only)); refine box_event ?hg (N := 4) ?hd (cs := #[.string (⟨#[]⟩ : ByteArray), .int .i64 0, .int .i64 0, .slice none 0 0, .slice none 0 0]) (t := 39) ?hr ?_; (case hd => rfl); (case hg => rfl); (case hr => first | (go_simp; done) | (go_simp; rfl)); intro gb356 hg w85 hbox hb; have n0_ := Aside0.mk (blk_below (g := gb348) (o := .cells #[.slice (some ad355) l0_0.length c0_0, .int .i64 a0_1, .slice A0_2 l0_2.length c0_2] 25 (0, 0)) (zK BK348.out) hb); have n1_ := Aside0.mk (blk_below (g := gb349) (o := .cells #[.int .i64 x350000_3, .int .i64 x350001_3, .int .i64 x350002_3, .int .i64 x350003_3] 32 (0, 0)) (zK BK349.out) hb); have n2_ := Aside0.mk (below_step (zG) hb); have n3_ := Aside0.mk (hbox); have n4_ := Aside0.mk ((by rw [hg]; exact (below_size (zG)) : w.heap.size ≤ gb356)); have n5_ := Aside0.mk ((by rw [hg]; exact (below_size (zG)) : w.heap.size ≤ gb356)); have n6_ := Aside0.mk ((by rw [hg]; exact Nat.ne_of_lt (blk_lt (g := gb348) (o := .cells #[.slice (some ad355) l0_0.length c0_0, .int .i64 a0_1, .slice A0_2 l0_2.length c0_2] 25 (0, 0)) (zK BK348.out)) : gb348 ≠ gb356)); have n7_ := Aside0.mk ((by rw [hg]; exact Nat.ne_of_gt (blk_lt (g := gb348) (o := .cells #[.slice (some ad355) l0_0.length c0_0, .int .i64 a0_1, .slice A0_2 l0_2.length c0_2] 25 (0, 0)) (zK BK348.out)) : gb356 ≠ gb348)); have n8_ := Aside0.mk ((by rw [hg]; exact Nat.ne_of_lt (blk_lt (g := gb349) (o := .cells #[.int .i64 x350000_3, .int .i64 x350001_3, .int .i64 x350002_3, .int .i64 x350003_3] 32 (0, 0)) (zK BK349.out)) : gb349 ≠ gb356)); have n9_ := Aside0.mk ((by rw [hg]; exact Nat.ne_of_gt (blk_lt (g := gb349) (o := .cells #[.int .i64 x350000_3, .int .i64 x350001_3, .int .i64 x350002_3, .int .i64 x350003_3] 32 (0, 0)) (zK BK349.out)) : gb356 ≠ gb349)); clear BK348; clear BK349; clear HB; have BK348 := n0_; have BK349 := n1_; have HB := n2_; have BK356 := n3_; have GW356 := n4_; have GE356 := n5_; have NB348_356 := n6_; have NB356_348 := n7_; have NB349_356 := n8_; have NB356_349 := n9_; clear n0_ n1_ n2_ n3_ n4_ n5_ n6_ n7_ n8_ n9_; clear hb hbox hg; have hnb86 := NB356_348.out; have hnc86 := NB348_356.out; have hnb87 := NB356_349.out; have hnc87 := NB349_356.out; obtain ⟨hcz88_0, hcz88_1, hcz88_2, hcz88_3, hcz88_4⟩ := zc5 BK356.out; obtain ⟨hfz88_0, hfz88_1, hfz88_2, hfz88_3, hfz88_4⟩ := zf5 BK356.out) | ((with_reducible refine gate_callee (f := 26) rfl ?_); refine goesL_ (some 87) rfl rfl Try.func26 (by kernel_rfl) rfl #[.agg #[.string ((rd_T39 l0_0 x3_3).f0), .int .i64 ((rd_T39 l0_0 x3_3).f1), .int .i64 ((rd_T39 l0_0 x3_3).f2), .slice A355_3 ((rd_T39 l0_0 x3_3).f3).length c355_3, .slice A355_4 ((rd_T39 l0_0 x3_3).f4).length c355_4]] rfl zE ?_; (with_reducible refine (balustraderef16_head.calls k3 ((rd_T39 l0_0 x3_3).f0) ((rd_T39 l0_0 x3_3).f1) ((rd_T39 l0_0 x3_3).f2) _ _ ((rd_T39 l0_0 x3_3).f3) _ _ ((rd_T39 l0_0 x3_3).f4) t357 _ ?side1 ?side2 ?side3 ?side4 A39.out).mono ?_); (case side1 => exact Kd.C_below HR355_3.out (zG)); (case side2 => exact HC355_3.out); (case side3 => exact Kd.C_below HR355_4.out (zG)); (case side4 => exact HC355_4.out); rintro e w89 ⟨rfl, hb⟩; refine ⟨_, rfl, ?_⟩; have n0_ := Aside0.mk (blk_below (g := gb348) (o := .cells #[.slice (some ad355) l0_0.length c0_0, .int .i64 a0_1, .slice A0_2 l0_2.length c0_2] 25 (0, 0)) (by (with_reducible repeat (first | refine blk_drewN ?_ _ | refine blk_drew ?_ | refine blk_alloc ?_ _)); refine blk_far ?_ NB348_356.out _; (with_reducible repeat (first | refine blk_drewN ?_ _ | refine blk_drew ?_ | refine blk_alloc ?_ _)); refine blk_far ?_ NB348_356.out _; (with_reducible repeat (first | refine blk_drewN ?_ _ | refine blk_drew ?_ | refine blk_alloc ?_ _)); refine blk_far ?_ NB348_356.out _; (with_reducible repeat (first | refine blk_drewN ?_ _ | refine blk_drew ?_ | refine blk_alloc ?_ _)); refine blk_far ?_ NB348_356.out _; (with_reducible repeat (first | refine blk_drewN ?_ _ | refine blk_drew ?_ | refine blk_alloc ?_ _)); refine blk_far ?_ NB348_356.out _; (with_reducible repeat (first | refine blk_drewN ?_ _ | refine blk_drew ?_ | refine blk_alloc ?_ _)); exact BK348.out) hb); have n1_ := Aside0.mk (blk_below (g := gb349) (o := .cells #[.int .i64 x350000_3, .int .i64 x350001_3, .int .i64 x350002_3, .int .i64 x350003_3] 32 (0, 0)) (by (with_reducible repeat (first | refine blk_drewN ?_ _ | refine blk_drew ?_ | refine blk_alloc ?_ _)); refine blk_far ?_ NB349_356.out _; (with_reducible repeat (first | refine blk_drewN ?_ _ | refine blk_drew ?_ | refine blk_alloc ?_ _)); refine blk_far ?_ NB349_356.out _; (with_reducible repeat (first | refine blk_drewN ?_ _ | refine blk_drew ?_ | refine blk_alloc ?_ _)); refine blk_far ?_ NB349_356.out _; (with_reducible repeat (first | refine blk_drewN ?_ _ | refine blk_drew ?_ | refine blk_alloc ?_ _)); refine blk_far ?_ NB349_356.out _; (with_reducible repeat (first | refine blk_drewN ?_ _ | refine blk_drew ?_ | refine blk_alloc ?_ _)); refine blk_far ?_ NB349_356.out _; (with_reducible repeat (first | refine blk_drewN ?_ _ | refine blk_drew ?_ | refine blk_alloc ?_ _)); exact BK349.out) hb); have n2_ := Aside0.mk (blk_below (g := gb356) (o := .cells #[.string ((rd_T39 l0_0 x3_3).f0), .int .i64 ((rd_T39 l0_0 x3_3).f1), .int .i64 ((rd_T39 l0_0 x3_3).f2), .slice A355_3 ((rd_T39 l0_0 x3_3).f3).length c355_3, .slice A355_4 ((rd_T39 l0_0 x3_3).f4).length c355_4] 39 (0, 0)) (by (with_reducible repeat (first | refine blk_drewN ?_ _ | refine blk_drew ?_ | refine blk_alloc ?_ _)); refine blk_put (cs := #[.string ((rd_T39 l0_0 x3_3).f0), .int .i64 ((rd_T39 l0_0 x3_3).f1), .int .i64 ((rd_T39 l0_0 x3_3).f2), .slice A355_3 ((rd_T39 l0_0 x3_3).f3).length c355_3, .slice none 0 0]) ?_ 4 _ rfl; (with_reducible repeat (first | refine blk_drewN ?_ _ | refine blk_drew ?_ | refine blk_alloc ?_ _)); refine blk_put (cs := #[.string ((rd_T39 l0_0 x3_3).f0), .int .i64 ((rd_T39 l0_0 x3_3).f1), .int .i64 ((rd_T39 l0_0 x3_3).f2), .slice none 0 0, .slice none 0 0]) ?_ 3 _ rfl; (with_reducible repeat (first | refine blk_drewN ?_ _ | refine blk_drew ?_ | refine blk_alloc ?_ _)); refine blk_put (cs := #[.string ((rd_T39 l0_0 x3_3).f0), .int .i64 ((rd_T39 l0_0 x3_3).f1), .int .i64 0, .slice none 0 0, .slice none 0 0]) ?_ 2 _ rfl; (with_reducible repeat (first | refine blk_drewN ?_ _ | refine blk_drew ?_ | refine blk_alloc ?_ _)); refine blk_put (cs := #[.string ((rd_T39 l0_0 x3_3).f0), .int .i64 0, .int .i64 0, .slice none 0 0, .slice none 0 0]) ?_ 1 _ rfl; (with_reducible repeat (first | refine blk_drewN ?_ _ | refine blk_drew ?_ | refine blk_alloc ?_ _)); refine blk_put (cs := #[.string (⟨#[]⟩ : ByteArray), .int .i64 0, .int .i64 0, .slice none 0 0, .slice none 0 0]) ?_ 0 _ rfl; (with_reducible repeat (first | refine blk_drewN ?_ _ | refine blk_drew ?_ | refine blk_alloc ?_ _)); exact BK356.out) hb); have n3_ := Aside0.mk (below_step (zG) hb); clear BK348; clear BK349; clear BK356; clear HB; have BK348 := n0_; have BK349 := n1_; have BK356 := n2_; have HB := n3_; clear n0_ n1_ n2_ n3_; (try clear hb); (try clear hb2); (try clear hk); (try clear hi); obtain ⟨hcz90_0, hcz90_1, hcz90_2, hcz90_3⟩ := zc4 BK349.out; obtain ⟨hfz90_0, hfz90_1, hfz90_2, hfz90_3⟩ := zf4 BK349.out))
            refine bodyPost_ret (results_cell_row rfl _ _ gb349 32 #[.int .i64 x3_3, .int .i64 (-1), .int .i64 (-1), .int .i64 t357] (0, 0) _ rfl (by (with_reducible repeat (first | refine blk_drewN ?_ _ | refine blk_drew ?_ | refine blk_alloc ?_ _)); refine blk_put (cs := #[.int .i64 x3_3, .int .i64 (-1), .int .i64 (-1), .int .i64 x350003_3]) ?_ 3 _ rfl; (with_reducible repeat (first | refine blk_drewN ?_ _ | refine blk_drew ?_ | refine blk_alloc ?_ _)); refine blk_put (cs := #[.int .i64 x3_3, .int .i64 (-1), .int .i64 x350002_3, .int .i64 x350003_3]) ?_ 2 _ rfl; (with_reducible repeat (first | refine blk_drewN ?_ _ | refine blk_drew ?_ | refine blk_alloc ?_ _)); refine blk_put (cs := #[.int .i64 x3_3, .int .i64 x350001_3, .int .i64 x350002_3, .int .i64 x350003_3]) ?_ 1 _ rfl; (with_reducible repeat (first | refine blk_drewN ?_ _ | refine blk_drew ?_ | refine blk_alloc ?_ _)); refine blk_put (cs := #[.int .i64 x350000_3, .int .i64 x350001_3, .int .i64 x350002_3, .int .i64 x350003_3]) ?_ 0 _ rfl; (with_reducible repeat (first | refine blk_drewN ?_ _ | refine blk_drew ?_ | refine blk_alloc ?_ _)); exact BK349.out) Try.underlying32 rfl (by kernel_rfl)) rfl ?_
            exact ⟨zV, zG⟩
          ·rw [if_neg c38] at H
           exact absurd H (by simp)
         ·rw [if_neg c37] at H
          have c37b0 : decide (x3_3 < (l0_0.length : Int)) = false := decide_eq_false c37
          clear c37
          simp only [Option.some.injEq, Prod.mk.injEq] at H
          obtain ⟨rfl, rfl, rfl, rfl⟩ := H
          have hnb91 := NB348_349.out
          have hnc91 := NB349_348.out
          have hcz92_0 : wr.cell? ⟨gb348, 0, none⟩ = some (.slice A0_0 l0_0.length c0_0) := (blk_cell BK348.out 0).trans rfl
          have hcz92_1 : wr.cell? ⟨gb348, 1, none⟩ = some (.int .i64 a0_1) := (blk_cell BK348.out 1).trans rfl
          have hcz92_2 : wr.cell? ⟨gb348, 2, none⟩ = some (.slice A0_2 l0_2.length c0_2) := (blk_cell BK348.out 2).trans rfl
          have hfz92_0 := blk_frozen BK348.out 0
          have hfz92_1 := blk_frozen BK348.out 1
          have hfz92_2 := blk_frozen BK348.out 2
          have hcz93_0 : wr.cell? ⟨gb349, 0, none⟩ = some (.int .i64 x350000_3) := (blk_cell BK349.out 0).trans rfl
          have hcz93_1 : wr.cell? ⟨gb349, 1, none⟩ = some (.int .i64 x350001_3) := (blk_cell BK349.out 1).trans rfl
          have hcz93_2 : wr.cell? ⟨gb349, 2, none⟩ = some (.int .i64 x350002_3) := (blk_cell BK349.out 2).trans rfl
          have hcz93_3 : wr.cell? ⟨gb349, 3, none⟩ = some (.int .i64 x350003_3) := (blk_cell BK349.out 3).trans rfl
          have hfz93_0 := blk_frozen BK349.out 0
          have hfz93_1 := blk_frozen BK349.out 1
          have hfz93_2 := blk_frozen BK349.out 2
          have hfz93_3 := blk_frozen BK349.out 3
          go_wp2
          refine bodyPost_ret (results_cell_row rfl _ _ gb349 32 #[.int .i64 0, .int .i64 0, .int .i64 0, .int .i64 0] (0, 0) _ rfl (by (with_reducible repeat (first | refine blk_drewN ?_ _ | refine blk_drew ?_ | refine blk_alloc ?_ _)); refine blk_put (cs := #[.int .i64 0, .int .i64 0, .int .i64 0, .int .i64 x350003_3]) ?_ 3 _ rfl; (with_reducible repeat (first | refine blk_drewN ?_ _ | refine blk_drew ?_ | refine blk_alloc ?_ _)); refine blk_put (cs := #[.int .i64 0, .int .i64 0, .int .i64 x350002_3, .int .i64 x350003_3]) ?_ 2 _ rfl; (with_reducible repeat (first | refine blk_drewN ?_ _ | refine blk_drew ?_ | refine blk_alloc ?_ _)); refine blk_put (cs := #[.int .i64 0, .int .i64 x350001_3, .int .i64 x350002_3, .int .i64 x350003_3]) ?_ 1 _ rfl; (with_reducible repeat (first | refine blk_drewN ?_ _ | refine blk_drew ?_ | refine blk_alloc ?_ _)); refine blk_put (cs := #[.int .i64 x350000_3, .int .i64 x350001_3, .int .i64 x350002_3, .int .i64 x350003_3]) ?_ 0 _ rfl; (with_reducible repeat (first | refine blk_drewN ?_ _ | refine blk_drew ?_ | refine blk_alloc ?_ _)); exact BK349.out) Try.underlying32 rfl (by kernel_rfl)) rfl ?_
          exact ⟨zV, zG⟩
end Go.Proofs.Ytgbpkbfghonllaa.P

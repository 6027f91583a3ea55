/- A part of it. -/
import Derived.Test.YtgbpkbfghonllaaFcZ
import Derived.Test.YtgbpkbfghonllaaFcP0
import Derived.Test.YtgbpkbfghonllaaFcM39
namespace Go.Proofs.Ytgbpkbfghonllaa.P
open Go.RowKit Go.Proofs.YtgbpkbfghonllaaW.PrintWords Go.Proofs.YtgbpkbfghonllaaW.PrintLast Go.Proofs.YtgbpkbfghonllaaW.PrintMore
attribute [local go_sem] max2_int min2_int max_two min_two max_three min_three max_four min_four   
set_option linter.unusedVariables false
set_option linter.unusedSimpArgs false
mutual
def balustraderef16_Few.l0 : Nat → Int → Int → List (S39) → Int → List (S48) → Option (Bool)
 | 0, _, _, _, _, _ => none
 | k + 1, x1, x5, x258000, x258001, x258002 => if x5 < (x258000.length : Int) then (if 0 ≤ x5 then (if (((rd_T39 x258000 x5).f3).length : Int) > 100 then (balustraderef16_Few.j1 k x1 x5 true x258000 x258001 x258002 ((rd_T39 x258000 x5).f0) ((rd_T39 x258000 x5).f1) ((rd_T39 x258000 x5).f2) ((rd_T39 x258000 x5).f3) ((rd_T39 x258000 x5).f4)) else (if (((rd_T39 x258000 x5).f4).length : Int) > x1 then (balustraderef16_Few.j1 k x1 x5 true x258000 x258001 x258002 ((rd_T39 x258000 x5).f0) ((rd_T39 x258000 x5).f1) ((rd_T39 x258000 x5).f2) ((rd_T39 x258000 x5).f3) ((rd_T39 x258000 x5).f4)) else (balustraderef16_Few.j1 k x1 x5 (decide ((((rd_T39 x258000 x5).f0).size : Int) > 100)) x258000 x258001 x258002 ((rd_T39 x258000 x5).f0) ((rd_T39 x258000 x5).f1) ((rd_T39 x258000 x5).f2) ((rd_T39 x258000 x5).f3) ((rd_T39 x258000 x5).f4)))) else (none)) else (if (x258000.length : Int) ≤ 10 then (if (x258002.length : Int) ≤ 200 then ((balustraderef16_Count.f k x258000 x258001 x258002).bind fun t258 => (some (decide (t258 ≤ x1)))) else (some false)) else (some false))
def balustraderef16_Few.j1 : Nat → Int → Int → Bool → List (S39) → Int → List (S48) → ByteArray → Int → Int → List Int → List (List (S42)) → Option (Bool)
 | 0, _, _, _, _, _, _, _, _, _, _, _ => none
 | k + 1, x1, x5, x37, x258000, x258001, x258002, x261000, x261001, x261002, x261003, x261004 => if x37 = true then (some false) else (balustraderef16_Few.l1 k x1 x5 0 x258000 x258001 x258002 x261000 x261001 x261002 x261003 x261004)
def balustraderef16_Few.l1 : Nat → Int → Int → Int → List (S39) → Int → List (S48) → ByteArray → Int → Int → List Int → List (List (S42)) → Option (Bool)
 | 0, _, _, _, _, _, _, _, _, _, _, _ => none
 | k + 1, x1, x5, x7, x258000, x258001, x258002, x261000, x261001, x261002, x261003, x261004 => if x7 < (x261004.length : Int) then (balustraderef16_Few.l2 k x1 x5 x7 0 x258000 x258001 x258002 x261000 x261001 x261002 x261003 x261004) else (balustraderef16_Few.l0 k x1 (wrap64 (x5 + 1)) x258000 x258001 x258002)
def balustraderef16_Few.l2 : Nat → Int → Int → Int → Int → List (S39) → Int → List (S48) → ByteArray → Int → Int → List Int → List (List (S42)) → Option (Bool)
 | 0, _, _, _, _, _, _, _, _, _, _, _, _ => none
 | k + 1, x1, x5, x7, x8, x258000, x258001, x258002, x261000, x261001, x261002, x261003, x261004 => if 0 ≤ x7 then (if x7 < (x261004.length : Int) then (if x8 < ((rd_L5 x261004 x7).length : Int) then (if 0 ≤ x8 then (if (((rd_T42 (rd_L5 x261004 x7) x8).f8).length : Int) > 40 then (some false) else (balustraderef16_Few.l2 k x1 x5 x7 (wrap64 (x8 + 1)) x258000 x258001 x258002 x261000 x261001 x261002 x261003 x261004)) else (none)) else (balustraderef16_Few.l1 k x1 x5 (wrap64 (x7 + 1)) x258000 x258001 x258002 x261000 x261001 x261002 x261003 x261004)) else (none)) else (none)
end
def balustraderef16_Few.f (k : Nat) (l0_0 : List (S39)) (a0_1 : Int) (l0_2 : List (S48)) (a1 : Int) : Option (Bool) := balustraderef16_Few.l0 k a1 0 l0_0 a0_1 l0_2
set_option maxHeartbeats 8000000 in
set_option maxRecDepth 100000 in
theorem balustraderef16_Few.calls (k : Nat) (A0_0 : Option Addr) (c0_0 : Nat) (l0_0 : List (S39)) (a0_1 : Int) (A0_2 : Option Addr) (c0_2 : Nat) (l0_2 : List (S48)) (a1 : Int) (r : Bool) (w : World) (hr0_0 : Kd.C k39 w A0_0 l0_0.length l0_0) (hc0_0 : l0_0.length ≤ c0_0) (hr0_2 : Kd.C k48 w A0_2 l0_2.length l0_2) (hc0_2 : l0_2.length ≤ c0_2) (h : balustraderef16_Few.f k l0_0 a0_1 l0_2 a1 = some r) :
  Calls Try.prog 7 #[.agg #[.slice A0_0 l0_0.length c0_0, .int .i64 a0_1, .slice A0_2 l0_2.length c0_2], .int .i64 a1] w fun e w' => e = .returned (.bool r) ∧ Below w.heap.size w w' := by
 have hu25 := Try.underlying25
 have hu39 := Try.underlying39
 have HR0_0 := Aside0.mk hr0_0
 have HC0_0 := Aside0.mk hc0_0
 clear hr0_0 hc0_0
 have HR0_2 := Aside0.mk hr0_2
 have HC0_2 := Aside0.mk hc0_2
 clear hr0_2 hc0_2
 have HB := Aside0.mk (Below.refl w.heap.size w)
 have H : (balustraderef16_Few.l0 k a1 0 l0_0 a0_1 l0_2) = some r := h
 clear h
 have H' := Aside0.mk H
 clear H
 go_enter Try.func7, Try.ntmps7
 go_wp2_with (first | ((with_reducible refine gate_dst (N := 2) rfl ?_); (try (refine gate_guard (by rfl) ?_; dsimp only)); refine box_event ?hg (N := 2) ?hd (cs := #[.slice A0_0 l0_0.length c0_0, .int .i64 a0_1, .slice A0_2 l0_2.length c0_2]) (t := 25) ?hr ?_; (case hd => rfl); (case hg => rfl); (case hr => first | (go_simp; done) | (go_simp; rfl)); intro gb257 hg w3 hbox hb; have n0_ := Aside0.mk (below_step (zB) hb); have n1_ := Aside0.mk (hbox); have n2_ := Aside0.mk (zH hg : w.heap.size ≤ gb257); have n3_ := Aside0.mk (zH hg : w.heap.size ≤ gb257); clear HB; have HB := n0_; have BK257 := n1_; have GW257 := n2_; have GE257 := n3_; clear n0_ n1_ n2_ n3_; clear hb hbox hg))
 go_loopg [5] k (fun kq v5 w' => ∃ (x5_1 : Int), v5 = .int .i64 x5_1 ∧ Aside0 (balustraderef16_Few.l0 kq a1 x5_1 l0_0 a0_1 l0_2 = some r) ∧ Aside0 (kq ≤ k) ∧ Aside0 (w'.heap[gb257]? = some (.cells #[(.slice A0_0 l0_0.length c0_0), .int .i64 a0_1, (.slice A0_2 l0_2.length c0_2)] 25 (0, 0))) ∧ Aside0 (Below w.heap.size w w'))
 case atStart => exact ⟨(0), zQ, H', ⟨Nat.le_refl _⟩, ⟨zK BK257.out⟩, ⟨zG⟩⟩
 case round =>
  clear H'
  try clear p2
  obtain ⟨x5_1, rfl, HA, HK1, BK257, HB⟩ := hrel
  cases gk with
  | zero => exact absurd HA.out (by simp [balustraderef16_Few.l0])
  | succ k1 =>
   have H := HA.out
   clear HA
   simp only [balustraderef16_Few.l0] at H
   by_cases c4 : x5_1 < (l0_0.length : Int)
   ·rw [if_pos c4] at H
    have c4b0 : decide (x5_1 < (l0_0.length : Int)) = true := decide_eq_true c4
    clear c4
    by_cases c5 : 0 ≤ x5_1
    ·rw [if_pos c5] at H
     have c5b0 : decide (0 ≤ x5_1) = true := decide_eq_true c5
     clear c5
     have HC6 := Aside0.mk H
     clear H
     have hcz7_0 : wr.cell? ⟨gb257, 0, none⟩ = some (.slice A0_0 l0_0.length c0_0) := (blk_cell BK257.out 0).trans rfl
     have hcz7_1 : wr.cell? ⟨gb257, 1, none⟩ = some (.int .i64 a0_1) := (blk_cell BK257.out 1).trans rfl
     have hcz7_2 : wr.cell? ⟨gb257, 2, none⟩ = some (.slice A0_2 l0_2.length c0_2) := (blk_cell BK257.out 2).trans rfl
     have hfz7_0 := blk_frozen BK257.out 0
     have hfz7_1 := blk_frozen BK257.out 1
     have hfz7_2 := blk_frozen BK257.out 2
     have p259 : 0 ≤ (x5_1 : Int) := zO
     have q259 : x5_1 < (l0_0.length : Int) := zO
     obtain ⟨ad259, A259_3, c259_3, A259_4, c259_4, e259, hx259_0, hx259_1, hx259_2, hx259_3, hx259_4, hl259_3, hi259_3, hl259_4, hi259_4⟩ := at_T39 HR0_0.out x5_1 p259 q259
     cases e259
     replace hx259_0 := pw_cell_below HB.out hx259_0
     replace hx259_1 := pw_cell_below HB.out hx259_1
     replace hx259_2 := pw_cell_below HB.out hx259_2
     replace hx259_3 := pw_cell_below HB.out hx259_3
     replace hx259_4 := pw_cell_below HB.out hx259_4
     have HR259_3 := Aside0.mk hi259_3
     have HC259_3 := Aside0.mk hl259_3
     clear hi259_3 hl259_3
     have HR259_4 := Aside0.mk hi259_4
     have HC259_4 := Aside0.mk hl259_4
     clear hi259_4 hl259_4
     replace p259 := eq_true p259
     replace q259 := eq_true q259
     go_upto_region 5 with (first | ((with_reducible refine gate_dst (N := 6) rfl ?_); (try (refine gate_guard (by rfl) ?_; dsimp only)); refine box_event ?hg (N := 6) ?hd (cs := #[.string (⟨#[]⟩ : ByteArray), .int .i64 0, .int .i64 0, .slice none 0 0, .slice none 0 0]) (t := 39) ?hr ?_; (case hd => rfl); (case hg => rfl); (case hr => first | (go_simp; done) | (go_simp; rfl)); intro gb260 hg w8 hbox hb; have n0_ := Aside0.mk (blk_below (g := gb257) (o := .cells #[.slice (some ad259) l0_0.length c0_0, .int .i64 a0_1, .slice A0_2 l0_2.length c0_2] 25 (0, 0)) (zK BK257.out) hb); have n1_ := Aside0.mk (below_step (zG) hb); have n2_ := Aside0.mk (hbox); have n3_ := Aside0.mk ((by rw [hg]; exact (below_size (zG)) : w.heap.size ≤ gb260)); have n4_ := Aside0.mk ((by rw [hg]; exact (below_size (zG)) : w.heap.size ≤ gb260)); have n5_ := Aside0.mk ((by rw [hg]; exact Nat.ne_of_lt (blk_lt (g := gb257) (o := .cells #[.slice (some ad259) l0_0.length c0_0, .int .i64 a0_1, .slice A0_2 l0_2.length c0_2] 25 (0, 0)) (zK BK257.out)) : gb257 ≠ gb260)); have n6_ := Aside0.mk ((by rw [hg]; exact Nat.ne_of_gt (blk_lt (g := gb257) (o := .cells #[.slice (some ad259) l0_0.length c0_0, .int .i64 a0_1, .slice A0_2 l0_2.length c0_2] 25 (0, 0)) (zK BK257.out)) : gb260 ≠ gb257)); clear BK257; clear HB; have BK257 := n0_; have HB := n1_; have BK260 := n2_; have GW260 := n3_; have GE260 := n4_; have NB257_260 := n5_; have NB260_257 := n6_; clear n0_ n1_ n2_ n3_ n4_ n5_ n6_; clear hb hbox hg; have hnb9 := NB260_257.out; have hnc9 := NB257_260.out; obtain ⟨hcz10_0, hcz10_1, hcz10_2, hcz10_3, hcz10_4⟩ := zc5 BK260.out; obtain ⟨hfz10_0, hfz10_1, hfz10_2, hfz10_3, hfz10_4⟩ := zf5 BK260.out))
     (try simp only [Act.put, List.setIfInBounds_toArray, List.set_cons_zero, List.set_cons_succ])
     go_cut [37] (fun v37 wc => ∃ (kq : Nat) (x37_5 : Bool), v37 = .bool x37_5 ∧ Aside0 (balustraderef16_Few.j1 kq a1 x5_1 x37_5 l0_0 a0_1 l0_2 ((rd_T39 l0_0 x5_1).f0) ((rd_T39 l0_0 x5_1).f1) ((rd_T39 l0_0 x5_1).f2) ((rd_T39 l0_0 x5_1).f3) ((rd_T39 l0_0 x5_1).f4) = some r) ∧ Aside0 (kq ≤ k1) ∧ Aside0 (wc.heap[gb257]? = some (.cells #[(.slice (some ad259) l0_0.length c0_0), .int .i64 a0_1, (.slice A0_2 l0_2.length c0_2)] 25 (0, 0))) ∧ Aside0 (wc.heap[gb260]? = some (.cells #[.string ((rd_T39 l0_0 x5_1).f0), .int .i64 ((rd_T39 l0_0 x5_1).f1), .int .i64 ((rd_T39 l0_0 x5_1).f2), (.slice A259_3 ((rd_T39 l0_0 x5_1).f3).length c259_3), (.slice A259_4 ((rd_T39 l0_0 x5_1).f4).length c259_4)] 39 (0, 0))) ∧ Aside0 (Below w.heap.size w wc))
     case first =>
      have H := HC6.out
      clear HC6
      by_cases c11 : (((rd_T39 l0_0 x5_1).f3).length : Int) > 100
      ·rw [if_pos c11] at H
       have c11b0 : decide (100 < (((rd_T39 l0_0 x5_1).f3).length : Int)) = true := decide_eq_true c11
       have c11b1 : decide (100 < ((rd_T39 l0_0 x5_1).f3).length) = true := decide_eq_true (by omega)
       clear c11
       (first | rw [c11b0] | (simp only [i64_w, i32_w]; rw [c11b0]) | skip)
       have H' := Aside0.mk H
       clear H
       have hnb12 := NB260_257.out
       have hnc12 := NB257_260.out
       obtain ⟨hcz13_0, hcz13_1, hcz13_2, hcz13_3, hcz13_4⟩ := zc5 BK260.out
       obtain ⟨hfz13_0, hfz13_1, hfz13_2, hfz13_3, hfz13_4⟩ := zf5 BK260.out
       go_wp2
       go_meet
       case rel => exact ⟨_, (true), zQ, H', ⟨by have := HK1.out; first | omega | exact Nat.le_refl _⟩, ⟨by (with_reducible repeat (first | refine blk_drewN ?_ _ | refine blk_drew ?_ | refine blk_alloc ?_ _)); refine blk_far ?_ NB257_260.out _; (with_reducible repeat (first | refine blk_drewN ?_ _ | refine blk_drew ?_ | refine blk_alloc ?_ _)); refine blk_far ?_ NB257_260.out _; (with_reducible repeat (first | refine blk_drewN ?_ _ | refine blk_drew ?_ | refine blk_alloc ?_ _)); refine blk_far ?_ NB257_260.out _; (with_reducible repeat (first | refine blk_drewN ?_ _ | refine blk_drew ?_ | refine blk_alloc ?_ _)); refine blk_far ?_ NB257_260.out _; (with_reducible repeat (first | refine blk_drewN ?_ _ | refine blk_drew ?_ | refine blk_alloc ?_ _)); refine blk_far ?_ NB257_260.out _; (with_reducible repeat (first | refine blk_drewN ?_ _ | refine blk_drew ?_ | refine blk_alloc ?_ _)); exact BK257.out⟩, ⟨by (with_reducible repeat (first | refine blk_drewN ?_ _ | refine blk_drew ?_ | refine blk_alloc ?_ _)); refine blk_put (cs := #[.string ((rd_T39 l0_0 x5_1).f0), .int .i64 ((rd_T39 l0_0 x5_1).f1), .int .i64 ((rd_T39 l0_0 x5_1).f2), .slice A259_3 ((rd_T39 l0_0 x5_1).f3).length c259_3, .slice none 0 0]) ?_ 4 _ rfl; (with_reducible repeat (first | refine blk_drewN ?_ _ | refine blk_drew ?_ | refine blk_alloc ?_ _)); refine blk_put (cs := #[.string ((rd_T39 l0_0 x5_1).f0), .int .i64 ((rd_T39 l0_0 x5_1).f1), .int .i64 ((rd_T39 l0_0 x5_1).f2), .slice none 0 0, .slice none 0 0]) ?_ 3 _ rfl; (with_reducible repeat (first | refine blk_drewN ?_ _ | refine blk_drew ?_ | refine blk_alloc ?_ _)); refine blk_put (cs := #[.string ((rd_T39 l0_0 x5_1).f0), .int .i64 ((rd_T39 l0_0 x5_1).f1), .int .i64 0, .slice none 0 0, .slice none 0 0]) ?_ 2 _ rfl; (with_reducible repeat (first | refine blk_drewN ?_ _ | refine blk_drew ?_ | refine blk_alloc ?_ _)); refine blk_put (cs := #[.string ((rd_T39 l0_0 x5_1).f0), .int .i64 0, .int .i64 0, .slice none 0 0, .slice none 0 0]) ?_ 1 _ rfl; (with_reducible repeat (first | refine blk_drewN ?_ _ | refine blk_drew ?_ | refine blk_alloc ?_ _)); refine blk_put (cs := #[.string (⟨#[]⟩ : ByteArray), .int .i64 0, .int .i64 0, .slice none 0 0, .slice none 0 0]) ?_ 0 _ rfl; (with_reducible repeat (first | refine blk_drewN ?_ _ | refine blk_drew ?_ | refine blk_alloc ?_ _)); exact BK260.out⟩, ⟨zG⟩⟩
      ·rw [if_neg c11] at H
       have c11b0 : decide (100 < (((rd_T39 l0_0 x5_1).f3).length : Int)) = false := decide_eq_false c11
       have c11b1 : decide (100 < ((rd_T39 l0_0 x5_1).f3).length) = false := decide_eq_false (by omega)
       clear c11
       (first | rw [c11b0] | (simp only [i64_w, i32_w]; rw [c11b0]) | skip)
       by_cases c14 : (((rd_T39 l0_0 x5_1).f4).length : Int) > a1
       ·rw [if_pos c14] at H
        have c14b0 : decide (a1 < (((rd_T39 l0_0 x5_1).f4).length : Int)) = true := decide_eq_true c14
        clear c14
        have H' := Aside0.mk H
        clear H
        have hnb15 := NB260_257.out
        have hnc15 := NB257_260.out
        obtain ⟨hcz16_0, hcz16_1, hcz16_2, hcz16_3, hcz16_4⟩ := zc5 BK260.out
        obtain ⟨hfz16_0, hfz16_1, hfz16_2, hfz16_3, hfz16_4⟩ := zf5 BK260.out
        go_wp2
        go_meet
        case rel => exact ⟨_, (true), zQ, H', ⟨by have := HK1.out; first | omega | exact Nat.le_refl _⟩, ⟨by (with_reducible repeat (first | refine blk_drewN ?_ _ | refine blk_drew ?_ | refine blk_alloc ?_ _)); refine blk_far ?_ NB257_260.out _; (with_reducible repeat (first | refine blk_drewN ?_ _ | refine blk_drew ?_ | refine blk_alloc ?_ _)); refine blk_far ?_ NB257_260.out _; (with_reducible repeat (first | refine blk_drewN ?_ _ | refine blk_drew ?_ | refine blk_alloc ?_ _)); refine blk_far ?_ NB257_260.out _; (with_reducible repeat (first | refine blk_drewN ?_ _ | refine blk_drew ?_ | refine blk_alloc ?_ _)); refine blk_far ?_ NB257_260.out _; (with_reducible repeat (first | refine blk_drewN ?_ _ | refine blk_drew ?_ | refine blk_alloc ?_ _)); refine blk_far ?_ NB257_260.out _; (with_reducible repeat (first | refine blk_drewN ?_ _ | refine blk_drew ?_ | refine blk_alloc ?_ _)); exact BK257.out⟩, ⟨by (with_reducible repeat (first | refine blk_drewN ?_ _ | refine blk_drew ?_ | refine blk_alloc ?_ _)); refine blk_put (cs := #[.string ((rd_T39 l0_0 x5_1).f0), .int .i64 ((rd_T39 l0_0 x5_1).f1), .int .i64 ((rd_T39 l0_0 x5_1).f2), .slice A259_3 ((rd_T39 l0_0 x5_1).f3).length c259_3, .slice none 0 0]) ?_ 4 _ rfl; (with_reducible repeat (first | refine blk_drewN ?_ _ | refine blk_drew ?_ | refine blk_alloc ?_ _)); refine blk_put (cs := #[.string ((rd_T39 l0_0 x5_1).f0), .int .i64 ((rd_T39 l0_0 x5_1).f1), .int .i64 ((rd_T39 l0_0 x5_1).f2), .slice none 0 0, .slice none 0 0]) ?_ 3 _ rfl; (with_reducible repeat (first | refine blk_drewN ?_ _ | refine blk_drew ?_ | refine blk_alloc ?_ _)); refine blk_put (cs := #[.string ((rd_T39 l0_0 x5_1).f0), .int .i64 ((rd_T39 l0_0 x5_1).f1), .int .i64 0, .slice none 0 0, .slice none 0 0]) ?_ 2 _ rfl; (with_reducible repeat (first | refine blk_drewN ?_ _ | refine blk_drew ?_ | refine blk_alloc ?_ _)); refine blk_put (cs := #[.string ((rd_T39 l0_0 x5_1).f0), .int .i64 0, .int .i64 0, .slice none 0 0, .slice none 0 0]) ?_ 1 _ rfl; (with_reducible repeat (first | refine blk_drewN ?_ _ | refine blk_drew ?_ | refine blk_alloc ?_ _)); refine blk_put (cs := #[.string (⟨#[]⟩ : ByteArray), .int .i64 0, .int .i64 0, .slice none 0 0, .slice none 0 0]) ?_ 0 _ rfl; (with_reducible repeat (first | refine blk_drewN ?_ _ | refine blk_drew ?_ | refine blk_alloc ?_ _)); exact BK260.out⟩, ⟨zG⟩⟩
       ·rw [if_neg c14] at H
        have c14b0 : decide (a1 < (((rd_T39 l0_0 x5_1).f4).length : Int)) = false := decide_eq_false c14
        clear c14
        have H' := Aside0.mk H
        clear H
        have hnb17 := NB260_257.out
        have hnc17 := NB257_260.out
        obtain ⟨hcz18_0, hcz18_1, hcz18_2, hcz18_3, hcz18_4⟩ := zc5 BK260.out
        obtain ⟨hfz18_0, hfz18_1, hfz18_2, hfz18_3, hfz18_4⟩ := zf5 BK260.out
        go_wp2
        go_meet
        case rel => exact ⟨_, (decide ((((rd_T39 l0_0 x5_1).f0).size : Int) > 100)), zQ, H', ⟨by have := HK1.out; first | omega | exact Nat.le_refl _⟩, ⟨by (with_reducible repeat (first | refine blk_drewN ?_ _ | refine blk_drew ?_ | refine blk_alloc ?_ _)); refine blk_far ?_ NB257_260.out _; (with_reducible repeat (first | refine blk_drewN ?_ _ | refine blk_drew ?_ | refine blk_alloc ?_ _)); refine blk_far ?_ NB257_260.out _; (with_reducible repeat (first | refine blk_drewN ?_ _ | refine blk_drew ?_ | refine blk_alloc ?_ _)); refine blk_far ?_ NB257_260.out _; (with_reducible repeat (first | refine blk_drewN ?_ _ | refine blk_drew ?_ | refine blk_alloc ?_ _)); refine blk_far ?_ NB257_260.out _; (with_reducible repeat (first | refine blk_drewN ?_ _ | refine blk_drew ?_ | refine blk_alloc ?_ _)); refine blk_far ?_ NB257_260.out _; (with_reducible repeat (first | refine blk_drewN ?_ _ | refine blk_drew ?_ | refine blk_alloc ?_ _)); exact BK257.out⟩, ⟨by (with_reducible repeat (first | refine blk_drewN ?_ _ | refine blk_drew ?_ | refine blk_alloc ?_ _)); refine blk_put (cs := #[.string ((rd_T39 l0_0 x5_1).f0), .int .i64 ((rd_T39 l0_0 x5_1).f1), .int .i64 ((rd_T39 l0_0 x5_1).f2), .slice A259_3 ((rd_T39 l0_0 x5_1).f3).length c259_3, .slice none 0 0]) ?_ 4 _ rfl; (with_reducible repeat (first | refine blk_drewN ?_ _ | refine blk_drew ?_ | refine blk_alloc ?_ _)); refine blk_put (cs := #[.string ((rd_T39 l0_0 x5_1).f0), .int .i64 ((rd_T39 l0_0 x5_1).f1), .int .i64 ((rd_T39 l0_0 x5_1).f2), .slice none 0 0, .slice none 0 0]) ?_ 3 _ rfl; (with_reducible repeat (first | refine blk_drewN ?_ _ | refine blk_drew ?_ | refine blk_alloc ?_ _)); refine blk_put (cs := #[.string ((rd_T39 l0_0 x5_1).f0), .int .i64 ((rd_T39 l0_0 x5_1).f1), .int .i64 0, .slice none 0 0, .slice none 0 0]) ?_ 2 _ rfl; (with_reducible repeat (first | refine blk_drewN ?_ _ | refine blk_drew ?_ | refine blk_alloc ?_ _)); refine blk_put (cs := #[.string ((rd_T39 l0_0 x5_1).f0), .int .i64 0, .int .i64 0, .slice none 0 0, .slice none 0 0]) ?_ 1 _ rfl; (with_reducible repeat (first | refine blk_drewN ?_ _ | refine blk_drew ?_ | refine blk_alloc ?_ _)); refine blk_put (cs := #[.string (⟨#[]⟩ : ByteArray), .int .i64 0, .int .i64 0, .slice none 0 0, .slice none 0 0]) ?_ 0 _ rfl; (with_reducible repeat (first | refine blk_drewN ?_ _ | refine blk_drew ?_ | refine blk_alloc ?_ _)); exact BK260.out⟩, ⟨zG⟩⟩
     case rest =>
      clear HC6
      (try clear c1); (try clear c2); (try clear p2); (try clear q2); (try clear hx2); (try clear c4); (try clear c4b0); (try clear c5); (try clear c5b0); (try clear c7); (try clear c9); (try clear c11); (try clear c11b0); (try clear c11b1); (try clear c12); (try clear c14); (try clear c14b0); (try clear c15); (try clear c17); (try clear hcz10_0 hcz10_1 hcz10_2 hcz10_3)
      (try clear hcz10_4); (try clear hcz13_0 hcz13_1 hcz13_2 hcz13_3 hcz13_4); (try clear hcz16_0 hcz16_1 hcz16_2 hcz16_3 hcz16_4); (try clear hcz18_0 hcz18_1 hcz18_2 hcz18_3 hcz18_4); (try clear hcz7_0 hcz7_1 hcz7_2)
      (try clear hfz10_0 hfz10_1 hfz10_2 hfz10_3 hfz10_4); (try clear hfz13_0 hfz13_1 hfz13_2 hfz13_3 hfz13_4); (try clear hfz16_0 hfz16_1 hfz16_2 hfz16_3 hfz16_4); (try clear hfz18_0 hfz18_1 hfz18_2 hfz18_3)
      (try clear hfz18_4); (try clear hfz7_0 hfz7_1 hfz7_2); (try clear hx259_0); (try clear hx259_1); (try clear hx259_2); (try clear hx259_3); (try clear hx259_4); (try clear p2); (try clear p259); (try clear q259)
      obtain ⟨kq, x37_5, rfl, HA, HJ5, BK257, BK260, HB⟩ := hcut
      cases kq with
      | zero => exact absurd HA.out (by simp [balustraderef16_Few.j1])
      | succ kj5 =>
       have H := HA.out
       clear HA
       simp only [balustraderef16_Few.j1] at H
       by_cases c19 : x37_5 = true
       ·subst c19
        have H1 : (some false) = some r := by rw [if_pos rfl] at H; exact H
        clear H
        have H := H1
        clear H1
        obtain rfl := Option.some.inj H
        go_wp2
        go_ret
        exact ⟨zV, zG⟩
       ·replace c19 := Bool.eq_false_iff.mpr c19
        subst c19
        have H1 : (balustraderef16_Few.l1 kj5 a1 x5_1 0 l0_0 a0_1 l0_2 ((rd_T39 l0_0 x5_1).f0) ((rd_T39 l0_0 x5_1).f1) ((rd_T39 l0_0 x5_1).f2) ((rd_T39 l0_0 x5_1).f3) ((rd_T39 l0_0 x5_1).f4)) = some r := by rw [if_neg (show ¬ (false = true) by decide)] at H; exact H
        clear H
        have H := H1
        clear H1
        have H' := Aside0.mk H
        clear H
        go_wp2
        go_loopg [7] kj5 (fun kq v7 w' => ∃ (x7_3 : Int), v7 = .int .i64 x7_3 ∧ Aside0 (balustraderef16_Few.l1 kq a1 x5_1 x7_3 l0_0 a0_1 l0_2 ((rd_T39 l0_0 x5_1).f0) ((rd_T39 l0_0 x5_1).f1) ((rd_T39 l0_0 x5_1).f2) ((rd_T39 l0_0 x5_1).f3) ((rd_T39 l0_0 x5_1).f4) = some r) ∧ Aside0 (kq ≤ kj5) ∧ Aside0 (w'.heap[gb257]? = some (.cells #[(.slice (some ad259) l0_0.length c0_0), .int .i64 a0_1, (.slice A0_2 l0_2.length c0_2)] 25 (0, 0))) ∧ Aside0 (w'.heap[gb260]? = some (.cells #[.string ((rd_T39 l0_0 x5_1).f0), .int .i64 ((rd_T39 l0_0 x5_1).f1), .int .i64 ((rd_T39 l0_0 x5_1).f2), (.slice A259_3 ((rd_T39 l0_0 x5_1).f3).length c259_3), (.slice A259_4 ((rd_T39 l0_0 x5_1).f4).length c259_4)] 39 (0, 0))) ∧ Aside0 (Below w.heap.size w w'))
        case atStart => exact ⟨(0), zQ, H', ⟨Nat.le_refl _⟩, ⟨zK BK257.out⟩, ⟨zK BK260.out⟩, ⟨zG⟩⟩
        case round =>
         clear H'
         (try clear c1); (try clear c2); (try clear p2); (try clear q2); (try clear hx2); (try clear c4); (try clear c4b0); (try clear c5); (try clear c5b0); (try clear c7); (try clear c9); (try clear c11); (try clear c11b0); (try clear c11b1); (try clear c12); (try clear c14); (try clear c14b0); (try clear c15); (try clear c17); (try clear c19); (try clear hcz10_0 hcz10_1 hcz10_2)
         (try clear hcz10_3 hcz10_4); (try clear hcz13_0 hcz13_1 hcz13_2 hcz13_3 hcz13_4); (try clear hcz16_0 hcz16_1 hcz16_2 hcz16_3 hcz16_4); (try clear hcz18_0 hcz18_1 hcz18_2 hcz18_3 hcz18_4); (try clear hcz7_0 hcz7_1)
         (try clear hcz7_2); (try clear hfz10_0 hfz10_1 hfz10_2 hfz10_3 hfz10_4); (try clear hfz13_0 hfz13_1 hfz13_2 hfz13_3 hfz13_4); (try clear hfz16_0 hfz16_1 hfz16_2 hfz16_3 hfz16_4); (try clear hfz18_0 hfz18_1 hfz18_2)
         (try clear hfz18_3 hfz18_4); (try clear hfz7_0 hfz7_1 hfz7_2); (try clear hx259_0); (try clear hx259_1); (try clear hx259_2); (try clear hx259_3); (try clear hx259_4); (try clear p2); (try clear p259); (try clear q2); (try clear q259)
         obtain ⟨x7_3, rfl, HA, HK3, BK257, BK260, HB⟩ := hrel
         cases gk with
         | zero => exact absurd HA.out (by simp [balustraderef16_Few.l1])
         | succ k3 =>
          have H := HA.out
          clear HA
          simp only [balustraderef16_Few.l1] at H
          by_cases c20 : x7_3 < (((rd_T39 l0_0 x5_1).f4).length : Int)
          ·rw [if_pos c20] at H
           have c20b0 : decide (x7_3 < (((rd_T39 l0_0 x5_1).f4).length : Int)) = true := decide_eq_true c20
           clear c20
           have H' := Aside0.mk H
           clear H
           have hnb21 := NB260_257.out
           have hnc21 := NB257_260.out
           obtain ⟨hcz22_0, hcz22_1, hcz22_2, hcz22_3, hcz22_4⟩ := zc5 BK260.out
           obtain ⟨hfz22_0, hfz22_1, hfz22_2, hfz22_3, hfz22_4⟩ := zf5 BK260.out
           go_wp2
           go_loopg [8] k3 (fun kq v8 w' => ∃ (x8_4 : Int), v8 = .int .i64 x8_4 ∧ Aside0 (balustraderef16_Few.l2 kq a1 x5_1 x7_3 x8_4 l0_0 a0_1 l0_2 ((rd_T39 l0_0 x5_1).f0) ((rd_T39 l0_0 x5_1).f1) ((rd_T39 l0_0 x5_1).f2) ((rd_T39 l0_0 x5_1).f3) ((rd_T39 l0_0 x5_1).f4) = some r) ∧ Aside0 (kq ≤ k3) ∧ Aside0 (w'.heap[gb257]? = some (.cells #[(.slice (some ad259) l0_0.length c0_0), .int .i64 a0_1, (.slice A0_2 l0_2.length c0_2)] 25 (0, 0))) ∧ Aside0 (w'.heap[gb260]? = some (.cells #[.string ((rd_T39 l0_0 x5_1).f0), .int .i64 ((rd_T39 l0_0 x5_1).f1), .int .i64 ((rd_T39 l0_0 x5_1).f2), (.slice A259_3 ((rd_T39 l0_0 x5_1).f3).length c259_3), (.slice A259_4 ((rd_T39 l0_0 x5_1).f4).length c259_4)] 39 (0, 0))) ∧ Aside0 (Below w.heap.size w w'))
           case atStart => exact ⟨(0), zQ, H', ⟨Nat.le_refl _⟩, ⟨zK BK257.out⟩, ⟨zK BK260.out⟩, ⟨zG⟩⟩
           case round =>
            clear H'
            (try clear c1); (try clear c2); (try clear p2); (try clear q2); (try clear hx2); (try clear c4); (try clear c4b0); (try clear c5); (try clear c5b0); (try clear c7); (try clear c9); (try clear c11); (try clear c11b0); (try clear c11b1); (try clear c12); (try clear c14); (try clear c14b0); (try clear c15); (try clear c17); (try clear c19); (try clear c20); (try clear c20b0); (try clear c21)
            (try clear hcz10_0 hcz10_1 hcz10_2 hcz10_3 hcz10_4); (try clear hcz13_0 hcz13_1 hcz13_2 hcz13_3 hcz13_4); (try clear hcz16_0 hcz16_1 hcz16_2 hcz16_3 hcz16_4); (try clear hcz18_0 hcz18_1 hcz18_2 hcz18_3)
            (try clear hcz18_4); (try clear hcz22_0 hcz22_1 hcz22_2 hcz22_3 hcz22_4); (try clear hcz7_0 hcz7_1 hcz7_2); (try clear hfz10_0 hfz10_1 hfz10_2 hfz10_3 hfz10_4); (try clear hfz13_0 hfz13_1 hfz13_2 hfz13_3 hfz13_4)
            (try clear hfz16_0 hfz16_1 hfz16_2 hfz16_3 hfz16_4); (try clear hfz18_0 hfz18_1 hfz18_2 hfz18_3 hfz18_4); (try clear hfz22_0 hfz22_1 hfz22_2 hfz22_3 hfz22_4); (try clear hfz7_0 hfz7_1 hfz7_2); (try clear hx259_0)
            (try clear hx259_1); (try clear hx259_2); (try clear hx259_3); (try clear hx259_4); (try clear p2); (try clear p259); (try clear q2); (try clear q259)
            obtain ⟨x8_4, rfl, HA, HK4, BK257, BK260, HB⟩ := hrel
            cases gk with
            | zero => exact absurd HA.out (by simp [balustraderef16_Few.l2])
            | succ k4 =>
             have H := HA.out
             clear HA
             simp only [balustraderef16_Few.l2] at H
             by_cases c23 : 0 ≤ x7_3
             ·rw [if_pos c23] at H
              have c23b0 : decide (0 ≤ x7_3) = true := decide_eq_true c23
              clear c23
              by_cases c24 : x7_3 < (((rd_T39 l0_0 x5_1).f4).length : Int)
              ·rw [if_pos c24] at H
               have c24b0 : decide (x7_3 < (((rd_T39 l0_0 x5_1).f4).length : Int)) = true := decide_eq_true c24
               clear c24
               by_cases c25 : x8_4 < ((rd_L5 ((rd_T39 l0_0 x5_1).f4) x7_3).length : Int)
               ·rw [if_pos c25] at H
                have c25b0 : decide (x8_4 < ((rd_L5 ((rd_T39 l0_0 x5_1).f4) x7_3).length : Int)) = true := decide_eq_true c25
                clear c25
                by_cases c26 : 0 ≤ x8_4
                ·rw [if_pos c26] at H
                 have c26b0 : decide (0 ≤ x8_4) = true := decide_eq_true c26
                 clear c26
                 by_cases c27 : (((rd_T42 (rd_L5 ((rd_T39 l0_0 x5_1).f4) x7_3) x8_4).f8).length : Int) > 40
                 ·rw [if_pos c27] at H
                  have c27b0 : decide (40 < (((rd_T42 (rd_L5 ((rd_T39 l0_0 x5_1).f4) x7_3) x8_4).f8).length : Int)) = true := decide_eq_true c27
                  have c27b1 : decide (40 < ((rd_T42 (rd_L5 ((rd_T39 l0_0 x5_1).f4) x7_3) x8_4).f8).length) = true := decide_eq_true (by omega)
                  clear c27
                  obtain rfl := Option.some.inj H
                  have hnb28 := NB260_257.out
                  have hnc28 := NB257_260.out
                  obtain ⟨hcz29_0, hcz29_1, hcz29_2, hcz29_3, hcz29_4⟩ := zc5 BK260.out
                  obtain ⟨hfz29_0, hfz29_1, hfz29_2, hfz29_3, hfz29_4⟩ := zf5 BK260.out
                  have p261 : 0 ≤ (x7_3 : Int) := zO
                  have q261 : x7_3 < (((rd_T39 l0_0 x5_1).f4).length : Int) := zO
                  obtain ⟨ad261, A261_0, c261_0, e261, hx261_0, hl261_0, hi261_0⟩ := at_L5 HR259_4.out x7_3 p261 q261
                  cases e261
                  replace hx261_0 := pw_cell_below HB.out hx261_0
                  have HR261_0 := Aside0.mk hi261_0
                  have HC261_0 := Aside0.mk hl261_0
                  clear hi261_0 hl261_0
                  replace p261 := eq_true p261
                  replace q261 := eq_true q261
                  have p262 : 0 ≤ (x7_3 : Int) := zO
                  have q262 : x7_3 < (((rd_T39 l0_0 x5_1).f4).length : Int) := zO
                  obtain ⟨ad262, A262_0, c262_0, e262, hx262_0, hl262_0, hi262_0⟩ := at_L5 HR259_4.out x7_3 p262 q262
                  obtain rfl : ad261 = ad262 := (by injection e262)
                  replace hx262_0 := pw_cell_below HB.out hx262_0
                  have HR262_0 := Aside0.mk hi262_0
                  have HC262_0 := Aside0.mk hl262_0
                  clear hi262_0 hl262_0
                  replace p262 := eq_true p262
                  replace q262 := eq_true q262
                  have ea_ := Option.some.inj (hx261_0.symm.trans hx262_0)
                  injection ea_ with ea_ en_ ec_
                  subst ea_
                  subst ec_
                  clear en_
                  have p263 : 0 ≤ (x8_4 : Int) := zO
                  have q263 : x8_4 < ((rd_L5 ((rd_T39 l0_0 x5_1).f4) x7_3).length : Int) := zO
                  obtain ⟨ad263, A263_8, c263_8, e263, hx263_0, hx263_1, hx263_2, hx263_3, hx263_4, hx263_5, hx263_6, hx263_7, hx263_8, hl263_8, hi263_8⟩ := at_T42 HR262_0.out x8_4 p263 q263
                  cases e263
                  replace hx263_0 := pw_cell_below HB.out hx263_0
                  replace hx263_1 := pw_cell_below HB.out hx263_1
                  replace hx263_2 := pw_cell_below HB.out hx263_2
                  replace hx263_3 := pw_cell_below HB.out hx263_3
                  replace hx263_4 := pw_cell_below HB.out hx263_4
                  replace hx263_5 := pw_cell_below HB.out hx263_5
                  replace hx263_6 := pw_cell_below HB.out hx263_6
                  replace hx263_7 := pw_cell_below HB.out hx263_7
                  replace hx263_8 := pw_cell_below HB.out hx263_8
                  have HR263_8 := Aside0.mk hi263_8
                  have HC263_8 := Aside0.mk hl263_8
                  clear hi263_8 hl263_8
                  replace p263 := eq_true p263
                  replace q263 := eq_true q263
                  go_wp2
                  go_ret
                  exact ⟨zV, zG⟩
                 ·rw [if_neg c27] at H
                  have c27b0 : decide (40 < (((rd_T42 (rd_L5 ((rd_T39 l0_0 x5_1).f4) x7_3) x8_4).f8).length : Int)) = false := decide_eq_false c27
                  have c27b1 : decide (40 < ((rd_T42 (rd_L5 ((rd_T39 l0_0 x5_1).f4) x7_3) x8_4).f8).length) = false := decide_eq_false (by omega)
                  clear c27
                  have H' := Aside0.mk H
                  clear H
                  have hnb30 := NB260_257.out
                  have hnc30 := NB257_260.out
                  obtain ⟨hcz31_0, hcz31_1, hcz31_2, hcz31_3, hcz31_4⟩ := zc5 BK260.out
                  obtain ⟨hfz31_0, hfz31_1, hfz31_2, hfz31_3, hfz31_4⟩ := zf5 BK260.out
                  have p261 : 0 ≤ (x7_3 : Int) := zO
                  have q261 : x7_3 < (((rd_T39 l0_0 x5_1).f4).length : Int) := zO
                  obtain ⟨ad261, A261_0, c261_0, e261, hx261_0, hl261_0, hi261_0⟩ := at_L5 HR259_4.out x7_3 p261 q261
                  cases e261
                  replace hx261_0 := pw_cell_below HB.out hx261_0
                  have HR261_0 := Aside0.mk hi261_0
                  have HC261_0 := Aside0.mk hl261_0
                  clear hi261_0 hl261_0
                  replace p261 := eq_true p261
                  replace q261 := eq_true q261
                  have p262 : 0 ≤ (x7_3 : Int) := zO
                  have q262 : x7_3 < (((rd_T39 l0_0 x5_1).f4).length : Int) := zO
                  obtain ⟨ad262, A262_0, c262_0, e262, hx262_0, hl262_0, hi262_0⟩ := at_L5 HR259_4.out x7_3 p262 q262
                  obtain rfl : ad261 = ad262 := (by injection e262)
                  replace hx262_0 := pw_cell_below HB.out hx262_0
                  have HR262_0 := Aside0.mk hi262_0
                  have HC262_0 := Aside0.mk hl262_0
                  clear hi262_0 hl262_0
                  replace p262 := eq_true p262
                  replace q262 := eq_true q262
                  have ea_ := Option.some.inj (hx261_0.symm.trans hx262_0)
                  injection ea_ with ea_ en_ ec_
                  subst ea_
                  subst ec_
                  clear en_
                  have p263 : 0 ≤ (x8_4 : Int) := zO
                  have q263 : x8_4 < ((rd_L5 ((rd_T39 l0_0 x5_1).f4) x7_3).length : Int) := zO
                  obtain ⟨ad263, A263_8, c263_8, e263, hx263_0, hx263_1, hx263_2, hx263_3, hx263_4, hx263_5, hx263_6, hx263_7, hx263_8, hl263_8, hi263_8⟩ := at_T42 HR262_0.out x8_4 p263 q263
                  cases e263
                  replace hx263_0 := pw_cell_below HB.out hx263_0
                  replace hx263_1 := pw_cell_below HB.out hx263_1
                  replace hx263_2 := pw_cell_below HB.out hx263_2
                  replace hx263_3 := pw_cell_below HB.out hx263_3
                  replace hx263_4 := pw_cell_below HB.out hx263_4
                  replace hx263_5 := pw_cell_below HB.out hx263_5
                  replace hx263_6 := pw_cell_below HB.out hx263_6
                  replace hx263_7 := pw_cell_below HB.out hx263_7
                  replace hx263_8 := pw_cell_below HB.out hx263_8
                  have HR263_8 := Aside0.mk hi263_8
                  have HC263_8 := Aside0.mk hl263_8
                  clear hi263_8 hl263_8
                  replace p263 := eq_true p263
                  replace q263 := eq_true q263
                  go_wp2
                  go_roundg k4
                  case measure => have := HK1.out; have := HJ5.out; have := HK3.out; have := HK4.out; omega
                  case rel => exact ⟨(wrap64 (x8_4 + 1)), zQ, H', ⟨by have := HK1.out; have := HJ5.out; have := HK3.out; have := HK4.out; omega⟩, ⟨zK BK257.out⟩, ⟨zK BK260.out⟩, ⟨zG⟩⟩
                ·rw [if_neg c26] at H
                 exact absurd H (by simp)
               ·rw [if_neg c25] at H
                have c25b0 : decide (x8_4 < ((rd_L5 ((rd_T39 l0_0 x5_1).f4) x7_3).length : Int)) = false := decide_eq_false c25
                clear c25
                have H' := Aside0.mk H
                clear H
                have hnb32 := NB260_257.out
                have hnc32 := NB257_260.out
                obtain ⟨hcz33_0, hcz33_1, hcz33_2, hcz33_3, hcz33_4⟩ := zc5 BK260.out
                obtain ⟨hfz33_0, hfz33_1, hfz33_2, hfz33_3, hfz33_4⟩ := zf5 BK260.out
                have p261 : 0 ≤ (x7_3 : Int) := zO
                have q261 : x7_3 < (((rd_T39 l0_0 x5_1).f4).length : Int) := zO
                obtain ⟨ad261, A261_0, c261_0, e261, hx261_0, hl261_0, hi261_0⟩ := at_L5 HR259_4.out x7_3 p261 q261
                cases e261
                replace hx261_0 := pw_cell_below HB.out hx261_0
                have HR261_0 := Aside0.mk hi261_0
                have HC261_0 := Aside0.mk hl261_0
                clear hi261_0 hl261_0
                replace p261 := eq_true p261
                replace q261 := eq_true q261
                go_wp2
                go_roundg k4
                case measure => have := HK1.out; have := HJ5.out; have := HK3.out; have := HK4.out; omega
                case rel => exact ⟨(wrap64 (x7_3 + 1)), zQ, H', ⟨by have := HK1.out; have := HJ5.out; have := HK3.out; have := HK4.out; omega⟩, ⟨zK BK257.out⟩, ⟨zK BK260.out⟩, ⟨zG⟩⟩
              ·rw [if_neg c24] at H
               exact absurd H (by simp)
             ·rw [if_neg c23] at H
              exact absurd H (by simp)
          ·rw [if_neg c20] at H
           have c20b0 : decide (x7_3 < (((rd_T39 l0_0 x5_1).f4).length : Int)) = false := decide_eq_false c20
           clear c20
           have H' := Aside0.mk H
           clear H
           have hnb34 := NB260_257.out
           have hnc34 := NB257_260.out
           obtain ⟨hcz35_0, hcz35_1, hcz35_2, hcz35_3, hcz35_4⟩ := zc5 BK260.out
           obtain ⟨hfz35_0, hfz35_1, hfz35_2, hfz35_3, hfz35_4⟩ := zf5 BK260.out
           go_wp2
           go_roundg k3
           case measure => have := HK1.out; have := HJ5.out; have := HK3.out; omega
           case rel => exact ⟨(wrap64 (x5_1 + 1)), zQ, H', ⟨by have := HK1.out; have := HJ5.out; have := HK3.out; omega⟩, ⟨zK BK257.out⟩, ⟨zG⟩⟩
    ·rw [if_neg c5] at H
     exact absurd H (by simp)
   ·rw [if_neg c4] at H
    have c4b0 : decide (x5_1 < (l0_0.length : Int)) = false := decide_eq_false c4
    clear c4
    by_cases c36 : (l0_0.length : Int) ≤ 10
    ·rw [if_pos c36] at H
     have c36b0 : decide ((l0_0.length : Int) ≤ 10) = true := decide_eq_true c36
     have c36b1 : decide (l0_0.length ≤ 10) = true := decide_eq_true (by omega)
     clear c36
     by_cases c37 : (l0_2.length : Int) ≤ 200
     ·rw [if_pos c37] at H
      have c37b0 : decide ((l0_2.length : Int) ≤ 200) = true := decide_eq_true c37
      have c37b1 : decide (l0_2.length ≤ 200) = true := decide_eq_true (by omega)
      clear c37
      replace H := Option.bind_eq_some_iff.mp H
      obtain ⟨t258, A380, H⟩ := H
      replace H : (some (decide (t258 ≤ a1))) = some r := H
      have A38 := Aside0.mk A380
      clear A380
      obtain rfl := Option.some.inj H
      have hcz39_0 : wr.cell? ⟨gb257, 0, none⟩ = some (.slice A0_0 l0_0.length c0_0) := (blk_cell BK257.out 0).trans rfl
      have hcz39_1 : wr.cell? ⟨gb257, 1, none⟩ = some (.int .i64 a0_1) := (blk_cell BK257.out 1).trans rfl
      have hcz39_2 : wr.cell? ⟨gb257, 2, none⟩ = some (.slice A0_2 l0_2.length c0_2) := (blk_cell BK257.out 2).trans rfl
      have hfz39_0 := blk_frozen BK257.out 0
      have hfz39_1 := blk_frozen BK257.out 1
      have hfz39_2 := blk_frozen BK257.out 2
      go_wp2_with (first | (go_at_call 14; (with_reducible refine (balustraderef16_Count.calls k1 _ _ l0_0 a0_1 _ _ l0_2 t258 _ ?side1 ?side2 ?side3 ?side4 A38.out).mono ?_); (case side1 => exact zC (Kd.C_below HR0_0.out HB.out)); (case side2 => exact HC0_0.out); (case side3 => exact zC (Kd.C_below HR0_2.out HB.out)); (case side4 => exact HC0_2.out); rintro e w40 ⟨rfl, hb⟩; have n0_ := Aside0.mk (blk_below (g := gb257) (o := .cells #[.slice A0_0 l0_0.length c0_0, .int .i64 a0_1, .slice A0_2 l0_2.length c0_2] 25 (0, 0)) (zK BK257.out) hb); have n1_ := Aside0.mk (below_step (zG) hb); clear BK257; clear HB; have BK257 := n0_; have HB := n1_; clear n0_ n1_; (try clear hb); (try clear hb2); (try clear hk); (try clear hi)))
      go_ret
      exact ⟨zV, zG⟩
     ·rw [if_neg c37] at H
      have c37b0 : decide ((l0_2.length : Int) ≤ 200) = false := decide_eq_false c37
      have c37b1 : decide (l0_2.length ≤ 200) = false := decide_eq_false (by omega)
      clear c37
      obtain rfl := Option.some.inj H
      have hcz41_0 : wr.cell? ⟨gb257, 0, none⟩ = some (.slice A0_0 l0_0.length c0_0) := (blk_cell BK257.out 0).trans rfl
      have hcz41_1 : wr.cell? ⟨gb257, 1, none⟩ = some (.int .i64 a0_1) := (blk_cell BK257.out 1).trans rfl
      have hcz41_2 : wr.cell? ⟨gb257, 2, none⟩ = some (.slice A0_2 l0_2.length c0_2) := (blk_cell BK257.out 2).trans rfl
      have hfz41_0 := blk_frozen BK257.out 0
      have hfz41_1 := blk_frozen BK257.out 1
      have hfz41_2 := blk_frozen BK257.out 2
      go_wp2
      go_ret
      exact ⟨zV, zG⟩
    ·rw [if_neg c36] at H
     have c36b0 : decide ((l0_0.length : Int) ≤ 10) = false := decide_eq_false c36
     have c36b1 : decide (l0_0.length ≤ 10) = false := decide_eq_false (by omega)
     clear c36
     obtain rfl := Option.some.inj H
     have hcz42_0 : wr.cell? ⟨gb257, 0, none⟩ = some (.slice A0_0 l0_0.length c0_0) := (blk_cell BK257.out 0).trans rfl
     have hcz42_1 : wr.cell? ⟨gb257, 1, none⟩ = some (.int .i64 a0_1) := (blk_cell BK257.out 1).trans rfl
     have hcz42_2 : wr.cell? ⟨gb257, 2, none⟩ = some (.slice A0_2 l0_2.length c0_2) := (blk_cell BK257.out 2).trans rfl
     have hfz42_0 := blk_frozen BK257.out 0
     have hfz42_1 := blk_frozen BK257.out 1
     have hfz42_2 := blk_frozen BK257.out 2
     go_wp2
     go_ret
     exact ⟨zV, zG⟩
end Go.Proofs.Ytgbpkbfghonllaa.P

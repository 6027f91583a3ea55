/- A part of it. -/
import Derived.Test.YtgbpkbfghonllaaFcZ
import Derived.Test.YtgbpkbfghonllaaFcP0
import Derived.Test.YtgbpkbfghonllaaFcP12
import Derived.Test.YtgbpkbfghonllaaFcM39
namespace Go.Proofs.Ytgbpkbfghonllaa.P
open Go.RowKit Go.Proofs.YtgbpkbfghonllaaW.PrintWords Go.Proofs.YtgbpkbfghonllaaW.PrintLast Go.Proofs.YtgbpkbfghonllaaW.PrintMore
attribute [local go_sem] max2_int min2_int max_two min_two max_three min_three max_four min_four   
set_option linter.unusedVariables false
set_option linter.unusedSimpArgs false
def fun_Check.l0 : Nat → Int → Int → List (S39) → Int → List (S48) → Option (Int × Int × Int × Int)
 | 0, _, _, _, _, _ => none
 | k + 1, x14, x15, x265000, x265001, x265002 => if x15 < x14 then ((fun_function.f k x265000 x265001 x265002 x15).bind fun bt267 => (if bt267.2.2.2 = 0 then (fun_Check.l0 k x14 (wrap64 (x15 + 1)) x265000 x265001 x265002) else (some (bt267.1, bt267.2.1, bt267.2.2.1, bt267.2.2.2)))) else (some (0, 0, 0, 0))
def fun_Check.f (k : Nat) (l0_0 : List (S39)) (a0_1 : Int) (l0_2 : List (S48)) : Option (Int × Int × Int × Int) := (fun_whole.f k l0_0 a0_1 l0_2).bind fun t266 => (if t266 = 0 then (fun_Check.l0 k (l0_0.length : Int) 0 l0_0 a0_1 l0_2) else (some ((-1), (-1), (-1), t266)))
set_option maxHeartbeats 8000000 in
set_option maxRecDepth 100000 in
theorem fun_Check.calls (k : Nat) (A0_0 : Option Addr) (c0_0 : Nat) (l0_0 : List (S39)) (a0_1 : Int) (A0_2 : Option Addr) (c0_2 : Nat) (l0_2 : List (S48)) (r1 : Int) (r2 : Int) (r3 : Int) (r4 : Int) (w : World) (hr0_0 : Kd.C k39 w A0_0 l0_0.length l0_0) (hc0_0 : l0_0.length ≤ c0_0) (hr0_2 : Kd.C k48 w A0_2 l0_2.length l0_2) (hc0_2 : l0_2.length ≤ c0_2) (h : fun_Check.f k l0_0 a0_1 l0_2 = some (r1, r2, r3, r4)) :
  Calls Try.prog 9 #[.agg #[.slice A0_0 l0_0.length c0_0, .int .i64 a0_1, .slice A0_2 l0_2.length c0_2]] w fun e w' => e = .returned (.agg #[.int .i64 r1, .int .i64 r2, .int .i64 r3, .int .i64 r4]) ∧ Below w.heap.size w w' := by
 have hu25 := Try.underlying25
 have hu30 := Try.underlying30
 have HR0_0 := Aside0.mk hr0_0
 have HC0_0 := Aside0.mk hc0_0
 clear hr0_0 hc0_0
 have HR0_2 := Aside0.mk hr0_2
 have HC0_2 := Aside0.mk hc0_2
 clear hr0_2 hc0_2
 have HB := Aside0.mk (Below.refl w.heap.size w)
 have H : ((fun_whole.f k l0_0 a0_1 l0_2).bind fun t266 => (if t266 = 0 then (fun_Check.l0 k (l0_0.length : Int) 0 l0_0 a0_1 l0_2) else (some ((-1), (-1), (-1), t266)))) = some (r1, r2, r3, r4) := h
 clear h
 replace H := Option.bind_eq_some_iff.mp H
 obtain ⟨t266, A20, H⟩ := H
 replace H : (if t266 = 0 then (fun_Check.l0 k (l0_0.length : Int) 0 l0_0 a0_1 l0_2) else (some ((-1), (-1), (-1), t266))) = some (r1, r2, r3, r4) := H
 have A2 := Aside0.mk A20
 clear A20
 by_cases c3 : t266 = 0
 ·rw [if_pos c3] at H
  have c3b0 : (t266 == 0) = true := beq_iff_eq.mpr c3
  have c3b1 : (t266 != 0) = false := bne_eq_false_iff_eq.mpr c3
  clear c3
  have H' := Aside0.mk H
  clear H
  go_enter Try.func9, Try.ntmps9
  go_wp2_with (first | ((with_reducible refine gate_dst (N := 1) rfl ?_); refine box_event ?hg (N := 1) ?hd (cs := #[.slice A0_0 l0_0.length c0_0, .int .i64 a0_1, .slice A0_2 l0_2.length c0_2]) (t := 25) ?hr ?_; (case hd => rfl); (case hg => rfl); (case hr => first | (go_simp; done) | (go_simp; rfl)); intro gb264 hg w4 hbox hb; have n0_ := Aside0.mk (below_step (zB) hb); have n1_ := Aside0.mk (hbox); have n2_ := Aside0.mk (zH hg : w.heap.size ≤ gb264); have n3_ := Aside0.mk (zH hg : w.heap.size ≤ gb264); clear HB; have HB := n0_; have BK264 := n1_; have GW264 := n2_; have GE264 := n3_; clear n0_ n1_ n2_ n3_; clear hb hbox hg) | ((with_reducible refine gate_dst (N := 2) rfl ?_); refine box_event ?hg (N := 2) ?hd (cs := #[.int .i64 0, .int .i64 0, .int .i64 0, .int .i64 0]) (t := 30) ?hr ?_; (case hd => rfl); (case hg => rfl); (case hr => first | (go_simp; done) | (go_simp; rfl)); intro gb265 hg w5 hbox hb; have n0_ := Aside0.mk (blk_below (g := gb264) (o := .cells #[.slice A0_0 l0_0.length c0_0, .int .i64 a0_1, .slice A0_2 l0_2.length c0_2] 25 (0, 0)) (zK BK264.out) hb); have n1_ := Aside0.mk (below_step (zG) hb); have n2_ := Aside0.mk (hbox); have n3_ := Aside0.mk ((by rw [hg]; exact (below_size (zG)) : w.heap.size ≤ gb265)); have n4_ := Aside0.mk ((by rw [hg]; exact (below_size (zG)) : w.heap.size ≤ gb265)); have n5_ := Aside0.mk ((by rw [hg]; exact Nat.ne_of_lt (blk_lt (g := gb264) (o := .cells #[.slice A0_0 l0_0.length c0_0, .int .i64 a0_1, .slice A0_2 l0_2.length c0_2] 25 (0, 0)) (zK BK264.out)) : gb264 ≠ gb265)); have n6_ := Aside0.mk ((by rw [hg]; exact Nat.ne_of_gt (blk_lt (g := gb264) (o := .cells #[.slice A0_0 l0_0.length c0_0, .int .i64 a0_1, .slice A0_2 l0_2.length c0_2] 25 (0, 0)) (zK BK264.out)) : gb265 ≠ gb264)); clear BK264; clear HB; have BK264 := n0_; have HB := n1_; have BK265 := n2_; have GW265 := n3_; have GE265 := n4_; have NB264_265 := n5_; have NB265_264 := n6_; clear n0_ n1_ n2_ n3_ n4_ n5_ n6_; clear hb hbox hg; have hnb6 := NB264_265.out; have hnc6 := NB265_264.out; obtain ⟨hcz7_0, hcz7_1, hcz7_2⟩ := zc3 BK264.out; obtain ⟨hfz7_0, hfz7_1, hfz7_2⟩ := zf3 BK264.out) | ((with_reducible refine gate_callee (f := 24) rfl ?_); refine goesL_ (some 7) rfl rfl Try.func24 (by kernel_rfl) rfl #[.agg #[.slice A0_0 l0_0.length c0_0, .int .i64 a0_1, .slice A0_2 l0_2.length c0_2]] rfl zE ?_; (with_reducible refine (fun_whole.calls k _ _ l0_0 a0_1 _ _ l0_2 t266 _ ?side1 ?side2 ?side3 ?side4 A2.out).mono ?_); (case side1 => exact zC (Kd.C_below HR0_0.out HB.out)); (case side2 => exact HC0_0.out); (case side3 => exact zC (Kd.C_below HR0_2.out HB.out)); (case side4 => exact HC0_2.out); rintro e w8 ⟨rfl, hb⟩; refine ⟨_, rfl, ?_⟩; have n0_ := Aside0.mk (blk_below (g := gb264) (o := .cells #[.slice A0_0 l0_0.length c0_0, .int .i64 a0_1, .slice A0_2 l0_2.length c0_2] 25 (0, 0)) (zK BK264.out) hb); have n1_ := Aside0.mk (blk_below (g := gb265) (o := .cells #[.int .i64 0, .int .i64 0, .int .i64 0, .int .i64 0] 30 (0, 0)) (zK BK265.out) hb); have n2_ := Aside0.mk (below_step (zG) hb); clear BK264; clear BK265; clear HB; have BK264 := n0_; have BK265 := n1_; have HB := n2_; clear n0_ n1_ n2_; (try clear hb); (try clear hb2); (try clear hk); (try clear hi); obtain ⟨hcz9_0, hcz9_1, hcz9_2⟩ := zc3 BK264.out; obtain ⟨hfz9_0, hfz9_1, hfz9_2⟩ := zf3 BK264.out))
  go_loopg [15] k (fun kq v15 w' => ∃ (x15_1 : Int) (x266000_1 : Int) (x266001_1 : Int) (x266002_1 : Int) (x266003_1 : Int), v15 = .int .i64 x15_1 ∧ Aside0 (fun_Check.l0 kq (l0_0.length : Int) x15_1 l0_0 a0_1 l0_2 = some (r1, r2, r3, r4)) ∧ Aside0 (kq ≤ k) ∧ Aside0 (w'.heap[gb264]? = some (.cells #[(.slice A0_0 l0_0.length c0_0), .int .i64 a0_1, (.slice A0_2 l0_2.length c0_2)] 25 (0, 0))) ∧ Aside0 (w'.heap[gb265]? = some (.cells #[.int .i64 x266000_1, .int .i64 x266001_1, .int .i64 x266002_1, .int .i64 x266003_1] 30 (0, 0))) ∧ Aside0 (Below w.heap.size w w'))
  case atStart => exact ⟨(0), (0), (0), (0), (0), zQ, H', ⟨Nat.le_refl _⟩, ⟨zK BK264.out⟩, ⟨zK BK265.out⟩, ⟨zG⟩⟩
  case round =>
   clear H'
   (try clear c2); (try clear p2); (try clear c3); (try clear c3b0); (try clear c3b1); (try clear c6); (try clear c9); (try clear hcz7_0 hcz7_1 hcz7_2); (try clear hcz9_0 hcz9_1 hcz9_2); (try clear hfz7_0 hfz7_1 hfz7_2); (try clear hfz9_0 hfz9_1 hfz9_2)
   obtain ⟨x15_1, x266000_1, x266001_1, x266002_1, x266003_1, rfl, HA, HK1, BK264, BK265, HB⟩ := hrel
   cases gk with
   | zero => exact absurd HA.out (by simp [fun_Check.l0])
   | succ k1 =>
    have H := HA.out
    clear HA
    simp only [fun_Check.l0] at H
    by_cases c10 : x15_1 < (l0_0.length : Int)
    ·rw [if_pos c10] at H
     have c10b0 : decide (x15_1 < (l0_0.length : Int)) = true := decide_eq_true c10
     clear c10
     replace H := Option.bind_eq_some_iff.mp H
     obtain ⟨⟨t267, t268, t269, t270⟩, A110, H⟩ := H
     replace H : (if t270 = 0 then (fun_Check.l0 k1 (l0_0.length : Int) (wrap64 (x15_1 + 1)) l0_0 a0_1 l0_2) else (some (t267, t268, t269, t270))) = some (r1, r2, r3, r4) := H
     have A11 := Aside0.mk A110
     clear A110
     by_cases c12 : t270 = 0
     ·rw [if_pos c12] at H
      have c12b0 : (t270 == 0) = true := beq_iff_eq.mpr c12
      have c12b1 : (t270 != 0) = false := bne_eq_false_iff_eq.mpr c12
      clear c12
      have H' := Aside0.mk H
      clear H
      have hnb13 := NB264_265.out
      have hnc13 := NB265_264.out
      have hcz14_0 : wr.cell? ⟨gb264, 0, none⟩ = some (.slice A0_0 l0_0.length c0_0) := (blk_cell BK264.out 0).trans rfl
      have hcz14_1 : wr.cell? ⟨gb264, 1, none⟩ = some (.int .i64 a0_1) := (blk_cell BK264.out 1).trans rfl
      have hcz14_2 : wr.cell? ⟨gb264, 2, none⟩ = some (.slice A0_2 l0_2.length c0_2) := (blk_cell BK264.out 2).trans rfl
      have hfz14_0 := blk_frozen BK264.out 0
      have hfz14_1 := blk_frozen BK264.out 1
      have hfz14_2 := blk_frozen BK264.out 2
      go_wp2_with (first | ((with_reducible refine gate_callee (f := 25) rfl ?_); refine goesL_ (some 20) rfl rfl Try.func25 (by kernel_rfl) rfl #[.agg #[.slice A0_0 l0_0.length c0_0, .int .i64 a0_1, .slice A0_2 l0_2.length c0_2], .int .i64 x15_1] rfl zE ?_; (with_reducible refine (fun_function.calls k1 _ _ l0_0 a0_1 _ _ l0_2 x15_1 t267 t268 t269 t270 _ ?side1 ?side2 ?side3 ?side4 A11.out).mono ?_); (case side1 => exact zC (Kd.C_below HR0_0.out HB.out)); (case side2 => exact HC0_0.out); (case side3 => exact zC (Kd.C_below HR0_2.out HB.out)); (case side4 => exact HC0_2.out); rintro e w15 ⟨rfl, hb⟩; refine ⟨_, rfl, ?_⟩; have n0_ := Aside0.mk (blk_below (g := gb264) (o := .cells #[.slice A0_0 l0_0.length c0_0, .int .i64 a0_1, .slice A0_2 l0_2.length c0_2] 25 (0, 0)) (zK BK264.out) hb); have n1_ := Aside0.mk (blk_below (g := gb265) (o := .cells #[.int .i64 x266000_1, .int .i64 x266001_1, .int .i64 x266002_1, .int .i64 x266003_1] 30 (0, 0)) (zK BK265.out) hb); have n2_ := Aside0.mk (below_step (zG) hb); clear BK264; clear BK265; clear HB; have BK264 := n0_; have BK265 := n1_; have HB := n2_; clear n0_ n1_ n2_; (try clear hb); (try clear hb2); (try clear hk); (try clear hi)) | ((with_reducible refine gate_dst (N := 5) rfl ?_); refine box_event ?hg (N := 5) ?hd (cs := #[.int .i64 0, .int .i64 0, .int .i64 0, .int .i64 0]) (t := 30) ?hr ?_; (case hd => rfl); (case hg => rfl); (case hr => first | (go_simp; done) | (go_simp; rfl)); intro gb271 hg w16 hbox hb; have n0_ := Aside0.mk (blk_below (g := gb264) (o := .cells #[.slice A0_0 l0_0.length c0_0, .int .i64 a0_1, .slice A0_2 l0_2.length c0_2] 25 (0, 0)) (zK BK264.out) hb); have n1_ := Aside0.mk (blk_below (g := gb265) (o := .cells #[.int .i64 x266000_1, .int .i64 x266001_1, .int .i64 x266002_1, .int .i64 x266003_1] 30 (0, 0)) (zK BK265.out) hb); have n2_ := Aside0.mk (below_step (zG) hb); have n3_ := Aside0.mk (hbox); have n4_ := Aside0.mk ((by rw [hg]; exact (below_size (zG)) : w.heap.size ≤ gb271)); have n5_ := Aside0.mk ((by rw [hg]; exact (below_size (zG)) : w.heap.size ≤ gb271)); have n6_ := Aside0.mk ((by rw [hg]; exact Nat.ne_of_lt (blk_lt (g := gb264) (o := .cells #[.slice A0_0 l0_0.length c0_0, .int .i64 a0_1, .slice A0_2 l0_2.length c0_2] 25 (0, 0)) (zK BK264.out)) : gb264 ≠ gb271)); have n7_ := Aside0.mk ((by rw [hg]; exact Nat.ne_of_gt (blk_lt (g := gb264) (o := .cells #[.slice A0_0 l0_0.length c0_0, .int .i64 a0_1, .slice A0_2 l0_2.length c0_2] 25 (0, 0)) (zK BK264.out)) : gb271 ≠ gb264)); have n8_ := Aside0.mk ((by rw [hg]; exact Nat.ne_of_lt (blk_lt (g := gb265) (o := .cells #[.int .i64 x266000_1, .int .i64 x266001_1, .int .i64 x266002_1, .int .i64 x266003_1] 30 (0, 0)) (zK BK265.out)) : gb265 ≠ gb271)); have n9_ := Aside0.mk ((by rw [hg]; exact Nat.ne_of_gt (blk_lt (g := gb265) (o := .cells #[.int .i64 x266000_1, .int .i64 x266001_1, .int .i64 x266002_1, .int .i64 x266003_1] 30 (0, 0)) (zK BK265.out)) : gb271 ≠ gb265)); clear BK264; clear BK265; clear HB; have BK264 := n0_; have BK265 := n1_; have HB := n2_; have BK271 := n3_; have GW271 := n4_; have GE271 := n5_; have NB264_271 := n6_; have NB271_264 := n7_; have NB265_271 := n8_; have NB271_265 := n9_; clear n0_ n1_ n2_ n3_ n4_ n5_ n6_ n7_ n8_ n9_; clear hb hbox hg; have hnb17 := NB271_264.out; have hnc17 := NB264_271.out; have hnb18 := NB271_265.out; have hnc18 := NB265_271.out; obtain ⟨hcz19_0, hcz19_1, hcz19_2, hcz19_3⟩ := zc4 BK271.out; obtain ⟨hfz19_0, hfz19_1, hfz19_2, hfz19_3⟩ := zf4 BK271.out))
      go_roundg k1
      case measure => have := HK1.out; omega
      case rel => exact ⟨(wrap64 (x15_1 + 1)), (x266000_1), (x266001_1), (x266002_1), (x266003_1), zQ, H', ⟨by have := HK1.out; omega⟩, ⟨by (with_reducible repeat (first | refine blk_drewN ?_ _ | refine blk_drew ?_ | refine blk_alloc ?_ _)); refine blk_far ?_ NB264_271.out _; (with_reducible repeat (first | refine blk_drewN ?_ _ | refine blk_drew ?_ | refine blk_alloc ?_ _)); refine blk_far ?_ NB264_271.out _; (with_reducible repeat (first | refine blk_drewN ?_ _ | refine blk_drew ?_ | refine blk_alloc ?_ _)); refine blk_far ?_ NB264_271.out _; (with_reducible repeat (first | refine blk_drewN ?_ _ | refine blk_drew ?_ | refine blk_alloc ?_ _)); refine blk_far ?_ NB264_271.out _; (with_reducible repeat (first | refine blk_drewN ?_ _ | refine blk_drew ?_ | refine blk_alloc ?_ _)); exact BK264.out⟩, ⟨by (with_reducible repeat (first | refine blk_drewN ?_ _ | refine blk_drew ?_ | refine blk_alloc ?_ _)); refine blk_far ?_ NB265_271.out _; (with_reducible repeat (first | refine blk_drewN ?_ _ | refine blk_drew ?_ | refine blk_alloc ?_ _)); refine blk_far ?_ NB265_271.out _; (with_reducible repeat (first | refine blk_drewN ?_ _ | refine blk_drew ?_ | refine blk_alloc ?_ _)); refine blk_far ?_ NB265_271.out _; (with_reducible repeat (first | refine blk_drewN ?_ _ | refine blk_drew ?_ | refine blk_alloc ?_ _)); refine blk_far ?_ NB265_271.out _; (with_reducible repeat (first | refine blk_drewN ?_ _ | refine blk_drew ?_ | refine blk_alloc ?_ _)); exact BK265.out⟩, ⟨zG⟩⟩
     ·rw [if_neg c12] at H
      have c12b0 : (t270 == 0) = false := beq_eq_false_iff_ne.mpr c12
      have c12b1 : (t270 != 0) = true := bne_iff_ne.mpr c12
      simp only [Option.some.injEq, Prod.mk.injEq] at H
      obtain ⟨rfl, rfl, rfl, rfl⟩ := H
      have hnb20 := NB264_265.out
      have hnc20 := NB265_264.out
      have hcz21_0 : wr.cell? ⟨gb264, 0, none⟩ = some (.slice A0_0 l0_0.length c0_0) := (blk_cell BK264.out 0).trans rfl
      have hcz21_1 : wr.cell? ⟨gb264, 1, none⟩ = some (.int .i64 a0_1) := (blk_cell BK264.out 1).trans rfl
      have hcz21_2 : wr.cell? ⟨gb264, 2, none⟩ = some (.slice A0_2 l0_2.length c0_2) := (blk_cell BK264.out 2).trans rfl
      have hfz21_0 := blk_frozen BK264.out 0
      have hfz21_1 := blk_frozen BK264.out 1
      have hfz21_2 := blk_frozen BK264.out 2
      go_wp2_with (first | ((with_reducible refine gate_callee (f := 25) rfl ?_); refine goesL_ (some 20) rfl rfl Try.func25 (by kernel_rfl) rfl #[.agg #[.slice A0_0 l0_0.length c0_0, .int .i64 a0_1, .slice A0_2 l0_2.length c0_2], .int .i64 x15_1] rfl zE ?_; (with_reducible refine (fun_function.calls k1 _ _ l0_0 a0_1 _ _ l0_2 x15_1 t267 t268 t269 t270 _ ?side1 ?side2 ?side3 ?side4 A11.out).mono ?_); (case side1 => exact zC (Kd.C_below HR0_0.out HB.out)); (case side2 => exact HC0_0.out); (case side3 => exact zC (Kd.C_below HR0_2.out HB.out)); (case side4 => exact HC0_2.out); rintro e w22 ⟨rfl, hb⟩; refine ⟨_, rfl, ?_⟩; have n0_ := Aside0.mk (blk_below (g := gb264) (o := .cells #[.slice A0_0 l0_0.length c0_0, .int .i64 a0_1, .slice A0_2 l0_2.length c0_2] 25 (0, 0)) (zK BK264.out) hb); have n1_ := Aside0.mk (blk_below (g := gb265) (o := .cells #[.int .i64 x266000_1, .int .i64 x266001_1, .int .i64 x266002_1, .int .i64 x266003_1] 30 (0, 0)) (zK BK265.out) hb); have n2_ := Aside0.mk (below_step (zG) hb); clear BK264; clear BK265; clear HB; have BK264 := n0_; have BK265 := n1_; have HB := n2_; clear n0_ n1_ n2_; (try clear hb); (try clear hb2); (try clear hk); (try clear hi)) | ((with_reducible refine gate_dst (N := 5) rfl ?_); refine box_event ?hg (N := 5) ?hd (cs := #[.int .i64 0, .int .i64 0, .int .i64 0, .int .i64 0]) (t := 30) ?hr ?_; (case hd => rfl); (case hg => rfl); (case hr => first | (go_simp; done) | (go_simp; rfl)); intro gb271 hg w23 hbox hb; have n0_ := Aside0.mk (blk_below (g := gb264) (o := .cells #[.slice A0_0 l0_0.length c0_0, .int .i64 a0_1, .slice A0_2 l0_2.length c0_2] 25 (0, 0)) (zK BK264.out) hb); have n1_ := Aside0.mk (blk_below (g := gb265) (o := .cells #[.int .i64 x266000_1, .int .i64 x266001_1, .int .i64 x266002_1, .int .i64 x266003_1] 30 (0, 0)) (zK BK265.out) hb); have n2_ := Aside0.mk (below_step (zG) hb); have n3_ := Aside0.mk (hbox); have n4_ := Aside0.mk ((by rw [hg]; exact (below_size (zG)) : w.heap.size ≤ gb271)); have n5_ := Aside0.mk ((by rw [hg]; exact (below_size (zG)) : w.heap.size ≤ gb271)); have n6_ := Aside0.mk ((by rw [hg]; exact Nat.ne_of_lt (blk_lt (g := gb264) (o := .cells #[.slice A0_0 l0_0.length c0_0, .int .i64 a0_1, .slice A0_2 l0_2.length c0_2] 25 (0, 0)) (zK BK264.out)) : gb264 ≠ gb271)); have n7_ := Aside0.mk ((by rw [hg]; exact Nat.ne_of_gt (blk_lt (g := gb264) (o := .cells #[.slice A0_0 l0_0.length c0_0, .int .i64 a0_1, .slice A0_2 l0_2.length c0_2] 25 (0, 0)) (zK BK264.out)) : gb271 ≠ gb264)); have n8_ := Aside0.mk ((by rw [hg]; exact Nat.ne_of_lt (blk_lt (g := gb265) (o := .cells #[.int .i64 x266000_1, .int .i64 x266001_1, .int .i64 x266002_1, .int .i64 x266003_1] 30 (0, 0)) (zK BK265.out)) : gb265 ≠ gb271)); have n9_ := Aside0.mk ((by rw [hg]; exact Nat.ne_of_gt (blk_lt (g := gb265) (o := .cells #[.int .i64 x266000_1, .int .i64 x266001_1, .int .i64 x266002_1, .int .i64 x266003_1] 30 (0, 0)) (zK BK265.out)) : gb271 ≠ gb265)); clear BK264; clear BK265; clear HB; have BK264 := n0_; have BK265 := n1_; have HB := n2_; have BK271 := n3_; have GW271 := n4_; have GE271 := n5_; have NB264_271 := n6_; have NB271_264 := n7_; have NB265_271 := n8_; have NB271_265 := n9_; clear n0_ n1_ n2_ n3_ n4_ n5_ n6_ n7_ n8_ n9_; clear hb hbox hg; have hnb24 := NB271_264.out; have hnc24 := NB264_271.out; have hnb25 := NB271_265.out; have hnc25 := NB265_271.out; obtain ⟨hcz26_0, hcz26_1, hcz26_2, hcz26_3⟩ := zc4 BK271.out; obtain ⟨hfz26_0, hfz26_1, hfz26_2, hfz26_3⟩ := zf4 BK271.out; obtain ⟨hcz27_0, hcz27_1, hcz27_2, hcz27_3⟩ := zc4 BK265.out; obtain ⟨hfz27_0, hfz27_1, hfz27_2, hfz27_3⟩ := zf4 BK265.out))
      refine bodyPost_ret (results_cell_row rfl _ _ gb265 30 #[.int .i64 t267, .int .i64 t268, .int .i64 t269, .int .i64 t270] (0, 0) _ rfl (by (with_reducible repeat (first | refine blk_drewN ?_ _ | refine blk_drew ?_ | refine blk_alloc ?_ _)); refine blk_put (cs := #[.int .i64 t267, .int .i64 t268, .int .i64 t269, .int .i64 x266003_1]) ?_ 3 _ rfl; (with_reducible repeat (first | refine blk_drewN ?_ _ | refine blk_drew ?_ | refine blk_alloc ?_ _)); refine blk_put (cs := #[.int .i64 t267, .int .i64 t268, .int .i64 x266002_1, .int .i64 x266003_1]) ?_ 2 _ rfl; (with_reducible repeat (first | refine blk_drewN ?_ _ | refine blk_drew ?_ | refine blk_alloc ?_ _)); refine blk_put (cs := #[.int .i64 t267, .int .i64 x266001_1, .int .i64 x266002_1, .int .i64 x266003_1]) ?_ 1 _ rfl; (with_reducible repeat (first | refine blk_drewN ?_ _ | refine blk_drew ?_ | refine blk_alloc ?_ _)); refine blk_put (cs := #[.int .i64 x266000_1, .int .i64 x266001_1, .int .i64 x266002_1, .int .i64 x266003_1]) ?_ 0 _ rfl; (with_reducible repeat (first | refine blk_drewN ?_ _ | refine blk_drew ?_ | refine blk_alloc ?_ _)); refine blk_far ?_ NB265_271.out _; (with_reducible repeat (first | refine blk_drewN ?_ _ | refine blk_drew ?_ | refine blk_alloc ?_ _)); refine blk_far ?_ NB265_271.out _; (with_reducible repeat (first | refine blk_drewN ?_ _ | refine blk_drew ?_ | refine blk_alloc ?_ _)); refine blk_far ?_ NB265_271.out _; (with_reducible repeat (first | refine blk_drewN ?_ _ | refine blk_drew ?_ | refine blk_alloc ?_ _)); refine blk_far ?_ NB265_271.out _; (with_reducible repeat (first | refine blk_drewN ?_ _ | refine blk_drew ?_ | refine blk_alloc ?_ _)); exact BK265.out) Try.underlying30 rfl (by kernel_rfl)) rfl ?_
      exact ⟨zV, zG⟩
    ·rw [if_neg c10] at H
     have c10b0 : decide (x15_1 < (l0_0.length : Int)) = false := decide_eq_false c10
     clear c10
     simp only [Option.some.injEq, Prod.mk.injEq] at H
     obtain ⟨rfl, rfl, rfl, rfl⟩ := H
     have hnb28 := NB265_264.out
     have hnc28 := NB264_265.out
     have hcz29_0 : wr.cell? ⟨gb265, 0, none⟩ = some (.int .i64 x266000_1) := (blk_cell BK265.out 0).trans rfl
     have hcz29_1 : wr.cell? ⟨gb265, 1, none⟩ = some (.int .i64 x266001_1) := (blk_cell BK265.out 1).trans rfl
     have hcz29_2 : wr.cell? ⟨gb265, 2, none⟩ = some (.int .i64 x266002_1) := (blk_cell BK265.out 2).trans rfl
     have hcz29_3 : wr.cell? ⟨gb265, 3, none⟩ = some (.int .i64 x266003_1) := (blk_cell BK265.out 3).trans rfl
     have hfz29_0 := blk_frozen BK265.out 0
     have hfz29_1 := blk_frozen BK265.out 1
     have hfz29_2 := blk_frozen BK265.out 2
     have hfz29_3 := blk_frozen BK265.out 3
     go_wp2
     refine bodyPost_ret (results_cell_row rfl _ _ gb265 30 #[.int .i64 0, .int .i64 0, .int .i64 0, .int .i64 0] (0, 0) _ rfl (by (with_reducible repeat (first | refine blk_drewN ?_ _ | refine blk_drew ?_ | refine blk_alloc ?_ _)); refine blk_put (cs := #[.int .i64 0, .int .i64 0, .int .i64 0, .int .i64 x266003_1]) ?_ 3 _ rfl; (with_reducible repeat (first | refine blk_drewN ?_ _ | refine blk_drew ?_ | refine blk_alloc ?_ _)); refine blk_put (cs := #[.int .i64 0, .int .i64 0, .int .i64 x266002_1, .int .i64 x266003_1]) ?_ 2 _ rfl; (with_reducible repeat (first | refine blk_drewN ?_ _ | refine blk_drew ?_ | refine blk_alloc ?_ _)); refine blk_put (cs := #[.int .i64 0, .int .i64 x266001_1, .int .i64 x266002_1, .int .i64 x266003_1]) ?_ 1 _ rfl; (with_reducible repeat (first | refine blk_drewN ?_ _ | refine blk_drew ?_ | refine blk_alloc ?_ _)); refine blk_put (cs := #[.int .i64 x266000_1, .int .i64 x266001_1, .int .i64 x266002_1, .int .i64 x266003_1]) ?_ 0 _ rfl; (with_reducible repeat (first | refine blk_drewN ?_ _ | refine blk_drew ?_ | refine blk_alloc ?_ _)); exact BK265.out) Try.underlying30 rfl (by kernel_rfl)) rfl ?_
     exact ⟨zV, zG⟩
 ·rw [if_neg c3] at H
  have c3b0 : (t266 == 0) = false := beq_eq_false_iff_ne.mpr c3
  have c3b1 : (t266 != 0) = true := bne_iff_ne.mpr c3
  simp only [Option.some.injEq, Prod.mk.injEq] at H
  obtain ⟨rfl, rfl, rfl, rfl⟩ := H
  go_enter Try.func9, Try.ntmps9
  go_wp2_with (first | ((with_reducible refine gate_dst (N := 1) rfl ?_); refine box_event ?hg (N := 1) ?hd (cs := #[.slice A0_0 l0_0.length c0_0, .int .i64 a0_1, .slice A0_2 l0_2.length c0_2]) (t := 25) ?hr ?_; (case hd => rfl); (case hg => rfl); (case hr => first | (go_simp; done) | (go_simp; rfl)); intro gb264 hg w30 hbox hb; have n0_ := Aside0.mk (below_step (zB) hb); have n1_ := Aside0.mk (hbox); have n2_ := Aside0.mk (zH hg : w.heap.size ≤ gb264); have n3_ := Aside0.mk (zH hg : w.heap.size ≤ gb264); clear HB; have HB := n0_; have BK264 := n1_; have GW264 := n2_; have GE264 := n3_; clear n0_ n1_ n2_ n3_; clear hb hbox hg) | ((with_reducible refine gate_dst (N := 2) rfl ?_); refine box_event ?hg (N := 2) ?hd (cs := #[.int .i64 0, .int .i64 0, .int .i64 0, .int .i64 0]) (t := 30) ?hr ?_; (case hd => rfl); (case hg => rfl); (case hr => first | (go_simp; done) | (go_simp; rfl)); intro gb265 hg w31 hbox hb; have n0_ := Aside0.mk (blk_below (g := gb264) (o := .cells #[.slice A0_0 l0_0.length c0_0, .int .i64 a0_1, .slice A0_2 l0_2.length c0_2] 25 (0, 0)) (zK BK264.out) hb); have n1_ := Aside0.mk (below_step (zG) hb); have n2_ := Aside0.mk (hbox); have n3_ := Aside0.mk ((by rw [hg]; exact (below_size (zG)) : w.heap.size ≤ gb265)); have n4_ := Aside0.mk ((by rw [hg]; exact (below_size (zG)) : w.heap.size ≤ gb265)); have n5_ := Aside0.mk ((by rw [hg]; exact Nat.ne_of_lt (blk_lt (g := gb264) (o := .cells #[.slice A0_0 l0_0.length c0_0, .int .i64 a0_1, .slice A0_2 l0_2.length c0_2] 25 (0, 0)) (zK BK264.out)) : gb264 ≠ gb265)); have n6_ := Aside0.mk ((by rw [hg]; exact Nat.ne_of_gt (blk_lt (g := gb264) (o := .cells #[.slice A0_0 l0_0.length c0_0, .int .i64 a0_1, .slice A0_2 l0_2.length c0_2] 25 (0, 0)) (zK BK264.out)) : gb265 ≠ gb264)); clear BK264; clear HB; have BK264 := n0_; have HB := n1_; have BK265 := n2_; have GW265 := n3_; have GE265 := n4_; have NB264_265 := n5_; have NB265_264 := n6_; clear n0_ n1_ n2_ n3_ n4_ n5_ n6_; clear hb hbox hg; have hnb32 := NB264_265.out; have hnc32 := NB265_264.out; obtain ⟨hcz33_0, hcz33_1, hcz33_2⟩ := zc3 BK264.out; obtain ⟨hfz33_0, hfz33_1, hfz33_2⟩ := zf3 BK264.out) | ((with_reducible refine gate_callee (f := 24) rfl ?_); refine goesL_ (some 7) rfl rfl Try.func24 (by kernel_rfl) rfl #[.agg #[.slice A0_0 l0_0.length c0_0, .int .i64 a0_1, .slice A0_2 l0_2.length c0_2]] rfl zE ?_; (with_reducible refine (fun_whole.calls k _ _ l0_0 a0_1 _ _ l0_2 t266 _ ?side1 ?side2 ?side3 ?side4 A2.out).mono ?_); (case side1 => exact zC (Kd.C_below HR0_0.out HB.out)); (case side2 => exact HC0_0.out); (case side3 => exact zC (Kd.C_below HR0_2.out HB.out)); (case side4 => exact HC0_2.out); rintro e w34 ⟨rfl, hb⟩; refine ⟨_, rfl, ?_⟩; have n0_ := Aside0.mk (blk_below (g := gb264) (o := .cells #[.slice A0_0 l0_0.length c0_0, .int .i64 a0_1, .slice A0_2 l0_2.length c0_2] 25 (0, 0)) (zK BK264.out) hb); have n1_ := Aside0.mk (blk_below (g := gb265) (o := .cells #[.int .i64 0, .int .i64 0, .int .i64 0, .int .i64 0] 30 (0, 0)) (zK BK265.out) hb); have n2_ := Aside0.mk (below_step (zG) hb); clear BK264; clear BK265; clear HB; have BK264 := n0_; have BK265 := n1_; have HB := n2_; clear n0_ n1_ n2_; (try clear hb); (try clear hb2); (try clear hk); (try clear hi); obtain ⟨hcz35_0, hcz35_1, hcz35_2, hcz35_3⟩ := zc4 BK265.out; obtain ⟨hfz35_0, hfz35_1, hfz35_2, hfz35_3⟩ := zf4 BK265.out))
  refine bodyPost_ret (results_cell_row rfl _ _ gb265 30 #[.int .i64 (-1), .int .i64 (-1), .int .i64 (-1), .int .i64 t266] (0, 0) _ rfl (by (with_reducible repeat (first | refine blk_drewN ?_ _ | refine blk_drew ?_ | refine blk_alloc ?_ _)); refine blk_put (cs := #[.int .i64 (-1), .int .i64 (-1), .int .i64 (-1), .int .i64 0]) ?_ 3 _ rfl; (with_reducible repeat (first | refine blk_drewN ?_ _ | refine blk_drew ?_ | refine blk_alloc ?_ _)); refine blk_put (cs := #[.int .i64 (-1), .int .i64 (-1), .int .i64 0, .int .i64 0]) ?_ 2 _ rfl; (with_reducible repeat (first | refine blk_drewN ?_ _ | refine blk_drew ?_ | refine blk_alloc ?_ _)); refine blk_put (cs := #[.int .i64 (-1), .int .i64 0, .int .i64 0, .int .i64 0]) ?_ 1 _ rfl; (with_reducible repeat (first | refine blk_drewN ?_ _ | refine blk_drew ?_ | refine blk_alloc ?_ _)); refine blk_put (cs := #[.int .i64 0, .int .i64 0, .int .i64 0, .int .i64 0]) ?_ 0 _ rfl; (with_reducible repeat (first | refine blk_drewN ?_ _ | refine blk_drew ?_ | refine blk_alloc ?_ _)); exact BK265.out) Try.underlying30 rfl (by kernel_rfl)) rfl ?_
  exact ⟨zV, zG⟩
def api_Instr_63.l0 : Nat → List (S42) → Int → Int → Option (Int)
 | 0, _, _, _ => none
 | k + 1, x0, x7, x8 => if x8 < x7 then (if 0 ≤ x8 then (if x8 < (x0.length : Int) then ((fun_Plain_1.f ((rd_T42 x0 x8).f0) ((rd_T42 x0 x8).f1) ((rd_T42 x0 x8).f2) ((rd_T42 x0 x8).f3) ((rd_T42 x0 x8).f4) ((rd_T42 x0 x8).f5) ((rd_T42 x0 x8).f6) ((rd_T42 x0 x8).f7) ((rd_T42 x0 x8).f8)).bind fun t273 => (if t273 = true then (some x8) else (api_Instr_63.l0 k x0 x7 (wrap64 (x8 + 1))))) else (none)) else (none)) else (some (-1))
def api_Instr_63.f (k : Nat) (l0 : List (S42))  : Option (Int) := api_Instr_63.l0 k l0 (l0.length : Int) 0
set_option maxHeartbeats 8000000 in
set_option maxRecDepth 100000 in
theorem api_Instr_63.calls (k : Nat) (A0 : Option Addr) (c0 : Nat) (l0 : List (S42))  (r : Int) (w : World) (hr0 : Kd.C k42 w A0 l0.length l0) (hc0 : l0.length ≤ c0) (h : api_Instr_63.f k l0 = some r) :
  Calls Try.prog 63 #[.slice A0 l0.length c0, .func (.func 29) #[] #[]] w fun e w' => e = .returned (.int .i64 r) ∧ Below w.heap.size w w' := by
 have hu42 := Try.underlying42
 have HR0 := Aside0.mk hr0
 have HC0 := Aside0.mk hc0
 clear hr0 hc0
 have HB := Aside0.mk (Below.refl w.heap.size w)
 have H : (api_Instr_63.l0 k l0 (l0.length : Int) 0) = some r := h
 clear h
 have H' := Aside0.mk H
 clear H
 go_enter Try.func63, Try.ntmps63
 go_wp2
 go_loopg [8] k (fun kq v8 w' => ∃ (x8_1 : Int), v8 = .int .i64 x8_1 ∧ Aside0 (api_Instr_63.l0 kq l0 (l0.length : Int) x8_1 = some r) ∧ Aside0 (kq ≤ k) ∧ Aside0 (Below w.heap.size w w'))
 case atStart => exact ⟨(0), zQ, H', ⟨Nat.le_refl _⟩, ⟨zB⟩⟩
 case round =>
  clear H'
  try clear p2
  obtain ⟨x8_1, rfl, HA, HK1, HB⟩ := hrel
  cases gk with
  | zero => exact absurd HA.out (by simp [api_Instr_63.l0])
  | succ k1 =>
   have H := HA.out
   clear HA
   simp only [api_Instr_63.l0] at H
   by_cases c3 : x8_1 < (l0.length : Int)
   ·rw [if_pos c3] at H
    have c3b0 : decide (x8_1 < (l0.length : Int)) = true := decide_eq_true c3
    clear c3
    by_cases c4 : 0 ≤ x8_1
    ·rw [if_pos c4] at H
     have c4b0 : decide (0 ≤ x8_1) = true := decide_eq_true c4
     clear c4
     by_cases c5 : x8_1 < (l0.length : Int)
     ·rw [if_pos c5] at H
      have c5b0 : decide (x8_1 < (l0.length : Int)) = true := decide_eq_true c5
      clear c5
      replace H := Option.bind_eq_some_iff.mp H
      obtain ⟨t273, A60, H⟩ := H
      replace H : (if t273 = true then (some x8_1) else (api_Instr_63.l0 k1 l0 (l0.length : Int) (wrap64 (x8_1 + 1)))) = some r := H
      have A6 := Aside0.mk A60
      clear A60
      by_cases c7 : t273 = true
      ·subst c7
       have H1 : (some x8_1) = some r := by rw [if_pos rfl] at H; exact H
       clear H
       have H := H1
       clear H1
       obtain rfl := Option.some.inj H
       have p272 : 0 ≤ (x8_1 : Int) := zO
       have q272 : x8_1 < (l0.length : Int) := zO
       obtain ⟨ad272, A272_8, c272_8, e272, hx272_0, hx272_1, hx272_2, hx272_3, hx272_4, hx272_5, hx272_6, hx272_7, hx272_8, hl272_8, hi272_8⟩ := at_T42 HR0.out x8_1 p272 q272
       cases e272
       replace hx272_0 := pw_cell_below HB.out hx272_0
       replace hx272_1 := pw_cell_below HB.out hx272_1
       replace hx272_2 := pw_cell_below HB.out hx272_2
       replace hx272_3 := pw_cell_below HB.out hx272_3
       replace hx272_4 := pw_cell_below HB.out hx272_4
       replace hx272_5 := pw_cell_below HB.out hx272_5
       replace hx272_6 := pw_cell_below HB.out hx272_6
       replace hx272_7 := pw_cell_below HB.out hx272_7
       replace hx272_8 := pw_cell_below HB.out hx272_8
       have HR272_8 := Aside0.mk hi272_8
       have HC272_8 := Aside0.mk hl272_8
       clear hi272_8 hl272_8
       replace p272 := eq_true p272
       replace q272 := eq_true q272
       go_wp2_with (first | (go_at_call 29; (with_reducible refine (fun_Plain_1.calls ((rd_T42 l0 x8_1).f0) ((rd_T42 l0 x8_1).f1) ((rd_T42 l0 x8_1).f2) ((rd_T42 l0 x8_1).f3) ((rd_T42 l0 x8_1).f4) ((rd_T42 l0 x8_1).f5) ((rd_T42 l0 x8_1).f6) ((rd_T42 l0 x8_1).f7) _ _ ((rd_T42 l0 x8_1).f8) true _ ?side1 ?side2 A6.out).mono ?_); (case side1 => exact zC (Kd.C_below HR272_8.out HB.out)); (case side2 => exact HC272_8.out); rintro e w8 ⟨rfl, hb⟩; have n0_ := Aside0.mk (below_step (zB) hb); clear HB; have HB := n0_; clear n0_; (try clear hb); (try clear hb2); (try clear hk); (try clear hi)))
       go_ret
       exact ⟨zV, zB⟩
      ·replace c7 := Bool.eq_false_iff.mpr c7
       subst c7
       have H1 : (api_Instr_63.l0 k1 l0 (l0.length : Int) (wrap64 (x8_1 + 1))) = some r := by rw [if_neg (show ¬ (false = true) by decide)] at H; exact H
       clear H
       have H := H1
       clear H1
       have H' := Aside0.mk H
       clear H
       have p272 : 0 ≤ (x8_1 : Int) := zO
       have q272 : x8_1 < (l0.length : Int) := zO
       obtain ⟨ad272, A272_8, c272_8, e272, hx272_0, hx272_1, hx272_2, hx272_3, hx272_4, hx272_5, hx272_6, hx272_7, hx272_8, hl272_8, hi272_8⟩ := at_T42 HR0.out x8_1 p272 q272
       cases e272
       replace hx272_0 := pw_cell_below HB.out hx272_0
       replace hx272_1 := pw_cell_below HB.out hx272_1
       replace hx272_2 := pw_cell_below HB.out hx272_2
       replace hx272_3 := pw_cell_below HB.out hx272_3
       replace hx272_4 := pw_cell_below HB.out hx272_4
       replace hx272_5 := pw_cell_below HB.out hx272_5
       replace hx272_6 := pw_cell_below HB.out hx272_6
       replace hx272_7 := pw_cell_below HB.out hx272_7
       replace hx272_8 := pw_cell_below HB.out hx272_8
       have HR272_8 := Aside0.mk hi272_8
       have HC272_8 := Aside0.mk hl272_8
       clear hi272_8 hl272_8
       replace p272 := eq_true p272
       replace q272 := eq_true q272
       go_wp2_with (first | (go_at_call 29; (with_reducible refine (fun_Plain_1.calls ((rd_T42 l0 x8_1).f0) ((rd_T42 l0 x8_1).f1) ((rd_T42 l0 x8_1).f2) ((rd_T42 l0 x8_1).f3) ((rd_T42 l0 x8_1).f4) ((rd_T42 l0 x8_1).f5) ((rd_T42 l0 x8_1).f6) ((rd_T42 l0 x8_1).f7) _ _ ((rd_T42 l0 x8_1).f8) false _ ?side1 ?side2 A6.out).mono ?_); (case side1 => exact zC (Kd.C_below HR272_8.out HB.out)); (case side2 => exact HC272_8.out); rintro e w9 ⟨rfl, hb⟩; have n0_ := Aside0.mk (below_step (zB) hb); clear HB; have HB := n0_; clear n0_; (try clear hb); (try clear hb2); (try clear hk); (try clear hi)))
       go_roundg k1
       case measure => have := HK1.out; omega
       case rel => exact ⟨(wrap64 (x8_1 + 1)), zQ, H', ⟨by have := HK1.out; omega⟩, ⟨zB⟩⟩
     ·rw [if_neg c5] at H
      exact absurd H (by simp)
    ·rw [if_neg c4] at H
     exact absurd H (by simp)
   ·rw [if_neg c3] at H
    have c3b0 : decide (x8_1 < (l0.length : Int)) = false := decide_eq_false c3
    clear c3
    obtain rfl := Option.some.inj H
    go_wp2
    go_ret
    exact ⟨zV, zB⟩
def api_Instr_28.f (k : Nat) (l0 : List (S42))  : Option (Bool) := (api_Instr_63.f k l0).bind fun t274 => (some (decide (t274 ≥ 0)))
set_option maxHeartbeats 8000000 in
set_option maxRecDepth 100000 in
theorem api_Instr_28.calls (k : Nat) (A0 : Option Addr) (c0 : Nat) (l0 : List (S42))  (r : Bool) (w : World) (hr0 : Kd.C k42 w A0 l0.length l0) (hc0 : l0.length ≤ c0) (h : api_Instr_28.f k l0 = some r) :
  Calls Try.prog 28 #[.slice A0 l0.length c0, .func (.func 29) #[] #[]] w fun e w' => e = .returned (.bool r) ∧ Below w.heap.size w w' := by
 have HR0 := Aside0.mk hr0
 have HC0 := Aside0.mk hc0
 clear hr0 hc0
 have HB := Aside0.mk (Below.refl w.heap.size w)
 have H : ((api_Instr_63.f k l0).bind fun t274 => (some (decide (t274 ≥ 0)))) = some r := h
 clear h
 replace H := Option.bind_eq_some_iff.mp H
 obtain ⟨t274, A30, H⟩ := H
 replace H : (some (decide (t274 ≥ 0))) = some r := H
 have A3 := Aside0.mk A30
 clear A30
 obtain rfl := Option.some.inj H
 go_enter Try.func28, Try.ntmps28
 go_wp2_with (first | (go_at_call 63; (with_reducible refine (api_Instr_63.calls k _ _ l0  t274 _ ?side1 ?side2 A3.out).mono ?_); (case side1 => exact zC HR0.out); (case side2 => exact HC0.out); rintro e w4 ⟨rfl, hb⟩; have n0_ := Aside0.mk (below_step (zB) hb); clear HB; have HB := n0_; clear n0_; (try clear hb); (try clear hb2); (try clear hk); (try clear hi)))
 go_ret
 exact ⟨zV, zB⟩
mutual
def fun_Plain.l0 : Nat → List (S39) → Int → Int → Option (Bool)
 | 0, _, _, _ => none
 | k + 1, x12, x13, x14 => if x14 < x13 then (if 0 ≤ x14 then (if x14 < (x12.length : Int) then (fun_Plain.l1 k x12 x13 x14 ((rd_T39 x12 x14).f4) (((rd_T39 x12 x14).f4).length : Int) 0) else (none)) else (none)) else (some true)
def fun_Plain.l1 : Nat → List (S39) → Int → Int → List (List (S42)) → Int → Int → Option (Bool)
 | 0, _, _, _, _, _, _ => none
 | k + 1, x12, x13, x14, x19, x20, x21 => if x21 < x20 then (if 0 ≤ x21 then (if x21 < (x19.length : Int) then ((api_Instr_28.f k (rd_L5 x19 x21)).bind fun t283 => (if t283 = true then (some false) else (fun_Plain.l1 k x12 x13 x14 x19 x20 (wrap64 (x21 + 1))))) else (none)) else (none)) else (fun_Plain.l0 k x12 x13 (wrap64 (x14 + 1)))
end
def fun_Plain.f (k : Nat) (l0_0 : List (S39)) (a0_1 : Int) (l0_2 : List (S48)) : Option (Bool) := (fun_Check.f k l0_0 a0_1 l0_2).bind fun bt276 => (if bt276.2.2.2 = 0 then (fun_Plain.l0 k l0_0 (l0_0.length : Int) 0) else (some false))
set_option maxHeartbeats 8000000 in
set_option maxRecDepth 100000 in
theorem fun_Plain.calls (k : Nat) (A0_0 : Option Addr) (c0_0 : Nat) (l0_0 : List (S39)) (a0_1 : Int) (A0_2 : Option Addr) (c0_2 : Nat) (l0_2 : List (S48)) (r : Bool) (w : World) (hr0_0 : Kd.C k39 w A0_0 l0_0.length l0_0) (hc0_0 : l0_0.length ≤ c0_0) (hr0_2 : Kd.C k48 w A0_2 l0_2.length l0_2) (hc0_2 : l0_2.length ≤ c0_2) (h : fun_Plain.f k l0_0 a0_1 l0_2 = some r) :
  Calls Try.prog 11 #[.agg #[.slice A0_0 l0_0.length c0_0, .int .i64 a0_1, .slice A0_2 l0_2.length c0_2]] w fun e w' => e = .returned (.bool r) ∧ Below w.heap.size w w' := by
 have hu25 := Try.underlying25
 have hu39 := Try.underlying39
 have HR0_0 := Aside0.mk hr0_0
 have HC0_0 := Aside0.mk hc0_0
 clear hr0_0 hc0_0
 have HR0_2 := Aside0.mk hr0_2
 have HC0_2 := Aside0.mk hc0_2
 clear hr0_2 hc0_2
 have hfd30 : ∀ (a b c d : Int) (w : World), (Instr.field 30 (.agg #[.int .i64 a, .int .i64 b, .int .i64 c, .int .i64 d]) 3).run Try.prog w = .ok (.int .i64 d) w := fun _ _ _ _ _ => by kernel_rfl
 have HB := Aside0.mk (Below.refl w.heap.size w)
 have H : ((fun_Check.f k l0_0 a0_1 l0_2).bind fun bt276 => (if bt276.2.2.2 = 0 then (fun_Plain.l0 k l0_0 (l0_0.length : Int) 0) else (some false))) = some r := h
 clear h
 replace H := Option.bind_eq_some_iff.mp H
 obtain ⟨⟨t276, t277, t278, t279⟩, A20, H⟩ := H
 replace H : (if t279 = 0 then (fun_Plain.l0 k l0_0 (l0_0.length : Int) 0) else (some false)) = some r := H
 have A2 := Aside0.mk A20
 clear A20
 by_cases c3 : t279 = 0
 ·rw [if_pos c3] at H
  have c3b0 : (t279 == 0) = true := beq_iff_eq.mpr c3
  have c3b1 : (t279 != 0) = false := bne_eq_false_iff_eq.mpr c3
  clear c3
  have H' := Aside0.mk H
  clear H
  go_enter Try.func11, Try.ntmps11
  go_wp2_with (first | ((with_reducible refine gate_dst (N := 1) rfl ?_); refine box_event ?hg (N := 1) ?hd (cs := #[.slice A0_0 l0_0.length c0_0, .int .i64 a0_1, .slice A0_2 l0_2.length c0_2]) (t := 25) ?hr ?_; (case hd => rfl); (case hg => rfl); (case hr => first | (go_simp; done) | (go_simp; rfl)); intro gb275 hg w4 hbox hb; have n0_ := Aside0.mk (below_step (zB) hb); have n1_ := Aside0.mk (hbox); have n2_ := Aside0.mk (zH hg : w.heap.size ≤ gb275); have n3_ := Aside0.mk (zH hg : w.heap.size ≤ gb275); clear HB; have HB := n0_; have BK275 := n1_; have GW275 := n2_; have GE275 := n3_; clear n0_ n1_ n2_ n3_; clear hb hbox hg; obtain ⟨hcz5_0, hcz5_1, hcz5_2⟩ := zc3 BK275.out; obtain ⟨hfz5_0, hfz5_1, hfz5_2⟩ := zf3 BK275.out) | ((with_reducible refine gate_callee (f := 9) rfl ?_); refine goesL_ (some 8) rfl rfl Try.func9 (by kernel_rfl) rfl #[.agg #[.slice A0_0 l0_0.length c0_0, .int .i64 a0_1, .slice A0_2 l0_2.length c0_2]] rfl zE ?_; (with_reducible refine (fun_Check.calls k _ _ l0_0 a0_1 _ _ l0_2 t276 t277 t278 t279 _ ?side1 ?side2 ?side3 ?side4 A2.out).mono ?_); (case side1 => exact zC (Kd.C_below HR0_0.out HB.out)); (case side2 => exact HC0_0.out); (case side3 => exact zC (Kd.C_below HR0_2.out HB.out)); (case side4 => exact HC0_2.out); rintro e w6 ⟨rfl, hb⟩; refine ⟨_, rfl, ?_⟩; have n0_ := Aside0.mk (blk_below (g := gb275) (o := .cells #[.slice A0_0 l0_0.length c0_0, .int .i64 a0_1, .slice A0_2 l0_2.length c0_2] 25 (0, 0)) (zK BK275.out) hb); have n1_ := Aside0.mk (below_step (zG) hb); clear BK275; clear HB; have BK275 := n0_; have HB := n1_; clear n0_ n1_; (try clear hb); (try clear hb2); (try clear hk); (try clear hi); obtain ⟨hcz7_0, hcz7_1, hcz7_2⟩ := zc3 BK275.out; obtain ⟨hfz7_0, hfz7_1, hfz7_2⟩ := zf3 BK275.out))
  go_loopg [14] k (fun kq v14 w' => ∃ (x14_1 : Int), v14 = .int .i64 x14_1 ∧ Aside0 (fun_Plain.l0 kq l0_0 (l0_0.length : Int) x14_1 = some r) ∧ Aside0 (kq ≤ k) ∧ Aside0 (w'.heap[gb275]? = some (.cells #[(.slice A0_0 l0_0.length c0_0), .int .i64 a0_1, (.slice A0_2 l0_2.length c0_2)] 25 (0, 0))) ∧ Aside0 (Below w.heap.size w w'))
  case atStart => exact ⟨(0), zQ, H', ⟨Nat.le_refl _⟩, ⟨zK BK275.out⟩, ⟨zG⟩⟩
  case round =>
   clear H'
   (try clear c1); (try clear p2); (try clear c3); (try clear c3b0); (try clear c3b1); (try clear hcz5_0 hcz5_1 hcz5_2); (try clear hcz7_0 hcz7_1 hcz7_2); (try clear hfz5_0 hfz5_1 hfz5_2); (try clear hfz7_0 hfz7_1 hfz7_2)
   obtain ⟨x14_1, rfl, HA, HK1, BK275, HB⟩ := hrel
   cases gk with
   | zero => exact absurd HA.out (by simp [fun_Plain.l0])
   | succ k1 =>
    have H := HA.out
    clear HA
    simp only [fun_Plain.l0] at H
    by_cases c8 : x14_1 < (l0_0.length : Int)
    ·rw [if_pos c8] at H
     have c8b0 : decide (x14_1 < (l0_0.length : Int)) = true := decide_eq_true c8
     clear c8
     by_cases c9 : 0 ≤ x14_1
     ·rw [if_pos c9] at H
      have c9b0 : decide (0 ≤ x14_1) = true := decide_eq_true c9
      clear c9
      by_cases c10 : x14_1 < (l0_0.length : Int)
      ·rw [if_pos c10] at H
       have c10b0 : decide (x14_1 < (l0_0.length : Int)) = true := decide_eq_true c10
       clear c10
       have H' := Aside0.mk H
       clear H
       have p280 : 0 ≤ (x14_1 : Int) := zO
       have q280 : x14_1 < (l0_0.length : Int) := zO
       obtain ⟨ad280, A280_3, c280_3, A280_4, c280_4, e280, hx280_0, hx280_1, hx280_2, hx280_3, hx280_4, hl280_3, hi280_3, hl280_4, hi280_4⟩ := at_T39 HR0_0.out x14_1 p280 q280
       cases e280
       replace hx280_0 := pw_cell_below HB.out hx280_0
       replace hx280_1 := pw_cell_below HB.out hx280_1
       replace hx280_2 := pw_cell_below HB.out hx280_2
       replace hx280_3 := pw_cell_below HB.out hx280_3
       replace hx280_4 := pw_cell_below HB.out hx280_4
       have HR280_3 := Aside0.mk hi280_3
       have HC280_3 := Aside0.mk hl280_3
       clear hi280_3 hl280_3
       have HR280_4 := Aside0.mk hi280_4
       have HC280_4 := Aside0.mk hl280_4
       clear hi280_4 hl280_4
       replace p280 := eq_true p280
       replace q280 := eq_true q280
       go_wp2_with (first | ((with_reducible refine gate_dst (N := 4) rfl ?_); refine box_event ?hg (N := 4) ?hd (cs := #[.string (⟨#[]⟩ : ByteArray), .int .i64 0, .int .i64 0, .slice none 0 0, .slice none 0 0]) (t := 39) ?hr ?_; (case hd => rfl); (case hg => rfl); (case hr => first | (go_simp; done) | (go_simp; rfl)); intro gb281 hg w11 hbox hb; have n0_ := Aside0.mk (blk_below (g := gb275) (o := .cells #[.slice (some ad280) l0_0.length c0_0, .int .i64 a0_1, .slice A0_2 l0_2.length c0_2] 25 (0, 0)) (zK BK275.out) hb); have n1_ := Aside0.mk (below_step (zG) hb); have n2_ := Aside0.mk (hbox); have n3_ := Aside0.mk ((by rw [hg]; exact (below_size (zG)) : w.heap.size ≤ gb281)); have n4_ := Aside0.mk ((by rw [hg]; exact (below_size (zG)) : w.heap.size ≤ gb281)); have n5_ := Aside0.mk ((by rw [hg]; exact Nat.ne_of_lt (blk_lt (g := gb275) (o := .cells #[.slice (some ad280) l0_0.length c0_0, .int .i64 a0_1, .slice A0_2 l0_2.length c0_2] 25 (0, 0)) (zK BK275.out)) : gb275 ≠ gb281)); have n6_ := Aside0.mk ((by rw [hg]; exact Nat.ne_of_gt (blk_lt (g := gb275) (o := .cells #[.slice (some ad280) l0_0.length c0_0, .int .i64 a0_1, .slice A0_2 l0_2.length c0_2] 25 (0, 0)) (zK BK275.out)) : gb281 ≠ gb275)); clear BK275; clear HB; have BK275 := n0_; have HB := n1_; have BK281 := n2_; have GW281 := n3_; have GE281 := n4_; have NB275_281 := n5_; have NB281_275 := n6_; clear n0_ n1_ n2_ n3_ n4_ n5_ n6_; clear hb hbox hg; have hnb12 := NB281_275.out; have hnc12 := NB275_281.out; obtain ⟨hcz13_0, hcz13_1, hcz13_2, hcz13_3, hcz13_4⟩ := zc5 BK281.out; obtain ⟨hfz13_0, hfz13_1, hfz13_2, hfz13_3, hfz13_4⟩ := zf5 BK281.out))
       go_loopg [21] k1 (fun kq v21 w' => ∃ (x21_2 : Int), v21 = .int .i64 x21_2 ∧ Aside0 (fun_Plain.l1 kq l0_0 (l0_0.length : Int) x14_1 ((rd_T39 l0_0 x14_1).f4) (((rd_T39 l0_0 x14_1).f4).length : Int) x21_2 = some r) ∧ Aside0 (kq ≤ k1) ∧ Aside0 (w'.heap[gb275]? = some (.cells #[(.slice (some ad280) l0_0.length c0_0), .int .i64 a0_1, (.slice A0_2 l0_2.length c0_2)] 25 (0, 0))) ∧ Aside0 (w'.heap[gb281]? = some (.cells #[.string ((rd_T39 l0_0 x14_1).f0), .int .i64 ((rd_T39 l0_0 x14_1).f1), .int .i64 ((rd_T39 l0_0 x14_1).f2), (.slice A280_3 ((rd_T39 l0_0 x14_1).f3).length c280_3), (.slice A280_4 ((rd_T39 l0_0 x14_1).f4).length c280_4)] 39 (0, 0))) ∧ Aside0 (Below w.heap.size w w'))
       case atStart => exact ⟨(0), zQ, H', ⟨Nat.le_refl _⟩, ⟨by (with_reducible repeat (first | refine blk_drewN ?_ _ | refine blk_drew ?_ | refine blk_alloc ?_ _)); refine blk_far ?_ NB275_281.out _; (with_reducible repeat (first | refine blk_drewN ?_ _ | refine blk_drew ?_ | refine blk_alloc ?_ _)); refine blk_far ?_ NB275_281.out _; (with_reducible repeat (first | refine blk_drewN ?_ _ | refine blk_drew ?_ | refine blk_alloc ?_ _)); refine blk_far ?_ NB275_281.out _; (with_reducible repeat (first | refine blk_drewN ?_ _ | refine blk_drew ?_ | refine blk_alloc ?_ _)); refine blk_far ?_ NB275_281.out _; (with_reducible repeat (first | refine blk_drewN ?_ _ | refine blk_drew ?_ | refine blk_alloc ?_ _)); refine blk_far ?_ NB275_281.out _; (with_reducible repeat (first | refine blk_drewN ?_ _ | refine blk_drew ?_ | refine blk_alloc ?_ _)); exact BK275.out⟩, ⟨by (with_reducible repeat (first | refine blk_drewN ?_ _ | refine blk_drew ?_ | refine blk_alloc ?_ _)); refine blk_put (cs := #[.string ((rd_T39 l0_0 x14_1).f0), .int .i64 ((rd_T39 l0_0 x14_1).f1), .int .i64 ((rd_T39 l0_0 x14_1).f2), .slice A280_3 ((rd_T39 l0_0 x14_1).f3).length c280_3, .slice none 0 0]) ?_ 4 _ rfl; (with_reducible repeat (first | refine blk_drewN ?_ _ | refine blk_drew ?_ | refine blk_alloc ?_ _)); refine blk_put (cs := #[.string ((rd_T39 l0_0 x14_1).f0), .int .i64 ((rd_T39 l0_0 x14_1).f1), .int .i64 ((rd_T39 l0_0 x14_1).f2), .slice none 0 0, .slice none 0 0]) ?_ 3 _ rfl; (with_reducible repeat (first | refine blk_drewN ?_ _ | refine blk_drew ?_ | refine blk_alloc ?_ _)); refine blk_put (cs := #[.string ((rd_T39 l0_0 x14_1).f0), .int .i64 ((rd_T39 l0_0 x14_1).f1), .int .i64 0, .slice none 0 0, .slice none 0 0]) ?_ 2 _ rfl; (with_reducible repeat (first | refine blk_drewN ?_ _ | refine blk_drew ?_ | refine blk_alloc ?_ _)); refine blk_put (cs := #[.string ((rd_T39 l0_0 x14_1).f0), .int .i64 0, .int .i64 0, .slice none 0 0, .slice none 0 0]) ?_ 1 _ rfl; (with_reducible repeat (first | refine blk_drewN ?_ _ | refine blk_drew ?_ | refine blk_alloc ?_ _)); refine blk_put (cs := #[.string (⟨#[]⟩ : ByteArray), .int .i64 0, .int .i64 0, .slice none 0 0, .slice none 0 0]) ?_ 0 _ rfl; (with_reducible repeat (first | refine blk_drewN ?_ _ | refine blk_drew ?_ | refine blk_alloc ?_ _)); exact BK281.out⟩, ⟨zG⟩⟩
       case round =>
        clear H'
        (try clear c1); (try clear c2); (try clear p2); (try clear q2); (try clear hx2); (try clear c3); (try clear c3b0); (try clear c3b1); (try clear c8); (try clear c8b0); (try clear c9); (try clear c9b0); (try clear c10); (try clear c10b0); (try clear c11); (try clear c12); (try clear hcz13_0 hcz13_1 hcz13_2 hcz13_3 hcz13_4); (try clear hcz5_0)
        (try clear hcz5_1 hcz5_2); (try clear hcz7_0 hcz7_1 hcz7_2); (try clear hfz13_0 hfz13_1 hfz13_2 hfz13_3 hfz13_4); (try clear hfz5_0 hfz5_1 hfz5_2); (try clear hfz7_0 hfz7_1 hfz7_2); (try clear hx280_0); (try clear hx280_1); (try clear hx280_2); (try clear hx280_3)
        (try clear hx280_4); (try clear p2); (try clear p280); (try clear q280)
        obtain ⟨x21_2, rfl, HA, HK2, BK275, BK281, HB⟩ := hrel
        cases gk with
        | zero => exact absurd HA.out (by simp [fun_Plain.l1])
        | succ k2 =>
         have H := HA.out
         clear HA
         simp only [fun_Plain.l1] at H
         by_cases c14 : x21_2 < (((rd_T39 l0_0 x14_1).f4).length : Int)
         ·rw [if_pos c14] at H
          have c14b0 : decide (x21_2 < (((rd_T39 l0_0 x14_1).f4).length : Int)) = true := decide_eq_true c14
          clear c14
          by_cases c15 : 0 ≤ x21_2
          ·rw [if_pos c15] at H
           have c15b0 : decide (0 ≤ x21_2) = true := decide_eq_true c15
           clear c15
           by_cases c16 : x21_2 < (((rd_T39 l0_0 x14_1).f4).length : Int)
           ·rw [if_pos c16] at H
            have c16b0 : decide (x21_2 < (((rd_T39 l0_0 x14_1).f4).length : Int)) = true := decide_eq_true c16
            clear c16
            replace H := Option.bind_eq_some_iff.mp H
            obtain ⟨t283, A170, H⟩ := H
            replace H : (if t283 = true then (some false) else (fun_Plain.l1 k2 l0_0 (l0_0.length : Int) x14_1 ((rd_T39 l0_0 x14_1).f4) (((rd_T39 l0_0 x14_1).f4).length : Int) (wrap64 (x21_2 + 1)))) = some r := H
            have A17 := Aside0.mk A170
            clear A170
            by_cases c18 : t283 = true
            ·subst c18
             have H1 : (some false) = some r := by rw [if_pos rfl] at H; exact H
             clear H
             have H := H1
             clear H1
             obtain rfl := Option.some.inj H
             have p282 : 0 ≤ (x21_2 : Int) := zO
             have q282 : x21_2 < (((rd_T39 l0_0 x14_1).f4).length : Int) := zO
             obtain ⟨ad282, A282_0, c282_0, e282, hx282_0, hl282_0, hi282_0⟩ := at_L5 HR280_4.out x21_2 p282 q282
             cases e282
             replace hx282_0 := pw_cell_below HB.out hx282_0
             have HR282_0 := Aside0.mk hi282_0
             have HC282_0 := Aside0.mk hl282_0
             clear hi282_0 hl282_0
             replace p282 := eq_true p282
             replace q282 := eq_true q282
             go_wp2_with (first | (go_at_call 28; (with_reducible refine (api_Instr_28.calls k2 _ _ (rd_L5 ((rd_T39 l0_0 x14_1).f4) x21_2)  true _ ?side1 ?side2 A17.out).mono ?_); (case side1 => exact zC (Kd.C_below HR282_0.out HB.out)); (case side2 => exact HC282_0.out); rintro e w19 ⟨rfl, hb⟩; have n0_ := Aside0.mk (blk_below (g := gb275) (o := .cells #[.slice (some ad280) l0_0.length c0_0, .int .i64 a0_1, .slice A0_2 l0_2.length c0_2] 25 (0, 0)) (zK BK275.out) hb); have n1_ := Aside0.mk (blk_below (g := gb281) (o := .cells #[.string ((rd_T39 l0_0 x14_1).f0), .int .i64 ((rd_T39 l0_0 x14_1).f1), .int .i64 ((rd_T39 l0_0 x14_1).f2), .slice A280_3 ((rd_T39 l0_0 x14_1).f3).length c280_3, .slice (some ad282) ((rd_T39 l0_0 x14_1).f4).length c280_4] 39 (0, 0)) (zK BK281.out) hb); have n2_ := Aside0.mk (below_step (zG) hb); clear BK275; clear BK281; clear HB; have BK275 := n0_; have BK281 := n1_; have HB := n2_; clear n0_ n1_ n2_; (try clear hb); (try clear hb2); (try clear hk); (try clear hi)))
             go_ret
             exact ⟨zV, zG⟩
            ·replace c18 := Bool.eq_false_iff.mpr c18
             subst c18
             have H1 : (fun_Plain.l1 k2 l0_0 (l0_0.length : Int) x14_1 ((rd_T39 l0_0 x14_1).f4) (((rd_T39 l0_0 x14_1).f4).length : Int) (wrap64 (x21_2 + 1))) = some r := by rw [if_neg (show ¬ (false = true) by decide)] at H; exact H
             clear H
             have H := H1
             clear H1
             have H' := Aside0.mk H
             clear H
             have p282 : 0 ≤ (x21_2 : Int) := zO
             have q282 : x21_2 < (((rd_T39 l0_0 x14_1).f4).length : Int) := zO
             obtain ⟨ad282, A282_0, c282_0, e282, hx282_0, hl282_0, hi282_0⟩ := at_L5 HR280_4.out x21_2 p282 q282
             cases e282
             replace hx282_0 := pw_cell_below HB.out hx282_0
             have HR282_0 := Aside0.mk hi282_0
             have HC282_0 := Aside0.mk hl282_0
             clear hi282_0 hl282_0
             replace p282 := eq_true p282
             replace q282 := eq_true q282
             go_wp2_with (first | (go_at_call 28; (with_reducible refine (api_Instr_28.calls k2 _ _ (rd_L5 ((rd_T39 l0_0 x14_1).f4) x21_2)  false _ ?side1 ?side2 A17.out).mono ?_); (case side1 => exact zC (Kd.C_below HR282_0.out HB.out)); (case side2 => exact HC282_0.out); rintro e w20 ⟨rfl, hb⟩; have n0_ := Aside0.mk (blk_below (g := gb275) (o := .cells #[.slice (some ad280) l0_0.length c0_0, .int .i64 a0_1, .slice A0_2 l0_2.length c0_2] 25 (0, 0)) (zK BK275.out) hb); have n1_ := Aside0.mk (blk_below (g := gb281) (o := .cells #[.string ((rd_T39 l0_0 x14_1).f0), .int .i64 ((rd_T39 l0_0 x14_1).f1), .int .i64 ((rd_T39 l0_0 x14_1).f2), .slice A280_3 ((rd_T39 l0_0 x14_1).f3).length c280_3, .slice (some ad282) ((rd_T39 l0_0 x14_1).f4).length c280_4] 39 (0, 0)) (zK BK281.out) hb); have n2_ := Aside0.mk (below_step (zG) hb); clear BK275; clear BK281; clear HB; have BK275 := n0_; have BK281 := n1_; have HB := n2_; clear n0_ n1_ n2_; (try clear hb); (try clear hb2); (try clear hk); (try clear hi)))
             go_roundg k2
             case measure => have := HK1.out; have := HK2.out; omega
             case rel => exact ⟨(wrap64 (x21_2 + 1)), zQ, H', ⟨by have := HK1.out; have := HK2.out; omega⟩, ⟨zK BK275.out⟩, ⟨zK BK281.out⟩, ⟨zG⟩⟩
           ·rw [if_neg c16] at H
            exact absurd H (by simp)
          ·rw [if_neg c15] at H
           exact absurd H (by simp)
         ·rw [if_neg c14] at H
          have c14b0 : decide (x21_2 < (((rd_T39 l0_0 x14_1).f4).length : Int)) = false := decide_eq_false c14
          clear c14
          have H' := Aside0.mk H
          clear H
          go_wp2
          go_roundg k2
          case measure => have := HK1.out; have := HK2.out; omega
          case rel => exact ⟨(wrap64 (x14_1 + 1)), zQ, H', ⟨by have := HK1.out; have := HK2.out; omega⟩, ⟨zK BK275.out⟩, ⟨zG⟩⟩
      ·rw [if_neg c10] at H
       exact absurd H (by simp)
     ·rw [if_neg c9] at H
      exact absurd H (by simp)
    ·rw [if_neg c8] at H
     have c8b0 : decide (x14_1 < (l0_0.length : Int)) = false := decide_eq_false c8
     clear c8
     obtain rfl := Option.some.inj H
     go_wp2
     go_ret
     exact ⟨zV, zG⟩
 ·rw [if_neg c3] at H
  have c3b0 : (t279 == 0) = false := beq_eq_false_iff_ne.mpr c3
  have c3b1 : (t279 != 0) = true := bne_iff_ne.mpr c3
  obtain rfl := Option.some.inj H
  go_enter Try.func11, Try.ntmps11
  go_wp2_with (first | ((with_reducible refine gate_dst (N := 1) rfl ?_); refine box_event ?hg (N := 1) ?hd (cs := #[.slice A0_0 l0_0.length c0_0, .int .i64 a0_1, .slice A0_2 l0_2.length c0_2]) (t := 25) ?hr ?_; (case hd => rfl); (case hg => rfl); (case hr => first | (go_simp; done) | (go_simp; rfl)); intro gb275 hg w21 hbox hb; have n0_ := Aside0.mk (below_step (zB) hb); have n1_ := Aside0.mk (hbox); have n2_ := Aside0.mk (zH hg : w.heap.size ≤ gb275); have n3_ := Aside0.mk (zH hg : w.heap.size ≤ gb275); clear HB; have HB := n0_; have BK275 := n1_; have GW275 := n2_; have GE275 := n3_; clear n0_ n1_ n2_ n3_; clear hb hbox hg; obtain ⟨hcz22_0, hcz22_1, hcz22_2⟩ := zc3 BK275.out; obtain ⟨hfz22_0, hfz22_1, hfz22_2⟩ := zf3 BK275.out) | ((with_reducible refine gate_callee (f := 9) rfl ?_); refine goesL_ (some 8) rfl rfl Try.func9 (by kernel_rfl) rfl #[.agg #[.slice A0_0 l0_0.length c0_0, .int .i64 a0_1, .slice A0_2 l0_2.length c0_2]] rfl zE ?_; (with_reducible refine (fun_Check.calls k _ _ l0_0 a0_1 _ _ l0_2 t276 t277 t278 t279 _ ?side1 ?side2 ?side3 ?side4 A2.out).mono ?_); (case side1 => exact zC (Kd.C_below HR0_0.out HB.out)); (case side2 => exact HC0_0.out); (case side3 => exact zC (Kd.C_below HR0_2.out HB.out)); (case side4 => exact HC0_2.out); rintro e w23 ⟨rfl, hb⟩; refine ⟨_, rfl, ?_⟩; have n0_ := Aside0.mk (blk_below (g := gb275) (o := .cells #[.slice A0_0 l0_0.length c0_0, .int .i64 a0_1, .slice A0_2 l0_2.length c0_2] 25 (0, 0)) (zK BK275.out) hb); have n1_ := Aside0.mk (below_step (zG) hb); clear BK275; clear HB; have BK275 := n0_; have HB := n1_; clear n0_ n1_; (try clear hb); (try clear hb2); (try clear hk); (try clear hi)))
  go_ret
  exact ⟨zV, zG⟩
def fun_Count.l0 : Nat → Int → List (S39) → Int → Int → Option (Int)
 | 0, _, _, _, _ => none
 | k + 1, x3, x7, x8, x9 => if x9 < x8 then (if 0 ≤ x9 then (if x9 < (x7.length : Int) then ((fun_size.f k ((rd_T39 x7 x9).f0) ((rd_T39 x7 x9).f1) ((rd_T39 x7 x9).f2) ((rd_T39 x7 x9).f3) ((rd_T39 x7 x9).f4)).bind fun t287 => (fun_Count.l0 k (wrap64 (x3 + t287)) x7 x8 (wrap64 (x9 + 1)))) else (none)) else (none)) else (some x3)
def fun_Count.f (k : Nat) (l0_0 : List (S39)) (a0_1 : Int) (l0_2 : List (S48)) : Option (Int) := fun_Count.l0 k 0 l0_0 (l0_0.length : Int) 0
set_option maxHeartbeats 8000000 in
set_option maxRecDepth 100000 in
theorem fun_Count.calls (k : Nat) (A0_0 : Option Addr) (c0_0 : Nat) (l0_0 : List (S39)) (a0_1 : Int) (A0_2 : Option Addr) (c0_2 : Nat) (l0_2 : List (S48)) (r : Int) (w : World) (hr0_0 : Kd.C k39 w A0_0 l0_0.length l0_0) (hc0_0 : l0_0.length ≤ c0_0) (hr0_2 : Kd.C k48 w A0_2 l0_2.length l0_2) (hc0_2 : l0_2.length ≤ c0_2) (h : fun_Count.f k l0_0 a0_1 l0_2 = some r) :
  Calls Try.prog 13 #[.agg #[.slice A0_0 l0_0.length c0_0, .int .i64 a0_1, .slice A0_2 l0_2.length c0_2]] w fun e w' => e = .returned (.int .i64 r) ∧ Below w.heap.size w w' := by
 have hu25 := Try.underlying25
 have hu39 := Try.underlying39
 have HR0_0 := Aside0.mk hr0_0
 have HC0_0 := Aside0.mk hc0_0
 clear hr0_0 hc0_0
 have HR0_2 := Aside0.mk hr0_2
 have HC0_2 := Aside0.mk hc0_2
 clear hr0_2 hc0_2
 have HB := Aside0.mk (Below.refl w.heap.size w)
 have H : (fun_Count.l0 k 0 l0_0 (l0_0.length : Int) 0) = some r := h
 clear h
 have H' := Aside0.mk H
 clear H
 go_enter Try.func13, Try.ntmps13
 go_wp2_with (first | ((with_reducible refine gate_dst (N := 1) rfl ?_); refine box_event ?hg (N := 1) ?hd (cs := #[.slice A0_0 l0_0.length c0_0, .int .i64 a0_1, .slice A0_2 l0_2.length c0_2]) (t := 25) ?hr ?_; (case hd => rfl); (case hg => rfl); (case hr => first | (go_simp; done) | (go_simp; rfl)); intro gb284 hg w2 hbox hb; have n0_ := Aside0.mk (below_step (zB) hb); have n1_ := Aside0.mk (hbox); have n2_ := Aside0.mk (zH hg : w.heap.size ≤ gb284); have n3_ := Aside0.mk (zH hg : w.heap.size ≤ gb284); clear HB; have HB := n0_; have BK284 := n1_; have GW284 := n2_; have GE284 := n3_; clear n0_ n1_ n2_ n3_; clear hb hbox hg; obtain ⟨hcz3_0, hcz3_1, hcz3_2⟩ := zc3 BK284.out; obtain ⟨hfz3_0, hfz3_1, hfz3_2⟩ := zf3 BK284.out))
 go_loopg [3, 9] k (fun kq v3 v9 w' => ∃ (x3_1 : Int) (x9_1 : Int), v3 = .int .i64 x3_1 ∧ v9 = .int .i64 x9_1 ∧ Aside0 (fun_Count.l0 kq x3_1 l0_0 (l0_0.length : Int) x9_1 = some r) ∧ Aside0 (kq ≤ k) ∧ Aside0 (w'.heap[gb284]? = some (.cells #[(.slice A0_0 l0_0.length c0_0), .int .i64 a0_1, (.slice A0_2 l0_2.length c0_2)] 25 (0, 0))) ∧ Aside0 (Below w.heap.size w w'))
 case atStart => exact ⟨(0), (0), zQ, zQ, H', ⟨Nat.le_refl _⟩, ⟨zK BK284.out⟩, ⟨zG⟩⟩
 case round =>
  clear H'
  (try clear c1); (try clear p2); (try clear hcz3_0 hcz3_1 hcz3_2); (try clear hfz3_0 hfz3_1 hfz3_2)
  obtain ⟨x3_1, x9_1, rfl, rfl, HA, HK1, BK284, HB⟩ := hrel
  cases gk with
  | zero => exact absurd HA.out (by simp [fun_Count.l0])
  | succ k1 =>
   have H := HA.out
   clear HA
   simp only [fun_Count.l0] at H
   by_cases c4 : x9_1 < (l0_0.length : Int)
   ·rw [if_pos c4] at H
    have c4b0 : decide (x9_1 < (l0_0.length : Int)) = true := decide_eq_true c4
    clear c4
    by_cases c5 : 0 ≤ x9_1
    ·rw [if_pos c5] at H
     have c5b0 : decide (0 ≤ x9_1) = true := decide_eq_true c5
     clear c5
     by_cases c6 : x9_1 < (l0_0.length : Int)
     ·rw [if_pos c6] at H
      have c6b0 : decide (x9_1 < (l0_0.length : Int)) = true := decide_eq_true c6
      clear c6
      replace H := Option.bind_eq_some_iff.mp H
      obtain ⟨t287, A70, H⟩ := H
      replace H : (fun_Count.l0 k1 (wrap64 (x3_1 + t287)) l0_0 (l0_0.length : Int) (wrap64 (x9_1 + 1))) = some r := H
      have A7 := Aside0.mk A70
      clear A70
      have H' := Aside0.mk H
      clear H
      have p285 : 0 ≤ (x9_1 : Int) := zO
      have q285 : x9_1 < (l0_0.length : Int) := zO
      obtain ⟨ad285, A285_3, c285_3, A285_4, c285_4, e285, hx285_0, hx285_1, hx285_2, hx285_3, hx285_4, hl285_3, hi285_3, hl285_4, hi285_4⟩ := at_T39 HR0_0.out x9_1 p285 q285
      cases e285
      replace hx285_0 := pw_cell_below HB.out hx285_0
      replace hx285_1 := pw_cell_below HB.out hx285_1
      replace hx285_2 := pw_cell_below HB.out hx285_2
      replace hx285_3 := pw_cell_below HB.out hx285_3
      replace hx285_4 := pw_cell_below HB.out hx285_4
      have HR285_3 := Aside0.mk hi285_3
      have HC285_3 := Aside0.mk hl285_3
      clear hi285_3 hl285_3
      have HR285_4 := Aside0.mk hi285_4
      have HC285_4 := Aside0.mk hl285_4
      clear hi285_4 hl285_4
      replace p285 := eq_true p285
      replace q285 := eq_true q285
      go_wp2_with (first | ((with_reducible refine gate_dst (N := 5) rfl ?_); refine box_event ?hg (N := 5) ?hd (cs := #[.string (⟨#[]⟩ : ByteArray), .int .i64 0, .int .i64 0, .slice none 0 0, .slice none 0 0]) (t := 39) ?hr ?_; (case hd => rfl); (case hg => rfl); (case hr => first | (go_simp; done) | (go_simp; rfl)); intro gb286 hg w8 hbox hb; have n0_ := Aside0.mk (blk_below (g := gb284) (o := .cells #[.slice (some ad285) l0_0.length c0_0, .int .i64 a0_1, .slice A0_2 l0_2.length c0_2] 25 (0, 0)) (zK BK284.out) hb); have n1_ := Aside0.mk (below_step (zG) hb); have n2_ := Aside0.mk (hbox); have n3_ := Aside0.mk ((by rw [hg]; exact (below_size (zG)) : w.heap.size ≤ gb286)); have n4_ := Aside0.mk ((by rw [hg]; exact (below_size (zG)) : w.heap.size ≤ gb286)); have n5_ := Aside0.mk ((by rw [hg]; exact Nat.ne_of_lt (blk_lt (g := gb284) (o := .cells #[.slice (some ad285) l0_0.length c0_0, .int .i64 a0_1, .slice A0_2 l0_2.length c0_2] 25 (0, 0)) (zK BK284.out)) : gb284 ≠ gb286)); have n6_ := Aside0.mk ((by rw [hg]; exact Nat.ne_of_gt (blk_lt (g := gb284) (o := .cells #[.slice (some ad285) l0_0.length c0_0, .int .i64 a0_1, .slice A0_2 l0_2.length c0_2] 25 (0, 0)) (zK BK284.out)) : gb286 ≠ gb284)); clear BK284; clear HB; have BK284 := n0_; have HB := n1_; have BK286 := n2_; have GW286 := n3_; have GE286 := n4_; have NB284_286 := n5_; have NB286_284 := n6_; clear n0_ n1_ n2_ n3_ n4_ n5_ n6_; clear hb hbox hg; have hnb9 := NB286_284.out; have hnc9 := NB284_286.out; obtain ⟨hcz10_0, hcz10_1, hcz10_2, hcz10_3, hcz10_4⟩ := zc5 BK286.out; obtain ⟨hfz10_0, hfz10_1, hfz10_2, hfz10_3, hfz10_4⟩ := zf5 BK286.out) | ((with_reducible refine gate_callee (f := 30) rfl ?_); refine goesL_ (some 15) rfl rfl Try.func30 (by kernel_rfl) rfl #[.agg #[.string ((rd_T39 l0_0 x9_1).f0), .int .i64 ((rd_T39 l0_0 x9_1).f1), .int .i64 ((rd_T39 l0_0 x9_1).f2), .slice A285_3 ((rd_T39 l0_0 x9_1).f3).length c285_3, .slice A285_4 ((rd_T39 l0_0 x9_1).f4).length c285_4]] rfl zE ?_; (with_reducible refine (fun_size.calls k1 ((rd_T39 l0_0 x9_1).f0) ((rd_T39 l0_0 x9_1).f1) ((rd_T39 l0_0 x9_1).f2) _ _ ((rd_T39 l0_0 x9_1).f3) _ _ ((rd_T39 l0_0 x9_1).f4) t287 _ ?side1 ?side2 ?side3 ?side4 A7.out).mono ?_); (case side1 => exact Kd.C_below HR285_3.out (zG)); (case side2 => exact HC285_3.out); (case side3 => exact Kd.C_below HR285_4.out (zG)); (case side4 => exact HC285_4.out); rintro e w11 ⟨rfl, hb⟩; refine ⟨_, rfl, ?_⟩; have n0_ := Aside0.mk (blk_below (g := gb284) (o := .cells #[.slice (some ad285) l0_0.length c0_0, .int .i64 a0_1, .slice A0_2 l0_2.length c0_2] 25 (0, 0)) (by (with_reducible repeat (first | refine blk_drewN ?_ _ | refine blk_drew ?_ | refine blk_alloc ?_ _)); refine blk_far ?_ NB284_286.out _; (with_reducible repeat (first | refine blk_drewN ?_ _ | refine blk_drew ?_ | refine blk_alloc ?_ _)); refine blk_far ?_ NB284_286.out _; (with_reducible repeat (first | refine blk_drewN ?_ _ | refine blk_drew ?_ | refine blk_alloc ?_ _)); refine blk_far ?_ NB284_286.out _; (with_reducible repeat (first | refine blk_drewN ?_ _ | refine blk_drew ?_ | refine blk_alloc ?_ _)); refine blk_far ?_ NB284_286.out _; (with_reducible repeat (first | refine blk_drewN ?_ _ | refine blk_drew ?_ | refine blk_alloc ?_ _)); refine blk_far ?_ NB284_286.out _; (with_reducible repeat (first | refine blk_drewN ?_ _ | refine blk_drew ?_ | refine blk_alloc ?_ _)); exact BK284.out) hb); have n1_ := Aside0.mk (blk_below (g := gb286) (o := .cells #[.string ((rd_T39 l0_0 x9_1).f0), .int .i64 ((rd_T39 l0_0 x9_1).f1), .int .i64 ((rd_T39 l0_0 x9_1).f2), .slice A285_3 ((rd_T39 l0_0 x9_1).f3).length c285_3, .slice A285_4 ((rd_T39 l0_0 x9_1).f4).length c285_4] 39 (0, 0)) (by (with_reducible repeat (first | refine blk_drewN ?_ _ | refine blk_drew ?_ | refine blk_alloc ?_ _)); refine blk_put (cs := #[.string ((rd_T39 l0_0 x9_1).f0), .int .i64 ((rd_T39 l0_0 x9_1).f1), .int .i64 ((rd_T39 l0_0 x9_1).f2), .slice A285_3 ((rd_T39 l0_0 x9_1).f3).length c285_3, .slice none 0 0]) ?_ 4 _ rfl; (with_reducible repeat (first | refine blk_drewN ?_ _ | refine blk_drew ?_ | refine blk_alloc ?_ _)); refine blk_put (cs := #[.string ((rd_T39 l0_0 x9_1).f0), .int .i64 ((rd_T39 l0_0 x9_1).f1), .int .i64 ((rd_T39 l0_0 x9_1).f2), .slice none 0 0, .slice none 0 0]) ?_ 3 _ rfl; (with_reducible repeat (first | refine blk_drewN ?_ _ | refine blk_drew ?_ | refine blk_alloc ?_ _)); refine blk_put (cs := #[.string ((rd_T39 l0_0 x9_1).f0), .int .i64 ((rd_T39 l0_0 x9_1).f1), .int .i64 0, .slice none 0 0, .slice none 0 0]) ?_ 2 _ rfl; (with_reducible repeat (first | refine blk_drewN ?_ _ | refine blk_drew ?_ | refine blk_alloc ?_ _)); refine blk_put (cs := #[.string ((rd_T39 l0_0 x9_1).f0), .int .i64 0, .int .i64 0, .slice none 0 0, .slice none 0 0]) ?_ 1 _ rfl; (with_reducible repeat (first | refine blk_drewN ?_ _ | refine blk_drew ?_ | refine blk_alloc ?_ _)); refine blk_put (cs := #[.string (⟨#[]⟩ : ByteArray), .int .i64 0, .int .i64 0, .slice none 0 0, .slice none 0 0]) ?_ 0 _ rfl; (with_reducible repeat (first | refine blk_drewN ?_ _ | refine blk_drew ?_ | refine blk_alloc ?_ _)); exact BK286.out) hb); have n2_ := Aside0.mk (below_step (zG) hb); clear BK284; clear BK286; clear HB; have BK284 := n0_; have BK286 := n1_; have HB := n2_; clear n0_ n1_ n2_; (try clear hb); (try clear hb2); (try clear hk); (try clear hi)))
      go_roundg k1
      case measure => have := HK1.out; omega
      case rel => exact ⟨(wrap64 (x3_1 + t287)), (wrap64 (x9_1 + 1)), zQ, zQ, H', ⟨by have := HK1.out; omega⟩, ⟨zK BK284.out⟩, ⟨zG⟩⟩
     ·rw [if_neg c6] at H
      exact absurd H (by simp)
    ·rw [if_neg c5] at H
     exact absurd H (by simp)
   ·rw [if_neg c4] at H
    have c4b0 : decide (x9_1 < (l0_0.length : Int)) = false := decide_eq_false c4
    clear c4
    obtain rfl := Option.some.inj H
    go_wp2
    go_ret
    exact ⟨zV, zG⟩
def balustradelaw16_small.f (a0 : Int) : Option ((List (S39)) × Int × (List (S48))) := some ((([(⟨(⟨#[109, 97, 105, 110]⟩ : ByteArray), 1, 1, (([3, 1] : List Int)), (([(([(⟨20, 1, 0, 0, 0, 0, 0, 0, ([] : List Int)⟩ : S42), (⟨43, 0, a0, 0, 0, 0, 0, 0, ([] : List Int)⟩ : S42)] : List (S42)))] : List (List (S42))))⟩ : S39)] : List (S39))), 0, ([] : List (S48)))
set_option maxHeartbeats 8000000 in
set_option maxRecDepth 100000 in
theorem balustradelaw16_small.calls (a0 : Int) (r1 : List (S39)) (r2 : Int) (r3 : List (S48)) (w : World) (h : balustradelaw16_small.f a0 = some (r1, r2, r3)) :
  Calls Try.prog 23 #[.int .i64 a0] w fun e w' => ∃ v0_ v2_ : Value, e = .returned (.agg #[v0_, .int .i64 r2, v2_]) ∧ Kd.N k39 39 w' w.heap.size (fun k_ => (w.heap.size ≤ k_) ∧ some k_ ≠ (v2_ : Value).ownBlock) v0_ r1 ∧ Kd.R k48 48 w' w.heap.size (fun k_ => (w.heap.size ≤ k_)) v2_ r3 ∧ Below w.heap.size w w' := by
 have hu25 := Try.underlying25
 have hu42 := Try.underlying42
 have hu39 := Try.underlying39
 have HB := Aside0.mk (Below.refl w.heap.size w)
 have H : (some ((([(⟨(⟨#[109, 97, 105, 110]⟩ : ByteArray), 1, 1, (([3, 1] : List Int)), (([(([(⟨20, 1, 0, 0, 0, 0, 0, 0, ([] : List Int)⟩ : S42), (⟨43, 0, a0, 0, 0, 0, 0, 0, ([] : List Int)⟩ : S42)] : List (S42)))] : List (List (S42))))⟩ : S39)] : List (S39))), 0, ([] : List (S48)))) = some (r1, r2, r3) := h
 clear h
 obtain ⟨y289, hy289⟩ : ∃ y_ : List Int, y_ = (([3, 1] : List Int)) := ⟨_, rfl⟩
 replace H : (some ((([(⟨(⟨#[109, 97, 105, 110]⟩ : ByteArray), 1, 1, y289, (([(([(⟨20, 1, 0, 0, 0, 0, 0, 0, ([] : List Int)⟩ : S42), (⟨43, 0, a0, 0, 0, 0, 0, 0, ([] : List Int)⟩ : S42)] : List (S42)))] : List (List (S42))))⟩ : S39)] : List (S39))), 0, ([] : List (S48)))) = some (r1, r2, r3) := by first | (rw [hy289]; with_reducible exact H) | (have H2_ := (Option.bind_some _ _).symm.trans H; rw [hy289]; with_reducible exact H2_) | (have H2_ := (Option.bind_some _ _).symm.trans H; with_reducible exact H2_) | with_reducible exact H | (rw [hy289]; exact H) | exact H
 have Ny289 := Aside0.mk hy289
 clear hy289
 obtain ⟨y292, hy292⟩ : ∃ y_ : List (S42), y_ = (([(⟨20, 1, 0, 0, 0, 0, 0, 0, ([] : List Int)⟩ : S42), (⟨43, 0, a0, 0, 0, 0, 0, 0, ([] : List Int)⟩ : S42)] : List (S42))) := ⟨_, rfl⟩
 replace H : (some ((([(⟨(⟨#[109, 97, 105, 110]⟩ : ByteArray), 1, 1, y289, (([y292] : List (List (S42))))⟩ : S39)] : List (S39))), 0, ([] : List (S48)))) = some (r1, r2, r3) := by first | (rw [hy292]; with_reducible exact H) | (have H2_ := (Option.bind_some _ _).symm.trans H; rw [hy292]; with_reducible exact H2_) | (have H2_ := (Option.bind_some _ _).symm.trans H; with_reducible exact H2_) | with_reducible exact H | (rw [hy292]; exact H) | exact H
 have Ny292 := Aside0.mk hy292
 clear hy292
 obtain ⟨y295, hy295⟩ : ∃ y_ : List (List (S42)), y_ = (([y292] : List (List (S42)))) := ⟨_, rfl⟩
 replace H : (some ((([(⟨(⟨#[109, 97, 105, 110]⟩ : ByteArray), 1, 1, y289, y295⟩ : S39)] : List (S39))), 0, ([] : List (S48)))) = some (r1, r2, r3) := by first | (rw [hy295]; with_reducible exact H) | (have H2_ := (Option.bind_some _ _).symm.trans H; rw [hy295]; with_reducible exact H2_) | (have H2_ := (Option.bind_some _ _).symm.trans H; with_reducible exact H2_) | with_reducible exact H | (rw [hy295]; exact H) | exact H
 have Ny295 := Aside0.mk hy295
 clear hy295
 obtain ⟨y298, hy298⟩ : ∃ y_ : List (S39), y_ = (([(⟨(⟨#[109, 97, 105, 110]⟩ : ByteArray), 1, 1, y289, y295⟩ : S39)] : List (S39))) := ⟨_, rfl⟩
 replace H : (some (y298, 0, ([] : List (S48)))) = some (r1, r2, r3) := by first | (rw [hy298]; with_reducible exact H) | (have H2_ := (Option.bind_some _ _).symm.trans H; rw [hy298]; with_reducible exact H2_) | (have H2_ := (Option.bind_some _ _).symm.trans H; with_reducible exact H2_) | with_reducible exact H | (rw [hy298]; exact H) | exact H
 have Ny298 := Aside0.mk hy298
 clear hy298
 simp only [Option.some.injEq, Prod.mk.injEq] at H
 obtain ⟨rfl, rfl, rfl⟩ := H
 go_enter Try.func23, Try.ntmps23
 go_wp2_with (first | ((with_reducible refine gate_dst (N := 2) rfl ?_); refine box_event ?hg (N := 2) ?hd (cs := #[.slice none 0 0, .int .i64 0, .slice none 0 0]) (t := 25) ?hr ?_; (case hd => rfl); (case hg => rfl); (case hr => first | (go_simp; done) | (go_simp; rfl)); intro gb288 hg w2 hbox hb; have n0_ := Aside0.mk (below_step (zB) hb); have n1_ := Aside0.mk (hbox); have n2_ := Aside0.mk (zH hg : w.heap.size ≤ gb288); have n3_ := Aside0.mk (zH hg : w.heap.size ≤ gb288); clear HB; have HB := n0_; have BK288 := n1_; have GW288 := n2_; have GE288 := n3_; clear n0_ n1_ n2_ n3_; clear hb hbox hg) | ((with_reducible refine gate_dst (N := 3) rfl ?_); refine Kd.R_lit (Kd.int .i64) _ 3 ?hg (N := 3) ?hd (xs := ([3, 1] : List Int)) (inner := [.int .i64 3, .int .i64 1]) (ok := fun _ => True) (okp := fun _ => True) ?hr ?hp (fun _ hk => hk) trivial (Below.refl _ _) (Nat.le_refl _) (by simp) ?_; (case hd => rfl); (case hg => rfl); (case hr => first | (go_simp; done) | (go_simp; rfl)); (case hp => exact (Reps.one (show Kd.M (Kd.int .i64) _ _ _ 3 [.int .i64 3] from rfl) (Reps.one (show Kd.M (Kd.int .i64) _ _ _ 1 [.int .i64 1] from rfl) (Reps.none _ _)))); intro v290 w3 ho4 hb hg_ hnew_; clear hg_ hnew_; (first | rw [← Ny289.out] at ho4 | (simp only [Int.reduceToNat] at ho4; rw [← Ny289.out] at ho4)); have n0_ := Aside0.mk (Kd.R_lower (Kd.R_newM (M := fun k_ => (w.heap.size ≤ k_)) ho4 (below_size (zG)) (fun k_ h_ => h_)) (below_size (zG))); have n1_ := Aside0.mk (blk_below (g := gb288) (o := .cells #[.slice none 0 0, .int .i64 0, .slice none 0 0] 25 (0, 0)) (zK BK288.out) hb); have n2_ := Aside0.mk (below_step (zG) hb); clear BK288; clear HB; have HO291 := n0_; have BK288 := n1_; have HB := n2_; clear n0_ n1_ n2_; clear hb ho4) | ((with_reducible refine gate_dst (N := 7) rfl ?_); refine Kd.N_lit k42 _ 42 ?hg (N' := 7) ?hd (xs := ([(⟨20, 1, 0, 0, 0, 0, 0, 0, ([] : List Int)⟩ : S42), (⟨43, 0, a0, 0, 0, 0, 0, 0, ([] : List Int)⟩ : S42)] : List (S42))) (inner := [.int .i64 20, .int .i64 1, .int .i64 0, .int .i64 0, .int .i64 0, .int .i64 0, .int .i64 0, .int .i64 0, .slice none 0 0, .int .i64 43, .int .i64 0, .int .i64 a0, .int .i64 0, .int .i64 0, .int .i64 0, .int .i64 0, .int .i64 0, .slice none 0 0]) (ok := (fun k_ => (w.heap.size ≤ k_) ∧ some k_ ≠ (v290 : Value).ownBlock ∧ k_ ≠ gb288)) (okp := (fun k_ => (w.heap.size ≤ k_) ∧ some k_ ≠ (v290 : Value).ownBlock ∧ k_ ≠ gb288)) ?hr ?hp (fun _ hk => hk) ((show ∀ k_, w3.heap.size ≤ k_ → (fun k_ => (w.heap.size ≤ k_) ∧ some k_ ≠ (v290 : Value).ownBlock ∧ k_ ≠ gb288) k_ from fun k_ hk => ⟨(Nat.le_trans (below_size (zG)) hk), Kd.fresh' (Kd.R_lt (zR HO291.out)) k_ hk, Kd.freshB (g := gb288) (o := .cells #[.slice none 0 0, .int .i64 0, .slice none 0 0] 25 (0, 0)) (zK BK288.out) k_ hk⟩) _ (Nat.le_refl _)) (Below.refl _ _) (Nat.le_refl _) (by simp) ?_; (case hd => rfl); (case hg => rfl); (case hr => first | (go_simp; done) | (go_simp; rfl)); (case hp => exact (Reps.c9 (show Kd.FK k42 _ _ (⟨20, 1, 0, 0, 0, 0, 0, 0, ([] : List Int)⟩ : S42) [.int .i64 20, .int .i64 1, .int .i64 0, .int .i64 0, .int .i64 0, .int .i64 0, .int .i64 0, .int .i64 0, .slice none 0 0] from (k42_mkF _ _ (⟨20, 1, 0, 0, 0, 0, 0, 0, ([] : List Int)⟩ : S42) (Nat.le_refl _) (Kd.F_nil _ _ _))) (Reps.c9 (show Kd.FK k42 _ _ (⟨43, 0, a0, 0, 0, 0, 0, 0, ([] : List Int)⟩ : S42) [.int .i64 43, .int .i64 0, .int .i64 a0, .int .i64 0, .int .i64 0, .int .i64 0, .int .i64 0, .int .i64 0, .slice none 0 0] from (k42_mkF _ _ (⟨43, 0, a0, 0, 0, 0, 0, 0, ([] : List Int)⟩ : S42) (Nat.le_refl _) (Kd.F_nil _ _ _))) (Reps.none _ _)))); intro v293 w5 ho6 hb hg_ hnew_; clear hg_ hnew_; (first | rw [← Ny292.out] at ho6 | (simp only [Int.reduceToNat] at ho6; rw [← Ny292.out] at ho6)); have n0_ := Aside0.mk (Kd.R_below (zR HO291.out) hb); have n1_ := Aside0.mk (Kd.N_lower ho6 (below_size (zG))); have n2_ := Aside0.mk (blk_below (g := gb288) (o := .cells #[.slice none 0 0, .int .i64 0, .slice none 0 0] 25 (0, 0)) (zK BK288.out) hb); have n3_ := Aside0.mk (below_step (zG) hb); clear HO291; clear BK288; clear HB; have HO291 := n0_; have HO294 := n1_; have BK288 := n2_; have HB := n3_; clear n0_ n1_ n2_ n3_; clear hb ho6; obtain ⟨Ao7, co7, eo7⟩ := Kd.N_slice HO294.out; subst eo7) | ((with_reducible refine gate_dst (N := 8) rfl ?_); refine Kd.N_lit (Kd.slice 42 k42) _ 40 ?hg (N' := 8) ?hd (xs := ([y292] : List (List (S42)))) (inner := [.slice Ao7 y292.length co7]) (ok := (fun k_ => (w.heap.size ≤ k_) ∧ some k_ ≠ (v290 : Value).ownBlock ∧ k_ ≠ gb288)) (okp := (fun k_ => (w.heap.size ≤ k_) ∧ some k_ ≠ (v290 : Value).ownBlock ∧ k_ ≠ gb288)) ?hr ?hp (fun _ hk => hk) ((show ∀ k_, w5.heap.size ≤ k_ → (fun k_ => (w.heap.size ≤ k_) ∧ some k_ ≠ (v290 : Value).ownBlock ∧ k_ ≠ gb288) k_ from fun k_ hk => ⟨(Nat.le_trans (below_size (zG)) hk), Kd.fresh' (Kd.R_lt (zR HO291.out)) k_ hk, Kd.freshB (g := gb288) (o := .cells #[.slice none 0 0, .int .i64 0, .slice none 0 0] 25 (0, 0)) (zK BK288.out) k_ hk⟩) _ (Nat.le_refl _)) (Below.refl _ _) (Nat.le_refl _) (by simp) ?_; (case hd => rfl); (case hg => rfl); (case hr => first | (go_simp; done) | (go_simp; rfl)); (case hp => exact (Reps.one (show Kd.FK (Kd.slice 42 k42) _ _ y292 [.slice Ao7 y292.length co7] from (Kd.FK_slice_mk (Kd.N_reads' (Kd.N_mono (ok' := (fun k_ => (w.heap.size ≤ k_) ∧ some k_ ≠ (v290 : Value).ownBlock ∧ k_ ≠ gb288)) (HO294.out) (fun k_ hk => ⟨hk.1, ⟨hk.2.1, hk.2.2⟩⟩))).2.1 (Kd.N_F (Kd.N_mono (ok' := (fun k_ => (w.heap.size ≤ k_) ∧ some k_ ≠ (v290 : Value).ownBlock ∧ k_ ≠ gb288)) (HO294.out) (fun k_ hk => ⟨hk.1, ⟨hk.2.1, hk.2.2⟩⟩))))) (Reps.none _ _))); intro v296 w8 ho9 hb hg_ hnew_; clear hg_ hnew_; (first | rw [← Ny295.out] at ho9 | (simp only [Int.reduceToNat] at ho9; rw [← Ny295.out] at ho9)); have n0_ := Aside0.mk (Kd.R_below (zR HO291.out) hb); have n1_ := Aside0.mk (Kd.N_lower ho9 (below_size (zG))); have n2_ := Aside0.mk (blk_below (g := gb288) (o := .cells #[.slice none 0 0, .int .i64 0, .slice none 0 0] 25 (0, 0)) (zK BK288.out) hb); have n3_ := Aside0.mk (below_step (zG) hb); clear HO291; clear BK288; clear HB; clear HO294; have HO291 := n0_; have HO297 := n1_; have BK288 := n2_; have HB := n3_; clear n0_ n1_ n2_ n3_; clear hb ho9; obtain ⟨Ao10, co10, eo10⟩ := Kd.N_slice HO297.out; subst eo10; obtain ⟨Ao11, co11, eo11⟩ := Kd.R_slice HO291.out; subst eo11) | ((with_reducible refine gate_dst (N := 10) rfl ?_); refine Kd.N_lit k39 _ 39 ?hg (N' := 10) ?hd (xs := ([(⟨(⟨#[109, 97, 105, 110]⟩ : ByteArray), 1, 1, y289, y295⟩ : S39)] : List (S39))) (inner := [.string (⟨#[109, 97, 105, 110]⟩ : ByteArray), .int .i64 1, .int .i64 1, .slice Ao11 y289.length co11, .slice Ao10 y295.length co10]) (ok := (fun k_ => (w.heap.size ≤ k_) ∧ k_ ≠ gb288)) (okp := (fun k_ => (w.heap.size ≤ k_) ∧ k_ ≠ gb288)) ?hr ?hp (fun _ hk => hk) ((show ∀ k_, w8.heap.size ≤ k_ → (fun k_ => (w.heap.size ≤ k_) ∧ k_ ≠ gb288) k_ from fun k_ hk => ⟨(Nat.le_trans (below_size (zG)) hk), Kd.freshB (g := gb288) (o := .cells #[.slice none 0 0, .int .i64 0, .slice none 0 0] 25 (0, 0)) (zK BK288.out) k_ hk⟩) _ (Nat.le_refl _)) (Below.refl _ _) (Nat.le_refl _) (by simp) ?_; (case hd => rfl); (case hg => rfl); (case hr => first | (go_simp; done) | (go_simp; rfl)); (case hp => exact (Reps.c5 (show Kd.FK k39 _ _ (⟨(⟨#[109, 97, 105, 110]⟩ : ByteArray), 1, 1, y289, y295⟩ : S39) [.string (⟨#[109, 97, 105, 110]⟩ : ByteArray), .int .i64 1, .int .i64 1, .slice Ao11 y289.length co11, .slice Ao10 y295.length co10] from (k39_mkF _ _ (⟨(⟨#[109, 97, 105, 110]⟩ : ByteArray), 1, 1, y289, y295⟩ : S39) (Kd.R_reads' (Kd.R_mono (ok' := (fun k_ => (w.heap.size ≤ k_) ∧ k_ ≠ gb288)) (Kd.R_types (HO291.out) BK288.out (by decide)) (fun k_ hk => ⟨hk.1.1, hk.2⟩))).2.1 (Kd.R_F (Kd.R_mono (ok' := (fun k_ => (w.heap.size ≤ k_) ∧ k_ ≠ gb288)) (Kd.R_types (HO291.out) BK288.out (by decide)) (fun k_ hk => ⟨hk.1.1, hk.2⟩))) (Kd.N_reads' (Kd.N_mono (ok' := (fun k_ => (w.heap.size ≤ k_) ∧ k_ ≠ gb288)) (HO297.out) (fun k_ hk => ⟨hk.1, hk.2.2⟩))).2.1 (Kd.N_F (Kd.N_mono (ok' := (fun k_ => (w.heap.size ≤ k_) ∧ k_ ≠ gb288)) (HO297.out) (fun k_ hk => ⟨hk.1, hk.2.2⟩))))) (Reps.none _ _))); intro v299 w12 ho13 hb hg_ hnew_; clear hg_ hnew_; (first | rw [← Ny298.out] at ho13 | (simp only [Int.reduceToNat] at ho13; rw [← Ny298.out] at ho13)); have n0_ := Aside0.mk (Kd.N_lower ho13 (below_size (zG))); have n1_ := Aside0.mk (blk_below (g := gb288) (o := .cells #[.slice none 0 0, .int .i64 0, .slice none 0 0] 25 (0, 0)) (zK BK288.out) hb); have n2_ := Aside0.mk (below_step (zG) hb); clear BK288; clear HB; clear HO291; clear HO297; have HO300 := n0_; have BK288 := n1_; have HB := n2_; clear n0_ n1_ n2_; clear hb ho13; obtain ⟨Ao14, co14, eo14⟩ := Kd.N_slice HO300.out; subst eo14; obtain ⟨hcz15_0, hcz15_1, hcz15_2⟩ := zc3 BK288.out; obtain ⟨hfz15_0, hfz15_1, hfz15_2⟩ := zf3 BK288.out))
 refine bodyPost_ret (results_cell_row rfl _ _ gb288 25 #[.slice Ao14 y298.length co14, .int .i64 0, .slice none 0 0] (0, 0) _ rfl (by (with_reducible repeat (first | refine blk_drewN ?_ _ | refine blk_drew ?_ | refine blk_alloc ?_ _)); refine blk_put (cs := #[.slice Ao14 y298.length co14, .int .i64 0, .slice none 0 0]) ?_ 2 _ rfl; (with_reducible repeat (first | refine blk_drewN ?_ _ | refine blk_drew ?_ | refine blk_alloc ?_ _)); refine blk_put (cs := #[.slice Ao14 y298.length co14, .int .i64 0, .slice none 0 0]) ?_ 1 _ rfl; (with_reducible repeat (first | refine blk_drewN ?_ _ | refine blk_drew ?_ | refine blk_alloc ?_ _)); refine blk_put (cs := #[.slice none 0 0, .int .i64 0, .slice none 0 0]) ?_ 0 _ rfl; (with_reducible repeat (first | refine blk_drewN ?_ _ | refine blk_drew ?_ | refine blk_alloc ?_ _)); exact BK288.out) Try.underlying25 rfl (by kernel_rfl)) rfl ?_
 exact ⟨_, _, zV, by (with_reducible repeat (first | apply Kd.N_alloc | apply Kd.N_drewN | apply Kd.N_drew)); exact Kd.N_mono (Kd.N_far (p := ⟨gb288, 2, none⟩) (Kd.N_far (p := ⟨gb288, 1, none⟩) (Kd.N_far (p := ⟨gb288, 0, none⟩) (Kd.N_mono HO300.out (fun k_ hk => (⟨hk, hk.2⟩ : _ ∧ k_ ≠ gb288))) (fun _ hk => hk.2) (.slice Ao14 y298.length co14)) (fun _ hk => hk.2) (.int .i64 0)) (fun _ hk => hk.2) (.slice none 0 0)) (fun _ hk => ⟨hk.1.1, (by simp [Value.ownBlock])⟩), by first | exact Kd.R_nil _ _ _ _ _ | exact Kd.N_nil _ _ _ _ _ | exact Kd.V_nil _ _ _ _ _ | exact Kd.Q_nil _ _ _ _ _ | exact Kd.S_nil _ _ _ _ _, zG⟩
end Go.Proofs.Ytgbpkbfghonllaa.P

/- A part of it. -/
import Derived.Test.YtomopjomapkmjaaDtP0
namespace Go.Proofs.Ytomopjomapkmjaa.P
open Go.RowKit Go.Proofs.YtomopjomapkmjaaW.PrintWords Go.Proofs.YtomopjomapkmjaaW.PrintLast Go.Proofs.YtomopjomapkmjaaW.PrintMore
attribute [local go_sem] max2_int min2_int max_two min_two max_three min_three max_four min_four   
set_option linter.unusedVariables false
set_option linter.unusedSimpArgs false
def balustraderef17_Few.l0 : Nat → Int → Int → ByteArray → Int → Int → List Int → List (List (S29)) → Option (Bool)
 | 0, _, _, _, _, _, _, _ => none
 | k + 1, x3, x4, x226000, x226001, x226002, x226003, x226004 => if x4 < (x226004.length : Int) then (if 0 ≤ x4 then (balustraderef17_Few.l0 k (wrap64 (x3 + ((rd_L4 x226004 x4).length : Int))) (wrap64 (x4 + 1)) x226000 x226001 x226002 x226003 x226004) else (none)) else (if (x226004.length : Int) ≤ 40 then (some (decide (x3 ≤ 300))) else (some false))
def balustraderef17_Few.f (k : Nat) (a0_0 : ByteArray) (a0_1 : Int) (a0_2 : Int) (l0_3 : List Int) (l0_4 : List (List (S29))) : Option (Bool) := balustraderef17_Few.l0 k 0 0 a0_0 a0_1 a0_2 l0_3 l0_4
set_option maxHeartbeats 8000000 in
set_option maxRecDepth 100000 in
theorem balustraderef17_Few.calls (k : Nat) (a0_0 : ByteArray) (a0_1 : Int) (a0_2 : Int) (A0_3 : Option Addr) (c0_3 : Nat) (l0_3 : List Int) (A0_4 : Option Addr) (c0_4 : Nat) (l0_4 : List (List (S29))) (r : Bool) (w : World) (hr0_3 : Kd.C (Kd.int .i64) w A0_3 l0_3.length l0_3) (hc0_3 : l0_3.length ≤ c0_3) (hr0_4 : Kd.C (Kd.slice 29 k29) w A0_4 l0_4.length l0_4) (hc0_4 : l0_4.length ≤ c0_4) (h : balustraderef17_Few.f k a0_0 a0_1 a0_2 l0_3 l0_4 = some r) :
  Calls Try.prog 17 #[.agg #[.string a0_0, .int .i64 a0_1, .int .i64 a0_2, .slice A0_3 l0_3.length c0_3, .slice A0_4 l0_4.length c0_4]] w fun e w' => e = .returned (.bool r) ∧ Below w.heap.size w w' := by
 have hu32 := Try.underlying32
 have HR0_3 := Aside0.mk hr0_3
 have HC0_3 := Aside0.mk hc0_3
 clear hr0_3 hc0_3
 have HR0_4 := Aside0.mk hr0_4
 have HC0_4 := Aside0.mk hc0_4
 clear hr0_4 hc0_4
 have HB := Aside0.mk (Below.refl w.heap.size w)
 have H : (balustraderef17_Few.l0 k 0 0 a0_0 a0_1 a0_2 l0_3 l0_4) = some r := h
 clear h
 have H' := Aside0.mk H
 clear H
 go_enter Try.func17, Try.ntmps17
 go_wp2_with (first | ((with_reducible refine gate_dst (N := 1) rfl ?_); refine box_event ?hg (N := 1) ?hd (cs := #[.string a0_0, .int .i64 a0_1, .int .i64 a0_2, .slice A0_3 l0_3.length c0_3, .slice A0_4 l0_4.length c0_4]) (t := 32) ?hr ?_; (case hd => rfl); (case hg => rfl); (case hr => first | (go_simp; done) | (go_simp; rfl)); intro gb225 hg w2 hbox hb; have n0_ := Aside0.mk (below_step (zB) hb); have n1_ := Aside0.mk (hbox); have n2_ := Aside0.mk ((by rw [hg]; exact (below_size (zB)) : w.heap.size ≤ gb225)); have n3_ := Aside0.mk ((by rw [hg]; exact (below_size (zB)) : w.heap.size ≤ gb225)); clear HB; have HB := n0_; have BK225 := n1_; have GW225 := n2_; have GE225 := n3_; clear n0_ n1_ n2_ n3_; clear hb hbox hg))
 go_loopg [3, 4] k (fun kq v3 v4 w' => ∃ (x3_1 : Int) (x4_1 : Int), v3 = .int .i64 x3_1 ∧ v4 = .int .i64 x4_1 ∧ Aside0 (balustraderef17_Few.l0 kq x3_1 x4_1 a0_0 a0_1 a0_2 l0_3 l0_4 = some r) ∧ Aside0 (kq ≤ k) ∧ Aside0 (w'.heap[gb225]? = some (.cells #[.string a0_0, .int .i64 a0_1, .int .i64 a0_2, (.slice A0_3 l0_3.length c0_3), (.slice A0_4 l0_4.length c0_4)] 32 (0, 0))) ∧ Aside0 (Below w.heap.size w w'))
 case atStart => exact ⟨(0), (0), zQ, zQ, H', ⟨Nat.le_refl _⟩, ⟨zK BK225.out⟩, ⟨by repeat (first | (with_reducible first | exact HB.out | apply below_alloc | apply pw_below_drewN | apply below_drew1 | refine below_set ?_ GE225.out) | exact HB.out)⟩⟩
 case round =>
  clear H'
  try clear c1
  try clear p2
  obtain ⟨x3_1, x4_1, rfl, rfl, HA, HK1, BK225, HB⟩ := hrel
  cases gk with
  | zero => exact absurd HA.out (by simp [balustraderef17_Few.l0])
  | succ k1 =>
   have H := HA.out
   clear HA
   simp only [balustraderef17_Few.l0] at H
   by_cases c3 : x4_1 < (l0_4.length : Int)
   ·rw [if_pos c3] at H
    have c3b0 : decide (x4_1 < (l0_4.length : Int)) = true := decide_eq_true c3
    clear c3
    by_cases c4 : 0 ≤ x4_1
    ·rw [if_pos c4] at H
     have c4b0 : decide (0 ≤ x4_1) = true := decide_eq_true c4
     clear c4
     have H' := Aside0.mk H
     clear H
     have hcz5_0 : wr.cell? ⟨gb225, 0, none⟩ = some (.string a0_0) := (blk_cell BK225.out 0).trans rfl
     have hcz5_1 : wr.cell? ⟨gb225, 1, none⟩ = some (.int .i64 a0_1) := (blk_cell BK225.out 1).trans rfl
     have hcz5_2 : wr.cell? ⟨gb225, 2, none⟩ = some (.int .i64 a0_2) := (blk_cell BK225.out 2).trans rfl
     have hcz5_3 : wr.cell? ⟨gb225, 3, none⟩ = some (.slice A0_3 l0_3.length c0_3) := (blk_cell BK225.out 3).trans rfl
     have hcz5_4 : wr.cell? ⟨gb225, 4, none⟩ = some (.slice A0_4 l0_4.length c0_4) := (blk_cell BK225.out 4).trans rfl
     have hfz5_0 := blk_frozen BK225.out 0
     have hfz5_1 := blk_frozen BK225.out 1
     have hfz5_2 := blk_frozen BK225.out 2
     have hfz5_3 := blk_frozen BK225.out 3
     have hfz5_4 := blk_frozen BK225.out 4
     have p226 : 0 ≤ (x4_1 : Int) := zO
     have q226 : x4_1 < (l0_4.length : Int) := zO
     obtain ⟨ad226, A226_0, c226_0, e226, hx226_0, hl226_0, hi226_0⟩ := at_L4 HR0_4.out x4_1 p226 q226
     cases e226
     replace hx226_0 := (HB.out.cell (World.block_lt_of_cell? w _ hx226_0)).trans hx226_0
     have HR226_0 := Aside0.mk hi226_0
     have HC226_0 := Aside0.mk hl226_0
     clear hi226_0 hl226_0
     replace p226 := eq_true p226
     replace q226 := eq_true q226
     go_wp2
     go_roundg k1
     case measure => have := HK1.out; omega
     case rel => exact ⟨(wrap64 (x3_1 + ((rd_L4 l0_4 x4_1).length : Int))), (wrap64 (x4_1 + 1)), zQ, zQ, H', ⟨by have := HK1.out; omega⟩, ⟨zK BK225.out⟩, ⟨by repeat (first | (with_reducible first | exact HB.out | apply below_alloc | apply pw_below_drewN | apply below_drew1 | refine below_set ?_ GE225.out) | exact HB.out)⟩⟩
    ·rw [if_neg c4] at H
     exact absurd H (by simp)
   ·rw [if_neg c3] at H
    have c3b0 : decide (x4_1 < (l0_4.length : Int)) = false := decide_eq_false c3
    clear c3
    by_cases c6 : (l0_4.length : Int) ≤ 40
    ·rw [if_pos c6] at H
     have c6b0 : decide ((l0_4.length : Int) ≤ 40) = true := decide_eq_true c6
     have c6b1 : decide (l0_4.length ≤ 40) = true := decide_eq_true (by omega)
     clear c6
     obtain rfl := Option.some.inj H
     have hcz7_0 : wr.cell? ⟨gb225, 0, none⟩ = some (.string a0_0) := (blk_cell BK225.out 0).trans rfl
     have hcz7_1 : wr.cell? ⟨gb225, 1, none⟩ = some (.int .i64 a0_1) := (blk_cell BK225.out 1).trans rfl
     have hcz7_2 : wr.cell? ⟨gb225, 2, none⟩ = some (.int .i64 a0_2) := (blk_cell BK225.out 2).trans rfl
     have hcz7_3 : wr.cell? ⟨gb225, 3, none⟩ = some (.slice A0_3 l0_3.length c0_3) := (blk_cell BK225.out 3).trans rfl
     have hcz7_4 : wr.cell? ⟨gb225, 4, none⟩ = some (.slice A0_4 l0_4.length c0_4) := (blk_cell BK225.out 4).trans rfl
     have hfz7_0 := blk_frozen BK225.out 0
     have hfz7_1 := blk_frozen BK225.out 1
     have hfz7_2 := blk_frozen BK225.out 2
     have hfz7_3 := blk_frozen BK225.out 3
     have hfz7_4 := blk_frozen BK225.out 4
     go_wp2
     go_ret
     exact ⟨zV, by repeat (first | (with_reducible first | exact HB.out | apply below_alloc | apply pw_below_drewN | apply below_drew1 | refine below_set ?_ GE225.out) | exact HB.out)⟩
    ·rw [if_neg c6] at H
     have c6b0 : decide ((l0_4.length : Int) ≤ 40) = false := decide_eq_false c6
     have c6b1 : decide (l0_4.length ≤ 40) = false := decide_eq_false (by omega)
     clear c6
     obtain rfl := Option.some.inj H
     have hcz8_0 : wr.cell? ⟨gb225, 0, none⟩ = some (.string a0_0) := (blk_cell BK225.out 0).trans rfl
     have hcz8_1 : wr.cell? ⟨gb225, 1, none⟩ = some (.int .i64 a0_1) := (blk_cell BK225.out 1).trans rfl
     have hcz8_2 : wr.cell? ⟨gb225, 2, none⟩ = some (.int .i64 a0_2) := (blk_cell BK225.out 2).trans rfl
     have hcz8_3 : wr.cell? ⟨gb225, 3, none⟩ = some (.slice A0_3 l0_3.length c0_3) := (blk_cell BK225.out 3).trans rfl
     have hcz8_4 : wr.cell? ⟨gb225, 4, none⟩ = some (.slice A0_4 l0_4.length c0_4) := (blk_cell BK225.out 4).trans rfl
     have hfz8_0 := blk_frozen BK225.out 0
     have hfz8_1 := blk_frozen BK225.out 1
     have hfz8_2 := blk_frozen BK225.out 2
     have hfz8_3 := blk_frozen BK225.out 3
     have hfz8_4 := blk_frozen BK225.out 4
     go_wp2
     go_ret
     exact ⟨zV, by repeat (first | (with_reducible first | exact HB.out | apply below_alloc | apply pw_below_drewN | apply below_drew1 | refine below_set ?_ GE225.out) | exact HB.out)⟩
def balustradebase_HasInt.l0 : Nat → List Int → Int → Int → Option (Bool)
 | 0, _, _, _ => none
 | k + 1, x0, x1, x5 => if x5 < (x0.length : Int) then (if 0 ≤ x5 then (if (rd x0 x5) = x1 then (some true) else (balustradebase_HasInt.l0 k x0 x1 (wrap64 (x5 + 1)))) else (none)) else (some false)
def balustradebase_HasInt.f (k : Nat) (l0 : List Int) (a1 : Int) : Option (Bool) := balustradebase_HasInt.l0 k l0 a1 0
set_option maxHeartbeats 8000000 in
set_option maxRecDepth 100000 in
theorem balustradebase_HasInt.calls (k : Nat) (A0 : Option Addr) (c0 : Nat) (l0 : List Int) (a1 : Int) (r : Bool) (w : World) (hr0 : Kd.C (Kd.int .i64) w A0 l0.length l0) (hc0 : l0.length ≤ c0) (h : balustradebase_HasInt.f k l0 a1 = some r) :
  Calls Try.prog 38 #[.slice A0 l0.length c0, .int .i64 a1] w fun e w' => e = .returned (.bool r) ∧ Drawn0 w w' := by
 have HR0 := Aside0.mk hr0
 have HC0 := Aside0.mk hc0
 clear hr0 hc0
 have H : (balustradebase_HasInt.l0 k l0 a1 0) = some r := h
 clear h
 have H' := Aside0.mk H
 clear H
 go_enter Try.func38, Try.ntmps38
 go_wp2
 go_loopg [5] k (fun kq v5 w' => ∃ (x5_1 : Int), v5 = .int .i64 x5_1 ∧ Aside0 (balustradebase_HasInt.l0 kq l0 a1 x5_1 = some r) ∧ Aside0 (kq ≤ k) ∧ Drawn0 w w')
 case atStart => exact ⟨(0), zQ, H', ⟨Nat.le_refl _⟩, zD⟩
 case round =>
  clear H'
  try clear p2
  obtain ⟨x5_1, rfl, HA, HK1, ⟨m1, rfl⟩⟩ := hrel
  cases gk with
  | zero => exact absurd HA.out (by simp [balustradebase_HasInt.l0])
  | succ k1 =>
   have H := HA.out
   clear HA
   simp only [balustradebase_HasInt.l0] at H
   by_cases c3 : x5_1 < (l0.length : Int)
   ·rw [if_pos c3] at H
    have c3b0 : decide (x5_1 < (l0.length : Int)) = true := decide_eq_true c3
    clear c3
    by_cases c4 : 0 ≤ x5_1
    ·rw [if_pos c4] at H
     have c4b0 : decide (0 ≤ x5_1) = true := decide_eq_true c4
     clear c4
     by_cases c5 : (rd l0 x5_1) = a1
     ·rw [if_pos c5] at H
      have c5b0 : ((rd l0 x5_1) == a1) = true := beq_iff_eq.mpr c5
      have c5b1 : ((rd l0 x5_1) != a1) = false := bne_eq_false_iff_eq.mpr c5
      clear c5
      obtain rfl := Option.some.inj H
      have p227 : 0 ≤ (x5_1 : Int) := zO
      have q227 : x5_1 < (l0.length : Int) := zO
      obtain ⟨ad227, e227, hx227_0⟩ := Kd.at_int HR0.out x5_1 p227 q227
      cases e227
      replace p227 := eq_true p227
      replace q227 := eq_true q227
      go_wp2
      go_ret
      exact ⟨zQ, zD⟩
     ·rw [if_neg c5] at H
      have c5b0 : ((rd l0 x5_1) == a1) = false := beq_eq_false_iff_ne.mpr c5
      have c5b1 : ((rd l0 x5_1) != a1) = true := bne_iff_ne.mpr c5
      have H' := Aside0.mk H
      clear H
      have p227 : 0 ≤ (x5_1 : Int) := zO
      have q227 : x5_1 < (l0.length : Int) := zO
      obtain ⟨ad227, e227, hx227_0⟩ := Kd.at_int HR0.out x5_1 p227 q227
      cases e227
      replace p227 := eq_true p227
      replace q227 := eq_true q227
      go_wp2
      go_roundg k1
      case measure => have := HK1.out; omega
      case rel => exact ⟨(wrap64 (x5_1 + 1)), zQ, H', ⟨by have := HK1.out; omega⟩, zD⟩
    ·rw [if_neg c4] at H
     exact absurd H (by simp)
   ·rw [if_neg c3] at H
    have c3b0 : decide (x5_1 < (l0.length : Int)) = false := decide_eq_false c3
    clear c3
    obtain rfl := Option.some.inj H
    go_wp2
    go_ret
    exact ⟨zQ, zD⟩
def balustraderef15_two.f (k : Nat) (a0 : Int) : Option (Bool) := if a0 ≥ 3 then (if a0 ≤ 16 then (some true) else ((balustradebase_HasInt.f k (([29, 32, 33, 34, 35, 37] : List Int)) a0).bind fun t231 => (some t231))) else ((balustradebase_HasInt.f k (([29, 32, 33, 34, 35, 37] : List Int)) a0).bind fun t235 => (some t235))
set_option maxHeartbeats 8000000 in
set_option maxRecDepth 100000 in
theorem balustraderef15_two.calls (k : Nat) (a0 : Int) (r : Bool) (w : World) (h : balustraderef15_two.f k a0 = some r) :
  Calls Try.prog 77 #[.int .i64 a0] w fun e w' => e = .returned (.bool r) ∧ Below w.heap.size w w' := by
 have HB := Aside0.mk (Below.refl w.heap.size w)
 have H : (if a0 ≥ 3 then (if a0 ≤ 16 then (some true) else ((balustradebase_HasInt.f k (([29, 32, 33, 34, 35, 37] : List Int)) a0).bind fun t231 => (some t231))) else ((balustradebase_HasInt.f k (([29, 32, 33, 34, 35, 37] : List Int)) a0).bind fun t235 => (some t235))) = some r := h
 clear h
 by_cases c2 : a0 ≥ 3
 ·rw [if_pos c2] at H
  have c2b0 : decide (3 ≤ a0) = true := decide_eq_true c2
  clear c2
  by_cases c3 : a0 ≤ 16
  ·rw [if_pos c3] at H
   have c3b0 : decide (a0 ≤ 16) = true := decide_eq_true c3
   clear c3
   obtain rfl := Option.some.inj H
   go_enter Try.func77, Try.ntmps77
   go_wp2
   go_ret
   exact ⟨zV, zB⟩
  ·rw [if_neg c3] at H
   have c3b0 : decide (a0 ≤ 16) = false := decide_eq_false c3
   clear c3
   obtain ⟨y228, hy228⟩ : ∃ y_ : List Int, y_ = (([29, 32, 33, 34, 35, 37] : List Int)) := ⟨_, rfl⟩
   replace H : ((balustradebase_HasInt.f k y228 a0).bind fun t231 => (some t231)) = some r := by first | (rw [hy228]; with_reducible exact H) | (have H2_ := (Option.bind_some _ _).symm.trans H; rw [hy228]; with_reducible exact H2_) | (have H2_ := (Option.bind_some _ _).symm.trans H; with_reducible exact H2_) | with_reducible exact H | (rw [hy228]; exact H) | exact H
   have Ny228 := Aside0.mk hy228
   clear hy228
   replace H := Option.bind_eq_some_iff.mp H
   obtain ⟨t231, A40, H⟩ := H
   replace H : (some t231) = some r := H
   have A4 := Aside0.mk A40
   clear A40
   obtain rfl := Option.some.inj H
   go_enter Try.func77, Try.ntmps77
   go_wp2_with (first | ((with_reducible refine gate_dst (N := 10) rfl ?_); (try (refine gate_guard (by rfl) ?_; dsimp only)); refine Kd.R_lit (Kd.int .i64) _ 3 ?hg (N := 10) ?hd (xs := ([29, 32, 33, 34, 35, 37] : List Int)) (inner := [.int .i64 29, .int .i64 32, .int .i64 33, .int .i64 34, .int .i64 35, .int .i64 37]) (ok := fun _ => True) (okp := fun _ => True) ?hr ?hp (fun _ hk => hk) trivial (Below.refl _ _) (Nat.le_refl _) (by simp) ?_; (case hd => rfl); (case hg => rfl); (case hr => first | (go_simp; done) | (go_simp; rfl)); (case hp => exact (Reps.one (show Kd.M (Kd.int .i64) _ _ _ 29 [.int .i64 29] from rfl) (Reps.one (show Kd.M (Kd.int .i64) _ _ _ 32 [.int .i64 32] from rfl) (Reps.one (show Kd.M (Kd.int .i64) _ _ _ 33 [.int .i64 33] from rfl) (Reps.one (show Kd.M (Kd.int .i64) _ _ _ 34 [.int .i64 34] from rfl) (Reps.one (show Kd.M (Kd.int .i64) _ _ _ 35 [.int .i64 35] from rfl) (Reps.one (show Kd.M (Kd.int .i64) _ _ _ 37 [.int .i64 37] from rfl) (Reps.none _ _)))))))); intro v229 w5 ho6 hb hg_ hnew_; clear hg_ hnew_; (first | rw [← Ny228.out] at ho6 | (simp only [Int.reduceToNat] at ho6; rw [← Ny228.out] at ho6)); have n0_ := Aside0.mk (Kd.R_lower ho6 (below_size (zB))); have n1_ := Aside0.mk (below_step (zB) hb); clear HB; have HO230 := n0_; have HB := n1_; clear n0_ n1_; clear hb ho6; obtain ⟨Ao7, co7, eo7⟩ := Kd.R_slice HO230.out; subst eo7) | (go_at_call 38; (with_reducible refine (balustradebase_HasInt.calls k _ _ y228 a0 t231 _ ?side1 ?side2 A4.out).mono ?_); (case side1 => exact zC (Kd.R_reads' HO230.out).2.2); (case side2 => exact (Kd.R_reads' HO230.out).2.1); rintro e w' ⟨rfl, ⟨nd, rfl⟩⟩))
   go_ret
   exact ⟨zV, zB⟩
 ·rw [if_neg c2] at H
  have c2b0 : decide (3 ≤ a0) = false := decide_eq_false c2
  clear c2
  obtain ⟨y232, hy232⟩ : ∃ y_ : List Int, y_ = (([29, 32, 33, 34, 35, 37] : List Int)) := ⟨_, rfl⟩
  replace H : ((balustradebase_HasInt.f k y232 a0).bind fun t235 => (some t235)) = some r := by first | (rw [hy232]; with_reducible exact H) | (have H2_ := (Option.bind_some _ _).symm.trans H; rw [hy232]; with_reducible exact H2_) | (have H2_ := (Option.bind_some _ _).symm.trans H; with_reducible exact H2_) | with_reducible exact H | (rw [hy232]; exact H) | exact H
  have Ny232 := Aside0.mk hy232
  clear hy232
  replace H := Option.bind_eq_some_iff.mp H
  obtain ⟨t235, A80, H⟩ := H
  replace H : (some t235) = some r := H
  have A8 := Aside0.mk A80
  clear A80
  obtain rfl := Option.some.inj H
  go_enter Try.func77, Try.ntmps77
  go_wp2_with (first | ((with_reducible refine gate_dst (N := 10) rfl ?_); (try (refine gate_guard (by rfl) ?_; dsimp only)); refine Kd.R_lit (Kd.int .i64) _ 3 ?hg (N := 10) ?hd (xs := ([29, 32, 33, 34, 35, 37] : List Int)) (inner := [.int .i64 29, .int .i64 32, .int .i64 33, .int .i64 34, .int .i64 35, .int .i64 37]) (ok := fun _ => True) (okp := fun _ => True) ?hr ?hp (fun _ hk => hk) trivial (Below.refl _ _) (Nat.le_refl _) (by simp) ?_; (case hd => rfl); (case hg => rfl); (case hr => first | (go_simp; done) | (go_simp; rfl)); (case hp => exact (Reps.one (show Kd.M (Kd.int .i64) _ _ _ 29 [.int .i64 29] from rfl) (Reps.one (show Kd.M (Kd.int .i64) _ _ _ 32 [.int .i64 32] from rfl) (Reps.one (show Kd.M (Kd.int .i64) _ _ _ 33 [.int .i64 33] from rfl) (Reps.one (show Kd.M (Kd.int .i64) _ _ _ 34 [.int .i64 34] from rfl) (Reps.one (show Kd.M (Kd.int .i64) _ _ _ 35 [.int .i64 35] from rfl) (Reps.one (show Kd.M (Kd.int .i64) _ _ _ 37 [.int .i64 37] from rfl) (Reps.none _ _)))))))); intro v233 w9 ho10 hb hg_ hnew_; clear hg_ hnew_; (first | rw [← Ny232.out] at ho10 | (simp only [Int.reduceToNat] at ho10; rw [← Ny232.out] at ho10)); have n0_ := Aside0.mk (Kd.R_lower ho10 (below_size (zB))); have n1_ := Aside0.mk (below_step (zB) hb); clear HB; have HO234 := n0_; have HB := n1_; clear n0_ n1_; clear hb ho10; obtain ⟨Ao11, co11, eo11⟩ := Kd.R_slice HO234.out; subst eo11) | (go_at_call 38; (with_reducible refine (balustradebase_HasInt.calls k _ _ y232 a0 t235 _ ?side1 ?side2 A8.out).mono ?_); (case side1 => exact zC (Kd.R_reads' HO234.out).2.2); (case side2 => exact (Kd.R_reads' HO234.out).2.1); rintro e w' ⟨rfl, ⟨nd, rfl⟩⟩))
  go_ret
  exact ⟨zV, zB⟩
def balustraderef15_fits.f (a0 : Bool) (a1 : Int) : Option (Bool) := if a1 = 0 then (some true) else (if a0 = true then (some (decide (a1 > 0))) else (some false))
set_option maxHeartbeats 8000000 in
set_option maxRecDepth 100000 in
theorem balustraderef15_fits.calls (a0 : Bool) (a1 : Int) (r : Bool) (w : World) (h : balustraderef15_fits.f a0 a1 = some r) :
  Calls Try.prog 78 #[.bool a0, .int .i64 a1] w fun e w' => e = .returned (.bool r) ∧ Drawn0 w w' := by
 have H : (if a1 = 0 then (some true) else (if a0 = true then (some (decide (a1 > 0))) else (some false))) = some r := h
 clear h
 by_cases c3 : a1 = 0
 ·rw [if_pos c3] at H
  have c3b0 : (a1 == 0) = true := beq_iff_eq.mpr c3
  have c3b1 : (a1 != 0) = false := bne_eq_false_iff_eq.mpr c3
  clear c3
  obtain rfl := Option.some.inj H
  go_enter Try.func78, Try.ntmps78
  go_wp2
  go_ret
  exact ⟨zQ, zD⟩
 ·rw [if_neg c3] at H
  have c3b0 : (a1 == 0) = false := beq_eq_false_iff_ne.mpr c3
  have c3b1 : (a1 != 0) = true := bne_iff_ne.mpr c3
  by_cases c4 : a0 = true
  ·subst c4
   have H1 : (some (decide (a1 > 0))) = some r := by rw [if_pos rfl] at H; exact H
   clear H
   have H := H1
   clear H1
   obtain rfl := Option.some.inj H
   go_enter Try.func78, Try.ntmps78
   go_wp2
   go_ret
   exact ⟨zQ, zD⟩
  ·replace c4 := Bool.eq_false_iff.mpr c4
   subst c4
   have H1 : (some false) = some r := by rw [if_neg (show ¬ (false = true) by decide)] at H; exact H
   clear H
   have H := H1
   clear H1
   obtain rfl := Option.some.inj H
   go_enter Try.func78, Try.ntmps78
   go_wp2
   go_ret
   exact ⟨zQ, zD⟩
def balustraderef15_Writes.f (a0 : Int) : Option (Bool) := if a0 ≥ 3 then (if a0 ≤ 16 then (some true) else (if a0 ≥ 20 then (if a0 ≤ 29 then (some true) else (if a0 = 39 then (some true) else (if a0 = 44 then (some true) else (some (a0 == 45))))) else (if a0 = 39 then (some true) else (if a0 = 44 then (some true) else (some (a0 == 45)))))) else (if a0 ≥ 20 then (if a0 ≤ 29 then (some true) else (if a0 = 39 then (some true) else (if a0 = 44 then (some true) else (some (a0 == 45))))) else (if a0 = 39 then (some true) else (if a0 = 44 then (some true) else (some (a0 == 45)))))
set_option maxHeartbeats 8000000 in
set_option maxRecDepth 100000 in
theorem balustraderef15_Writes.calls (a0 : Int) (r : Bool) (w : World) (h : balustraderef15_Writes.f a0 = some r) :
  Calls Try.prog 79 #[.int .i64 a0] w fun e w' => e = .returned (.bool r) ∧ Drawn0 w w' := by
 have H : (if a0 ≥ 3 then (if a0 ≤ 16 then (some true) else (if a0 ≥ 20 then (if a0 ≤ 29 then (some true) else (if a0 = 39 then (some true) else (if a0 = 44 then (some true) else (some (a0 == 45))))) else (if a0 = 39 then (some true) else (if a0 = 44 then (some true) else (some (a0 == 45)))))) else (if a0 ≥ 20 then (if a0 ≤ 29 then (some true) else (if a0 = 39 then (some true) else (if a0 = 44 then (some true) else (some (a0 == 45))))) else (if a0 = 39 then (some true) else (if a0 = 44 then (some true) else (some (a0 == 45)))))) = some r := h
 clear h
 by_cases c2 : a0 ≥ 3
 ·rw [if_pos c2] at H
  have c2b0 : decide (3 ≤ a0) = true := decide_eq_true c2
  clear c2
  by_cases c3 : a0 ≤ 16
  ·rw [if_pos c3] at H
   have c3b0 : decide (a0 ≤ 16) = true := decide_eq_true c3
   clear c3
   obtain rfl := Option.some.inj H
   go_enter Try.func79, Try.ntmps79
   go_wp2
   go_ret
   exact ⟨zQ, zD⟩
  ·rw [if_neg c3] at H
   have c3b0 : decide (a0 ≤ 16) = false := decide_eq_false c3
   clear c3
   by_cases c4 : a0 ≥ 20
   ·rw [if_pos c4] at H
    have c4b0 : decide (20 ≤ a0) = true := decide_eq_true c4
    clear c4
    by_cases c5 : a0 ≤ 29
    ·rw [if_pos c5] at H
     have c5b0 : decide (a0 ≤ 29) = true := decide_eq_true c5
     clear c5
     obtain rfl := Option.some.inj H
     go_enter Try.func79, Try.ntmps79
     go_wp2
     go_ret
     exact ⟨zQ, zD⟩
    ·rw [if_neg c5] at H
     have c5b0 : decide (a0 ≤ 29) = false := decide_eq_false c5
     clear c5
     by_cases c6 : a0 = 39
     ·rw [if_pos c6] at H
      have c6b0 : (a0 == 39) = true := beq_iff_eq.mpr c6
      have c6b1 : (a0 != 39) = false := bne_eq_false_iff_eq.mpr c6
      clear c6
      obtain rfl := Option.some.inj H
      go_enter Try.func79, Try.ntmps79
      go_wp2
      go_ret
      exact ⟨zQ, zD⟩
     ·rw [if_neg c6] at H
      have c6b0 : (a0 == 39) = false := beq_eq_false_iff_ne.mpr c6
      have c6b1 : (a0 != 39) = true := bne_iff_ne.mpr c6
      by_cases c7 : a0 = 44
      ·rw [if_pos c7] at H
       have c7b0 : (a0 == 44) = true := beq_iff_eq.mpr c7
       have c7b1 : (a0 != 44) = false := bne_eq_false_iff_eq.mpr c7
       clear c7
       obtain rfl := Option.some.inj H
       go_enter Try.func79, Try.ntmps79
       go_wp2
       go_ret
       exact ⟨zQ, zD⟩
      ·rw [if_neg c7] at H
       have c7b0 : (a0 == 44) = false := beq_eq_false_iff_ne.mpr c7
       have c7b1 : (a0 != 44) = true := bne_iff_ne.mpr c7
       obtain rfl := Option.some.inj H
       go_enter Try.func79, Try.ntmps79
       go_wp2
       go_ret
       exact ⟨zQ, zD⟩
   ·rw [if_neg c4] at H
    have c4b0 : decide (20 ≤ a0) = false := decide_eq_false c4
    clear c4
    by_cases c8 : a0 = 39
    ·rw [if_pos c8] at H
     have c8b0 : (a0 == 39) = true := beq_iff_eq.mpr c8
     have c8b1 : (a0 != 39) = false := bne_eq_false_iff_eq.mpr c8
     clear c8
     obtain rfl := Option.some.inj H
     go_enter Try.func79, Try.ntmps79
     go_wp2
     go_ret
     exact ⟨zQ, zD⟩
    ·rw [if_neg c8] at H
     have c8b0 : (a0 == 39) = false := beq_eq_false_iff_ne.mpr c8
     have c8b1 : (a0 != 39) = true := bne_iff_ne.mpr c8
     by_cases c9 : a0 = 44
     ·rw [if_pos c9] at H
      have c9b0 : (a0 == 44) = true := beq_iff_eq.mpr c9
      have c9b1 : (a0 != 44) = false := bne_eq_false_iff_eq.mpr c9
      clear c9
      obtain rfl := Option.some.inj H
      go_enter Try.func79, Try.ntmps79
      go_wp2
      go_ret
      exact ⟨zQ, zD⟩
     ·rw [if_neg c9] at H
      have c9b0 : (a0 == 44) = false := beq_eq_false_iff_ne.mpr c9
      have c9b1 : (a0 != 44) = true := bne_iff_ne.mpr c9
      obtain rfl := Option.some.inj H
      go_enter Try.func79, Try.ntmps79
      go_wp2
      go_ret
      exact ⟨zQ, zD⟩
 ·rw [if_neg c2] at H
  have c2b0 : decide (3 ≤ a0) = false := decide_eq_false c2
  clear c2
  by_cases c10 : a0 ≥ 20
  ·rw [if_pos c10] at H
   have c10b0 : decide (20 ≤ a0) = true := decide_eq_true c10
   clear c10
   by_cases c11 : a0 ≤ 29
   ·rw [if_pos c11] at H
    have c11b0 : decide (a0 ≤ 29) = true := decide_eq_true c11
    clear c11
    obtain rfl := Option.some.inj H
    go_enter Try.func79, Try.ntmps79
    go_wp2
    go_ret
    exact ⟨zQ, zD⟩
   ·rw [if_neg c11] at H
    have c11b0 : decide (a0 ≤ 29) = false := decide_eq_false c11
    clear c11
    by_cases c12 : a0 = 39
    ·rw [if_pos c12] at H
     have c12b0 : (a0 == 39) = true := beq_iff_eq.mpr c12
     have c12b1 : (a0 != 39) = false := bne_eq_false_iff_eq.mpr c12
     clear c12
     obtain rfl := Option.some.inj H
     go_enter Try.func79, Try.ntmps79
     go_wp2
     go_ret
     exact ⟨zQ, zD⟩
    ·rw [if_neg c12] at H
     have c12b0 : (a0 == 39) = false := beq_eq_false_iff_ne.mpr c12
     have c12b1 : (a0 != 39) = true := bne_iff_ne.mpr c12
     by_cases c13 : a0 = 44
     ·rw [if_pos c13] at H
      have c13b0 : (a0 == 44) = true := beq_iff_eq.mpr c13
      have c13b1 : (a0 != 44) = false := bne_eq_false_iff_eq.mpr c13
      clear c13
      obtain rfl := Option.some.inj H
      go_enter Try.func79, Try.ntmps79
      go_wp2
      go_ret
      exact ⟨zQ, zD⟩
     ·rw [if_neg c13] at H
      have c13b0 : (a0 == 44) = false := beq_eq_false_iff_ne.mpr c13
      have c13b1 : (a0 != 44) = true := bne_iff_ne.mpr c13
      obtain rfl := Option.some.inj H
      go_enter Try.func79, Try.ntmps79
      go_wp2
      go_ret
      exact ⟨zQ, zD⟩
  ·rw [if_neg c10] at H
   have c10b0 : decide (20 ≤ a0) = false := decide_eq_false c10
   clear c10
   by_cases c14 : a0 = 39
   ·rw [if_pos c14] at H
    have c14b0 : (a0 == 39) = true := beq_iff_eq.mpr c14
    have c14b1 : (a0 != 39) = false := bne_eq_false_iff_eq.mpr c14
    clear c14
    obtain rfl := Option.some.inj H
    go_enter Try.func79, Try.ntmps79
    go_wp2
    go_ret
    exact ⟨zQ, zD⟩
   ·rw [if_neg c14] at H
    have c14b0 : (a0 == 39) = false := beq_eq_false_iff_ne.mpr c14
    have c14b1 : (a0 != 39) = true := bne_iff_ne.mpr c14
    by_cases c15 : a0 = 44
    ·rw [if_pos c15] at H
     have c15b0 : (a0 == 44) = true := beq_iff_eq.mpr c15
     have c15b1 : (a0 != 44) = false := bne_eq_false_iff_eq.mpr c15
     clear c15
     obtain rfl := Option.some.inj H
     go_enter Try.func79, Try.ntmps79
     go_wp2
     go_ret
     exact ⟨zQ, zD⟩
    ·rw [if_neg c15] at H
     have c15b0 : (a0 == 44) = false := beq_eq_false_iff_ne.mpr c15
     have c15b1 : (a0 != 44) = true := bne_iff_ne.mpr c15
     obtain rfl := Option.some.inj H
     go_enter Try.func79, Try.ntmps79
     go_wp2
     go_ret
     exact ⟨zQ, zD⟩
def balustraderef15_one.f (k : Nat) (a0 : Int) : Option (Bool) := (balustradebase_HasInt.f k (([23, 24, 25, 26, 27, 28, 31, 36, 38, 40, 42, 43] : List Int)) a0).bind fun t239 => (some t239)
set_option maxHeartbeats 8000000 in
set_option maxRecDepth 100000 in
theorem balustraderef15_one.calls (k : Nat) (a0 : Int) (r : Bool) (w : World) (h : balustraderef15_one.f k a0 = some r) :
  Calls Try.prog 80 #[.int .i64 a0] w fun e w' => e = .returned (.bool r) ∧ Below w.heap.size w w' := by
 have HB := Aside0.mk (Below.refl w.heap.size w)
 have H : ((balustradebase_HasInt.f k (([23, 24, 25, 26, 27, 28, 31, 36, 38, 40, 42, 43] : List Int)) a0).bind fun t239 => (some t239)) = some r := h
 clear h
 obtain ⟨y236, hy236⟩ : ∃ y_ : List Int, y_ = (([23, 24, 25, 26, 27, 28, 31, 36, 38, 40, 42, 43] : List Int)) := ⟨_, rfl⟩
 replace H : ((balustradebase_HasInt.f k y236 a0).bind fun t239 => (some t239)) = some r := by first | (rw [hy236]; with_reducible exact H) | (have H2_ := (Option.bind_some _ _).symm.trans H; rw [hy236]; with_reducible exact H2_) | (have H2_ := (Option.bind_some _ _).symm.trans H; with_reducible exact H2_) | with_reducible exact H | (rw [hy236]; exact H) | exact H
 have Ny236 := Aside0.mk hy236
 clear hy236
 replace H := Option.bind_eq_some_iff.mp H
 obtain ⟨t239, A20, H⟩ := H
 replace H : (some t239) = some r := H
 have A2 := Aside0.mk A20
 clear A20
 obtain rfl := Option.some.inj H
 go_enter Try.func80, Try.ntmps80
 go_wp2_with (first | ((with_reducible refine gate_dst (N := 3) rfl ?_); refine Kd.R_lit (Kd.int .i64) _ 3 ?hg (N := 3) ?hd (xs := ([23, 24, 25, 26, 27, 28, 31, 36, 38, 40, 42, 43] : List Int)) (inner := [.int .i64 23, .int .i64 24, .int .i64 25, .int .i64 26, .int .i64 27, .int .i64 28, .int .i64 31, .int .i64 36, .int .i64 38, .int .i64 40, .int .i64 42, .int .i64 43]) (ok := fun _ => True) (okp := fun _ => True) ?hr ?hp (fun _ hk => hk) trivial (Below.refl _ _) (Nat.le_refl _) (by simp) ?_; (case hd => rfl); (case hg => rfl); (case hr => first | (go_simp; done) | (go_simp; rfl)); (case hp => exact (Reps.one (show Kd.M (Kd.int .i64) _ _ _ 23 [.int .i64 23] from rfl) (Reps.one (show Kd.M (Kd.int .i64) _ _ _ 24 [.int .i64 24] from rfl) (Reps.one (show Kd.M (Kd.int .i64) _ _ _ 25 [.int .i64 25] from rfl) (Reps.one (show Kd.M (Kd.int .i64) _ _ _ 26 [.int .i64 26] from rfl) (Reps.one (show Kd.M (Kd.int .i64) _ _ _ 27 [.int .i64 27] from rfl) (Reps.one (show Kd.M (Kd.int .i64) _ _ _ 28 [.int .i64 28] from rfl) (Reps.one (show Kd.M (Kd.int .i64) _ _ _ 31 [.int .i64 31] from rfl) (Reps.one (show Kd.M (Kd.int .i64) _ _ _ 36 [.int .i64 36] from rfl) (Reps.one (show Kd.M (Kd.int .i64) _ _ _ 38 [.int .i64 38] from rfl) (Reps.one (show Kd.M (Kd.int .i64) _ _ _ 40 [.int .i64 40] from rfl) (Reps.one (show Kd.M (Kd.int .i64) _ _ _ 42 [.int .i64 42] from rfl) (Reps.one (show Kd.M (Kd.int .i64) _ _ _ 43 [.int .i64 43] from rfl) (Reps.none _ _)))))))))))))); intro v237 w3 ho4 hb hg_ hnew_; clear hg_ hnew_; (first | rw [← Ny236.out] at ho4 | (simp only [Int.reduceToNat] at ho4; rw [← Ny236.out] at ho4)); have n0_ := Aside0.mk (Kd.R_lower ho4 (below_size (zB))); have n1_ := Aside0.mk (below_step (zB) hb); clear HB; have HO238 := n0_; have HB := n1_; clear n0_ n1_; clear hb ho4; obtain ⟨Ao5, co5, eo5⟩ := Kd.R_slice HO238.out; subst eo5) | ((with_reducible refine gate_callee (f := 38) rfl ?_); refine goesL_ (some 5) rfl rfl Try.func38 (by kernel_rfl) rfl #[.slice Ao5 y236.length co5, .int .i64 a0] rfl zE ?_; (with_reducible refine (balustradebase_HasInt.calls k _ _ y236 a0 t239 _ ?side1 ?side2 A2.out).mono ?_); (case side1 => exact zC (Kd.R_reads' HO238.out).2.2); (case side2 => exact (Kd.R_reads' HO238.out).2.1); rintro e w' ⟨rfl, ⟨nd, rfl⟩⟩; refine ⟨_, rfl, ?_⟩))
 go_ret
 exact ⟨zV, zB⟩
def balustraderef15_Check.f (a0 : Int) : Option (Bool) := if a0 ≥ 31 then (some (decide (a0 ≤ 38))) else (some false)
set_option maxHeartbeats 8000000 in
set_option maxRecDepth 100000 in
theorem balustraderef15_Check.calls (a0 : Int) (r : Bool) (w : World) (h : balustraderef15_Check.f a0 = some r) :
  Calls Try.prog 81 #[.int .i64 a0] w fun e w' => e = .returned (.bool r) ∧ Drawn0 w w' := by
 have H : (if a0 ≥ 31 then (some (decide (a0 ≤ 38))) else (some false)) = some r := h
 clear h
 by_cases c2 : a0 ≥ 31
 ·rw [if_pos c2] at H
  have c2b0 : decide (31 ≤ a0) = true := decide_eq_true c2
  clear c2
  obtain rfl := Option.some.inj H
  go_enter Try.func81, Try.ntmps81
  go_wp2
  go_ret
  exact ⟨zQ, zD⟩
 ·rw [if_neg c2] at H
  have c2b0 : decide (31 ≤ a0) = false := decide_eq_false c2
  clear c2
  obtain rfl := Option.some.inj H
  go_enter Try.func81, Try.ntmps81
  go_wp2
  go_ret
  exact ⟨zQ, zD⟩
end Go.Proofs.Ytomopjomapkmjaa.P

/- A part of it. -/
import Derived.Test.YtgbpkbfghonllaaFcZ
import Derived.Test.YtgbpkbfghonllaaFcP0
namespace Go.Proofs.Ytgbpkbfghonllaa.P
open Go.RowKit Go.Proofs.YtgbpkbfghonllaaW.PrintWords Go.Proofs.YtgbpkbfghonllaaW.PrintLast Go.Proofs.YtgbpkbfghonllaaW.PrintMore
attribute [local go_sem] max2_int min2_int max_two min_two max_three min_three max_four min_four   
set_option linter.unusedVariables false
set_option linter.unusedSimpArgs false
def balustraderef16_all.l0 : Nat → List Int → List Int → Int → ByteArray → Int → Int → List Int → List (List (S42)) → Option (Bool)
 | 0, _, _, _, _, _, _, _, _ => none
 | k + 1, x1, x2, x7, x223000, x223001, x223002, x223003, x223004 => if x7 < (x1.length : Int) then (if 0 ≤ x7 then (if 0 ≤ (rd x1 x7) then (if (rd x1 x7) < (x223003.length : Int) then (if x7 < (x2.length : Int) then (if (rd x223003 (rd x1 x7)) = (rd x2 x7) then (balustraderef16_all.l0 k x1 x2 (wrap64 (x7 + 1)) x223000 x223001 x223002 x223003 x223004) else (some false)) else (none)) else (none)) else (none)) else (none)) else (some true)
def balustraderef16_all.f (k : Nat) (a0_0 : ByteArray) (a0_1 : Int) (a0_2 : Int) (l0_3 : List Int) (l0_4 : List (List (S42))) (l1 : List Int) (l2 : List Int) : Option (Bool) := if (l1.length : Int) = (l2.length : Int) then (balustraderef16_all.l0 k l1 l2 0 a0_0 a0_1 a0_2 l0_3 l0_4) else (some false)
set_option maxHeartbeats 8000000 in
set_option maxRecDepth 100000 in
theorem balustraderef16_all.calls (k : Nat) (a0_0 : ByteArray) (a0_1 : Int) (a0_2 : Int) (A0_3 : Option Addr) (c0_3 : Nat) (l0_3 : List Int) (A0_4 : Option Addr) (c0_4 : Nat) (l0_4 : List (List (S42))) (A1 : Option Addr) (c1 : Nat) (l1 : List Int) (A2 : Option Addr) (c2 : Nat) (l2 : List Int) (r : Bool) (w : World) (hr0_3 : Kd.C (Kd.int .i64) w A0_3 l0_3.length l0_3) (hc0_3 : l0_3.length ≤ c0_3) (hr0_4 : Kd.C (Kd.slice 42 k42) w A0_4 l0_4.length l0_4) (hc0_4 : l0_4.length ≤ c0_4) (hr1 : Kd.C (Kd.int .i64) w A1 l1.length l1) (hc1 : l1.length ≤ c1) (hr2 : Kd.C (Kd.int .i64) w A2 l2.length l2) (hc2 : l2.length ≤ c2) (h : balustraderef16_all.f k a0_0 a0_1 a0_2 l0_3 l0_4 l1 l2 = some r) :
  Calls Try.prog 60 #[.agg #[.string a0_0, .int .i64 a0_1, .int .i64 a0_2, .slice A0_3 l0_3.length c0_3, .slice A0_4 l0_4.length c0_4], .slice A1 l1.length c1, .slice A2 l2.length c2] w fun e w' => e = .returned (.bool r) ∧ Below w.heap.size w w' := by
 have hu39 := Try.underlying39
 have HR0_3 := Aside0.mk hr0_3
 have HC0_3 := Aside0.mk hc0_3
 clear hr0_3 hc0_3
 have HR0_4 := Aside0.mk hr0_4
 have HC0_4 := Aside0.mk hc0_4
 clear hr0_4 hc0_4
 have HR1 := Aside0.mk hr1
 have HC1 := Aside0.mk hc1
 clear hr1 hc1
 have HR2 := Aside0.mk hr2
 have HC2 := Aside0.mk hc2
 clear hr2 hc2
 have HB := Aside0.mk (Below.refl w.heap.size w)
 have H : (if (l1.length : Int) = (l2.length : Int) then (balustraderef16_all.l0 k l1 l2 0 a0_0 a0_1 a0_2 l0_3 l0_4) else (some false)) = some r := h
 clear h
 by_cases c4 : (l1.length : Int) = (l2.length : Int)
 ·rw [if_pos c4] at H
  have c4b0 : ((l1.length : Int) == (l2.length : Int)) = true := beq_iff_eq.mpr c4
  have c4b1 : ((l1.length : Int) != (l2.length : Int)) = false := bne_eq_false_iff_eq.mpr c4
  have c4b2 : (l1.length == l2.length) = true := by first | simpa using c4 | (simp at c4 ⊢; omega)
  clear c4
  have H' := Aside0.mk H
  clear H
  go_enter Try.func60, Try.ntmps60
  go_wp2_with (first | ((with_reducible refine gate_dst (N := 3) rfl ?_); refine box_event ?hg (N := 3) ?hd (cs := #[.string a0_0, .int .i64 a0_1, .int .i64 a0_2, .slice A0_3 l0_3.length c0_3, .slice A0_4 l0_4.length c0_4]) (t := 39) ?hr ?_; (case hd => rfl); (case hg => rfl); (case hr => first | (go_simp; done) | (go_simp; rfl)); intro gb222 hg w5 hbox hb; have n0_ := Aside0.mk (below_step (zB) hb); have n1_ := Aside0.mk (hbox); have n2_ := Aside0.mk (zH hg : w.heap.size ≤ gb222); have n3_ := Aside0.mk (zH hg : w.heap.size ≤ gb222); clear HB; have HB := n0_; have BK222 := n1_; have GW222 := n2_; have GE222 := n3_; clear n0_ n1_ n2_ n3_; clear hb hbox hg))
  repeat (go_quiet (first | ((with_reducible refine gate_dst (N := 3) rfl ?_); refine box_event ?hg (N := 3) ?hd (cs := #[.string a0_0, .int .i64 a0_1, .int .i64 a0_2, .slice A0_3 l0_3.length c0_3, .slice A0_4 l0_4.length c0_4]) (t := 39) ?hr ?_; (case hd => rfl); (case hg => rfl); (case hr => first | (go_simp; done) | (go_simp; rfl)); intro gb222 hg w5 hbox hb; have n0_ := Aside0.mk (below_step (zB) hb); have n1_ := Aside0.mk (hbox); have n2_ := Aside0.mk (zH hg : w.heap.size ≤ gb222); have n3_ := Aside0.mk (zH hg : w.heap.size ≤ gb222); clear HB; have HB := n0_; have BK222 := n1_; have GW222 := n2_; have GE222 := n3_; clear n0_ n1_ n2_ n3_; clear hb hbox hg)); try go_wp2_with (first | ((with_reducible refine gate_dst (N := 3) rfl ?_); refine box_event ?hg (N := 3) ?hd (cs := #[.string a0_0, .int .i64 a0_1, .int .i64 a0_2, .slice A0_3 l0_3.length c0_3, .slice A0_4 l0_4.length c0_4]) (t := 39) ?hr ?_; (case hd => rfl); (case hg => rfl); (case hr => first | (go_simp; done) | (go_simp; rfl)); intro gb222 hg w5 hbox hb; have n0_ := Aside0.mk (below_step (zB) hb); have n1_ := Aside0.mk (hbox); have n2_ := Aside0.mk (zH hg : w.heap.size ≤ gb222); have n3_ := Aside0.mk (zH hg : w.heap.size ≤ gb222); clear HB; have HB := n0_; have BK222 := n1_; have GW222 := n2_; have GE222 := n3_; clear n0_ n1_ n2_ n3_; clear hb hbox hg)))
  go_loopg [7] k (fun kq v7 w' => ∃ (x7_1 : Int), v7 = .int .i64 x7_1 ∧ Aside0 (balustraderef16_all.l0 kq l1 l2 x7_1 a0_0 a0_1 a0_2 l0_3 l0_4 = some r) ∧ Aside0 (kq ≤ k) ∧ Aside0 (w'.heap[gb222]? = some (.cells #[.string a0_0, .int .i64 a0_1, .int .i64 a0_2, (.slice A0_3 l0_3.length c0_3), (.slice A0_4 l0_4.length c0_4)] 39 (0, 0))) ∧ Aside0 (Below w.heap.size w w'))
  case atStart => exact ⟨(0), zQ, H', ⟨Nat.le_refl _⟩, ⟨zK BK222.out⟩, ⟨zG⟩⟩
  case round =>
   clear H'
   (try clear c1); (try clear c2); (try clear p2); (try clear c4); (try clear c4b0); (try clear c4b1); (try clear c4b2)
   obtain ⟨x7_1, rfl, HA, HK1, BK222, HB⟩ := hrel
   cases gk with
   | zero => exact absurd HA.out (by simp [balustraderef16_all.l0])
   | succ k1 =>
    have H := HA.out
    clear HA
    simp only [balustraderef16_all.l0] at H
    by_cases c6 : x7_1 < (l1.length : Int)
    ·rw [if_pos c6] at H
     have c6b0 : decide (x7_1 < (l1.length : Int)) = true := decide_eq_true c6
     clear c6
     by_cases c7 : 0 ≤ x7_1
     ·rw [if_pos c7] at H
      have c7b0 : decide (0 ≤ x7_1) = true := decide_eq_true c7
      clear c7
      by_cases c8 : 0 ≤ (rd l1 x7_1)
      ·rw [if_pos c8] at H
       have c8b0 : decide (0 ≤ (rd l1 x7_1)) = true := decide_eq_true c8
       clear c8
       by_cases c9 : (rd l1 x7_1) < (l0_3.length : Int)
       ·rw [if_pos c9] at H
        have c9b0 : decide ((rd l1 x7_1) < (l0_3.length : Int)) = true := decide_eq_true c9
        clear c9
        by_cases c10 : x7_1 < (l2.length : Int)
        ·rw [if_pos c10] at H
         have c10b0 : decide (x7_1 < (l2.length : Int)) = true := decide_eq_true c10
         clear c10
         by_cases c11 : (rd l0_3 (rd l1 x7_1)) = (rd l2 x7_1)
         ·rw [if_pos c11] at H
          have c11b0 : ((rd l0_3 (rd l1 x7_1)) == (rd l2 x7_1)) = true := beq_iff_eq.mpr c11
          have c11b1 : ((rd l0_3 (rd l1 x7_1)) != (rd l2 x7_1)) = false := bne_eq_false_iff_eq.mpr c11
          clear c11
          have H' := Aside0.mk H
          clear H
          obtain ⟨hcz12_0, hcz12_1, hcz12_2, hcz12_3, hcz12_4⟩ := zc5 BK222.out
          obtain ⟨hfz12_0, hfz12_1, hfz12_2, hfz12_3, hfz12_4⟩ := zf5 BK222.out
          have p223 : 0 ≤ (x7_1 : Int) := zO
          have q223 : x7_1 < (l1.length : Int) := zO
          obtain ⟨ad223, e223, hx223_0⟩ := Kd.at_int HR1.out x7_1 p223 q223
          cases e223
          replace hx223_0 := pw_cell_below HB.out hx223_0
          replace p223 := eq_true p223
          replace q223 := eq_true q223
          have p224 : 0 ≤ ((rd l1 x7_1) : Int) := zO
          have q224 : (rd l1 x7_1) < (l0_3.length : Int) := zO
          obtain ⟨ad224, e224, hx224_0⟩ := Kd.at_int HR0_3.out (rd l1 x7_1) p224 q224
          cases e224
          replace hx224_0 := pw_cell_below HB.out hx224_0
          replace p224 := eq_true p224
          replace q224 := eq_true q224
          have p225 : 0 ≤ (x7_1 : Int) := zO
          have q225 : x7_1 < (l2.length : Int) := zO
          obtain ⟨ad225, e225, hx225_0⟩ := Kd.at_int HR2.out x7_1 p225 q225
          cases e225
          replace hx225_0 := pw_cell_below HB.out hx225_0
          replace p225 := eq_true p225
          replace q225 := eq_true q225
          go_wp2
          repeat (go_quiet (fail); try go_wp2)
          go_roundg k1
          case measure => have := HK1.out; omega
          case rel => exact ⟨(wrap64 (x7_1 + 1)), zQ, H', ⟨by have := HK1.out; omega⟩, ⟨zK BK222.out⟩, ⟨zG⟩⟩
         ·rw [if_neg c11] at H
          have c11b0 : ((rd l0_3 (rd l1 x7_1)) == (rd l2 x7_1)) = false := beq_eq_false_iff_ne.mpr c11
          have c11b1 : ((rd l0_3 (rd l1 x7_1)) != (rd l2 x7_1)) = true := bne_iff_ne.mpr c11
          obtain rfl := Option.some.inj H
          obtain ⟨hcz13_0, hcz13_1, hcz13_2, hcz13_3, hcz13_4⟩ := zc5 BK222.out
          obtain ⟨hfz13_0, hfz13_1, hfz13_2, hfz13_3, hfz13_4⟩ := zf5 BK222.out
          have p223 : 0 ≤ (x7_1 : Int) := zO
          have q223 : x7_1 < (l1.length : Int) := zO
          obtain ⟨ad223, e223, hx223_0⟩ := Kd.at_int HR1.out x7_1 p223 q223
          cases e223
          replace hx223_0 := pw_cell_below HB.out hx223_0
          replace p223 := eq_true p223
          replace q223 := eq_true q223
          have p224 : 0 ≤ ((rd l1 x7_1) : Int) := zO
          have q224 : (rd l1 x7_1) < (l0_3.length : Int) := zO
          obtain ⟨ad224, e224, hx224_0⟩ := Kd.at_int HR0_3.out (rd l1 x7_1) p224 q224
          cases e224
          replace hx224_0 := pw_cell_below HB.out hx224_0
          replace p224 := eq_true p224
          replace q224 := eq_true q224
          have p225 : 0 ≤ (x7_1 : Int) := zO
          have q225 : x7_1 < (l2.length : Int) := zO
          obtain ⟨ad225, e225, hx225_0⟩ := Kd.at_int HR2.out x7_1 p225 q225
          cases e225
          replace hx225_0 := pw_cell_below HB.out hx225_0
          replace p225 := eq_true p225
          replace q225 := eq_true q225
          go_wp2
          repeat (go_quiet (fail); try go_wp2)
          go_ret
          exact ⟨zV, zG⟩
        ·rw [if_neg c10] at H
         exact absurd H (by simp)
       ·rw [if_neg c9] at H
        exact absurd H (by simp)
      ·rw [if_neg c8] at H
       exact absurd H (by simp)
     ·rw [if_neg c7] at H
      exact absurd H (by simp)
    ·rw [if_neg c6] at H
     have c6b0 : decide (x7_1 < (l1.length : Int)) = false := decide_eq_false c6
     clear c6
     obtain rfl := Option.some.inj H
     go_wp2
     repeat (go_quiet (fail); try go_wp2)
     go_ret
     exact ⟨zV, zG⟩
 ·rw [if_neg c4] at H
  have c4b0 : ((l1.length : Int) == (l2.length : Int)) = false := beq_eq_false_iff_ne.mpr c4
  have c4b1 : ((l1.length : Int) != (l2.length : Int)) = true := bne_iff_ne.mpr c4
  have c4b2 : (l1.length == l2.length) = false := by first | simpa using c4 | (simp at c4 ⊢; omega)
  obtain rfl := Option.some.inj H
  go_enter Try.func60, Try.ntmps60
  go_wp2_with (first | ((with_reducible refine gate_dst (N := 3) rfl ?_); refine box_event ?hg (N := 3) ?hd (cs := #[.string a0_0, .int .i64 a0_1, .int .i64 a0_2, .slice A0_3 l0_3.length c0_3, .slice A0_4 l0_4.length c0_4]) (t := 39) ?hr ?_; (case hd => rfl); (case hg => rfl); (case hr => first | (go_simp; done) | (go_simp; rfl)); intro gb222 hg w14 hbox hb; have n0_ := Aside0.mk (below_step (zB) hb); have n1_ := Aside0.mk (hbox); have n2_ := Aside0.mk (zH hg : w.heap.size ≤ gb222); have n3_ := Aside0.mk (zH hg : w.heap.size ≤ gb222); clear HB; have HB := n0_; have BK222 := n1_; have GW222 := n2_; have GE222 := n3_; clear n0_ n1_ n2_ n3_; clear hb hbox hg))
  repeat (go_quiet (first | ((with_reducible refine gate_dst (N := 3) rfl ?_); refine box_event ?hg (N := 3) ?hd (cs := #[.string a0_0, .int .i64 a0_1, .int .i64 a0_2, .slice A0_3 l0_3.length c0_3, .slice A0_4 l0_4.length c0_4]) (t := 39) ?hr ?_; (case hd => rfl); (case hg => rfl); (case hr => first | (go_simp; done) | (go_simp; rfl)); intro gb222 hg w14 hbox hb; have n0_ := Aside0.mk (below_step (zB) hb); have n1_ := Aside0.mk (hbox); have n2_ := Aside0.mk (zH hg : w.heap.size ≤ gb222); have n3_ := Aside0.mk (zH hg : w.heap.size ≤ gb222); clear HB; have HB := n0_; have BK222 := n1_; have GW222 := n2_; have GE222 := n3_; clear n0_ n1_ n2_ n3_; clear hb hbox hg)); try go_wp2_with (first | ((with_reducible refine gate_dst (N := 3) rfl ?_); refine box_event ?hg (N := 3) ?hd (cs := #[.string a0_0, .int .i64 a0_1, .int .i64 a0_2, .slice A0_3 l0_3.length c0_3, .slice A0_4 l0_4.length c0_4]) (t := 39) ?hr ?_; (case hd => rfl); (case hg => rfl); (case hr => first | (go_simp; done) | (go_simp; rfl)); intro gb222 hg w14 hbox hb; have n0_ := Aside0.mk (below_step (zB) hb); have n1_ := Aside0.mk (hbox); have n2_ := Aside0.mk (zH hg : w.heap.size ≤ gb222); have n3_ := Aside0.mk (zH hg : w.heap.size ≤ gb222); clear HB; have HB := n0_; have BK222 := n1_; have GW222 := n2_; have GE222 := n3_; clear n0_ n1_ n2_ n3_; clear hb hbox hg)))
  go_ret
  exact ⟨zV, zG⟩
end Go.Proofs.Ytgbpkbfghonllaa.P
namespace Go.Proofs.Ytgbpkbfghonllaa.P
open Go.RowKit Go.Proofs.YtgbpkbfghonllaaW.PrintWords Go.Proofs.YtgbpkbfghonllaaW.PrintLast Go.Proofs.YtgbpkbfghonllaaW.PrintMore
attribute [local go_sem] max2_int min2_int max_two min_two max_three min_three max_four min_four   
set_option linter.unusedVariables false
set_option linter.unusedSimpArgs false
def balustraderef15_Check.f (a0 : Int) : Option (Bool) := if a0 ≥ 31 then (some (decide (a0 ≤ 38))) else (some false)
set_option maxHeartbeats 8000000 in
set_option maxRecDepth 100000 in
theorem balustraderef15_Check.calls (a0 : Int) (r : Bool) (w : World) (h : balustraderef15_Check.f a0 = some r) :
  Calls Try.prog 19 #[.int .i64 a0] w fun e w' => e = .returned (.bool r) ∧ Drawn0 w w' := by
 have H : (if a0 ≥ 31 then (some (decide (a0 ≤ 38))) else (some false)) = some r := h
 clear h
 by_cases c2 : a0 ≥ 31
 ·rw [if_pos c2] at H
  have c2b0 : decide (31 ≤ a0) = true := decide_eq_true c2
  clear c2
  obtain rfl := Option.some.inj H
  go_enter Try.func19, Try.ntmps19
  go_wp2
  go_ret
  exact ⟨zQ, zD⟩
 ·rw [if_neg c2] at H
  have c2b0 : decide (31 ≤ a0) = false := decide_eq_false c2
  clear c2
  obtain rfl := Option.some.inj H
  go_enter Try.func19, Try.ntmps19
  go_wp2
  go_ret
  exact ⟨zQ, zD⟩
def balustradebase_HasInt.l0 : Nat → List Int → Int → Int → Option (Bool)
 | 0, _, _, _ => none
 | k + 1, x0, x1, x5 => if x5 < (x0.length : Int) then (if 0 ≤ x5 then (if (rd x0 x5) = x1 then (some true) else (balustradebase_HasInt.l0 k x0 x1 (wrap64 (x5 + 1)))) else (none)) else (some false)
def balustradebase_HasInt.f (k : Nat) (l0 : List Int) (a1 : Int) : Option (Bool) := balustradebase_HasInt.l0 k l0 a1 0
set_option maxHeartbeats 8000000 in
set_option maxRecDepth 100000 in
theorem balustradebase_HasInt.calls (k : Nat) (A0 : Option Addr) (c0 : Nat) (l0 : List Int) (a1 : Int) (r : Bool) (w : World) (hr0 : Kd.C (Kd.int .i64) w A0 l0.length l0) (hc0 : l0.length ≤ c0) (h : balustradebase_HasInt.f k l0 a1 = some r) :
  Calls Try.prog 65 #[.slice A0 l0.length c0, .int .i64 a1] w fun e w' => e = .returned (.bool r) ∧ Drawn0 w w' := by
 have HR0 := Aside0.mk hr0
 have HC0 := Aside0.mk hc0
 clear hr0 hc0
 have H : (balustradebase_HasInt.l0 k l0 a1 0) = some r := h
 clear h
 have H' := Aside0.mk H
 clear H
 go_enter Try.func65, Try.ntmps65
 go_wp2
 go_loopg [5] k (fun kq v5 w' => ∃ (x5_1 : Int), v5 = .int .i64 x5_1 ∧ Aside0 (balustradebase_HasInt.l0 kq l0 a1 x5_1 = some r) ∧ Aside0 (kq ≤ k) ∧ Drawn0 w w')
 case atStart => exact ⟨(0), zQ, H', ⟨Nat.le_refl _⟩, zD⟩
 case round =>
  clear H'
  try clear p2
  obtain ⟨x5_1, rfl, HA, HK1, ⟨m1, rfl⟩⟩ := hrel
  cases gk with
  | zero => exact absurd HA.out (by simp [balustradebase_HasInt.l0])
  | succ k1 =>
   have H := HA.out
   clear HA
   simp only [balustradebase_HasInt.l0] at H
   by_cases c3 : x5_1 < (l0.length : Int)
   ·rw [if_pos c3] at H
    have c3b0 : decide (x5_1 < (l0.length : Int)) = true := decide_eq_true c3
    clear c3
    by_cases c4 : 0 ≤ x5_1
    ·rw [if_pos c4] at H
     have c4b0 : decide (0 ≤ x5_1) = true := decide_eq_true c4
     clear c4
     by_cases c5 : (rd l0 x5_1) = a1
     ·rw [if_pos c5] at H
      have c5b0 : ((rd l0 x5_1) == a1) = true := beq_iff_eq.mpr c5
      have c5b1 : ((rd l0 x5_1) != a1) = false := bne_eq_false_iff_eq.mpr c5
      clear c5
      obtain rfl := Option.some.inj H
      have p101 : 0 ≤ (x5_1 : Int) := zO
      have q101 : x5_1 < (l0.length : Int) := zO
      obtain ⟨ad101, e101, hx101_0⟩ := Kd.at_int HR0.out x5_1 p101 q101
      cases e101
      replace p101 := eq_true p101
      replace q101 := eq_true q101
      go_wp2
      go_ret
      exact ⟨zQ, zD⟩
     ·rw [if_neg c5] at H
      have c5b0 : ((rd l0 x5_1) == a1) = false := beq_eq_false_iff_ne.mpr c5
      have c5b1 : ((rd l0 x5_1) != a1) = true := bne_iff_ne.mpr c5
      have H' := Aside0.mk H
      clear H
      have p101 : 0 ≤ (x5_1 : Int) := zO
      have q101 : x5_1 < (l0.length : Int) := zO
      obtain ⟨ad101, e101, hx101_0⟩ := Kd.at_int HR0.out x5_1 p101 q101
      cases e101
      replace p101 := eq_true p101
      replace q101 := eq_true q101
      go_wp2
      go_roundg k1
      case measure => have := HK1.out; omega
      case rel => exact ⟨(wrap64 (x5_1 + 1)), zQ, H', ⟨by have := HK1.out; omega⟩, zD⟩
    ·rw [if_neg c4] at H
     exact absurd H (by simp)
   ·rw [if_neg c3] at H
    have c3b0 : decide (x5_1 < (l0.length : Int)) = false := decide_eq_false c3
    clear c3
    obtain rfl := Option.some.inj H
    go_wp2
    go_ret
    exact ⟨zQ, zD⟩
def balustraderef15_two.f (k : Nat) (a0 : Int) : Option (Bool) := if a0 ≥ 3 then (if a0 ≤ 16 then (some true) else ((balustradebase_HasInt.f k (([29, 32, 33, 34, 35, 37] : List Int)) a0).bind fun t105 => (some t105))) else ((balustradebase_HasInt.f k (([29, 32, 33, 34, 35, 37] : List Int)) a0).bind fun t109 => (some t109))
set_option maxHeartbeats 8000000 in
set_option maxRecDepth 100000 in
theorem balustraderef15_two.calls (k : Nat) (a0 : Int) (r : Bool) (w : World) (h : balustraderef15_two.f k a0 = some r) :
  Calls Try.prog 32 #[.int .i64 a0] w fun e w' => e = .returned (.bool r) ∧ Below w.heap.size w w' := by
 have HB := Aside0.mk (Below.refl w.heap.size w)
 have H : (if a0 ≥ 3 then (if a0 ≤ 16 then (some true) else ((balustradebase_HasInt.f k (([29, 32, 33, 34, 35, 37] : List Int)) a0).bind fun t105 => (some t105))) else ((balustradebase_HasInt.f k (([29, 32, 33, 34, 35, 37] : List Int)) a0).bind fun t109 => (some t109))) = some r := h
 clear h
 by_cases c2 : a0 ≥ 3
 ·rw [if_pos c2] at H
  have c2b0 : decide (3 ≤ a0) = true := decide_eq_true c2
  clear c2
  by_cases c3 : a0 ≤ 16
  ·rw [if_pos c3] at H
   have c3b0 : decide (a0 ≤ 16) = true := decide_eq_true c3
   clear c3
   obtain rfl := Option.some.inj H
   go_enter Try.func32, Try.ntmps32
   go_wp2
   go_ret
   exact ⟨zV, zB⟩
  ·rw [if_neg c3] at H
   have c3b0 : decide (a0 ≤ 16) = false := decide_eq_false c3
   clear c3
   obtain ⟨y102, hy102⟩ : ∃ y_ : List Int, y_ = (([29, 32, 33, 34, 35, 37] : List Int)) := ⟨_, rfl⟩
   replace H : ((balustradebase_HasInt.f k y102 a0).bind fun t105 => (some t105)) = some r := by first | (rw [hy102]; with_reducible exact H) | (have H2_ := (Option.bind_some _ _).symm.trans H; rw [hy102]; with_reducible exact H2_) | (have H2_ := (Option.bind_some _ _).symm.trans H; with_reducible exact H2_) | with_reducible exact H | (rw [hy102]; exact H) | exact H
   have Ny102 := Aside0.mk hy102
   clear hy102
   replace H := Option.bind_eq_some_iff.mp H
   obtain ⟨t105, A40, H⟩ := H
   replace H : (some t105) = some r := H
   have A4 := Aside0.mk A40
   clear A40
   obtain rfl := Option.some.inj H
   go_enter Try.func32, Try.ntmps32
   go_wp2_with (first | ((with_reducible refine gate_dst (N := 10) rfl ?_); (try (refine gate_guard (by rfl) ?_; dsimp only)); refine Kd.R_lit (Kd.int .i64) _ 3 ?hg (N := 10) ?hd (xs := ([29, 32, 33, 34, 35, 37] : List Int)) (inner := [.int .i64 29, .int .i64 32, .int .i64 33, .int .i64 34, .int .i64 35, .int .i64 37]) (ok := fun _ => True) (okp := fun _ => True) ?hr ?hp (fun _ hk => hk) trivial (Below.refl _ _) (Nat.le_refl _) (by simp) ?_; (case hd => rfl); (case hg => rfl); (case hr => first | (go_simp; done) | (go_simp; rfl)); (case hp => exact (Reps.one (show Kd.M (Kd.int .i64) _ _ _ 29 [.int .i64 29] from rfl) (Reps.one (show Kd.M (Kd.int .i64) _ _ _ 32 [.int .i64 32] from rfl) (Reps.one (show Kd.M (Kd.int .i64) _ _ _ 33 [.int .i64 33] from rfl) (Reps.one (show Kd.M (Kd.int .i64) _ _ _ 34 [.int .i64 34] from rfl) (Reps.one (show Kd.M (Kd.int .i64) _ _ _ 35 [.int .i64 35] from rfl) (Reps.one (show Kd.M (Kd.int .i64) _ _ _ 37 [.int .i64 37] from rfl) (Reps.none _ _)))))))); intro v103 w5 ho6 hb hg_ hnew_; clear hg_ hnew_; (first | rw [← Ny102.out] at ho6 | (simp only [Int.reduceToNat] at ho6; rw [← Ny102.out] at ho6)); have n0_ := Aside0.mk (Kd.R_lower ho6 (below_size (zB))); have n1_ := Aside0.mk (below_step (zB) hb); clear HB; have HO104 := n0_; have HB := n1_; clear n0_ n1_; clear hb ho6; obtain ⟨Ao7, co7, eo7⟩ := Kd.R_slice HO104.out; subst eo7) | (go_at_call 65; (with_reducible refine (balustradebase_HasInt.calls k _ _ y102 a0 t105 _ ?side1 ?side2 A4.out).mono ?_); (case side1 => exact zC (Kd.R_reads' HO104.out).2.2); (case side2 => exact (Kd.R_reads' HO104.out).2.1); rintro e w' ⟨rfl, ⟨nd, rfl⟩⟩))
   go_ret
   exact ⟨zV, zB⟩
 ·rw [if_neg c2] at H
  have c2b0 : decide (3 ≤ a0) = false := decide_eq_false c2
  clear c2
  obtain ⟨y106, hy106⟩ : ∃ y_ : List Int, y_ = (([29, 32, 33, 34, 35, 37] : List Int)) := ⟨_, rfl⟩
  replace H : ((balustradebase_HasInt.f k y106 a0).bind fun t109 => (some t109)) = some r := by first | (rw [hy106]; with_reducible exact H) | (have H2_ := (Option.bind_some _ _).symm.trans H; rw [hy106]; with_reducible exact H2_) | (have H2_ := (Option.bind_some _ _).symm.trans H; with_reducible exact H2_) | with_reducible exact H | (rw [hy106]; exact H) | exact H
  have Ny106 := Aside0.mk hy106
  clear hy106
  replace H := Option.bind_eq_some_iff.mp H
  obtain ⟨t109, A80, H⟩ := H
  replace H : (some t109) = some r := H
  have A8 := Aside0.mk A80
  clear A80
  obtain rfl := Option.some.inj H
  go_enter Try.func32, Try.ntmps32
  go_wp2_with (first | ((with_reducible refine gate_dst (N := 10) rfl ?_); (try (refine gate_guard (by rfl) ?_; dsimp only)); refine Kd.R_lit (Kd.int .i64) _ 3 ?hg (N := 10) ?hd (xs := ([29, 32, 33, 34, 35, 37] : List Int)) (inner := [.int .i64 29, .int .i64 32, .int .i64 33, .int .i64 34, .int .i64 35, .int .i64 37]) (ok := fun _ => True) (okp := fun _ => True) ?hr ?hp (fun _ hk => hk) trivial (Below.refl _ _) (Nat.le_refl _) (by simp) ?_; (case hd => rfl); (case hg => rfl); (case hr => first | (go_simp; done) | (go_simp; rfl)); (case hp => exact (Reps.one (show Kd.M (Kd.int .i64) _ _ _ 29 [.int .i64 29] from rfl) (Reps.one (show Kd.M (Kd.int .i64) _ _ _ 32 [.int .i64 32] from rfl) (Reps.one (show Kd.M (Kd.int .i64) _ _ _ 33 [.int .i64 33] from rfl) (Reps.one (show Kd.M (Kd.int .i64) _ _ _ 34 [.int .i64 34] from rfl) (Reps.one (show Kd.M (Kd.int .i64) _ _ _ 35 [.int .i64 35] from rfl) (Reps.one (show Kd.M (Kd.int .i64) _ _ _ 37 [.int .i64 37] from rfl) (Reps.none _ _)))))))); intro v107 w9 ho10 hb hg_ hnew_; clear hg_ hnew_; (first | rw [← Ny106.out] at ho10 | (simp only [Int.reduceToNat] at ho10; rw [← Ny106.out] at ho10)); have n0_ := Aside0.mk (Kd.R_lower ho10 (below_size (zB))); have n1_ := Aside0.mk (below_step (zB) hb); clear HB; have HO108 := n0_; have HB := n1_; clear n0_ n1_; clear hb ho10; obtain ⟨Ao11, co11, eo11⟩ := Kd.R_slice HO108.out; subst eo11) | (go_at_call 65; (with_reducible refine (balustradebase_HasInt.calls k _ _ y106 a0 t109 _ ?side1 ?side2 A8.out).mono ?_); (case side1 => exact zC (Kd.R_reads' HO108.out).2.2); (case side2 => exact (Kd.R_reads' HO108.out).2.1); rintro e w' ⟨rfl, ⟨nd, rfl⟩⟩))
  go_ret
  exact ⟨zV, zB⟩
def balustraderef15_one.f (k : Nat) (a0 : Int) : Option (Bool) := (balustradebase_HasInt.f k (([23, 24, 25, 26, 27, 28, 31, 36, 38, 40, 42, 43] : List Int)) a0).bind fun t113 => (some t113)
set_option maxHeartbeats 8000000 in
set_option maxRecDepth 100000 in
theorem balustraderef15_one.calls (k : Nat) (a0 : Int) (r : Bool) (w : World) (h : balustraderef15_one.f k a0 = some r) :
  Calls Try.prog 33 #[.int .i64 a0] w fun e w' => e = .returned (.bool r) ∧ Below w.heap.size w w' := by
 have HB := Aside0.mk (Below.refl w.heap.size w)
 have H : ((balustradebase_HasInt.f k (([23, 24, 25, 26, 27, 28, 31, 36, 38, 40, 42, 43] : List Int)) a0).bind fun t113 => (some t113)) = some r := h
 clear h
 obtain ⟨y110, hy110⟩ : ∃ y_ : List Int, y_ = (([23, 24, 25, 26, 27, 28, 31, 36, 38, 40, 42, 43] : List Int)) := ⟨_, rfl⟩
 replace H : ((balustradebase_HasInt.f k y110 a0).bind fun t113 => (some t113)) = some r := by first | (rw [hy110]; with_reducible exact H) | (have H2_ := (Option.bind_some _ _).symm.trans H; rw [hy110]; with_reducible exact H2_) | (have H2_ := (Option.bind_some _ _).symm.trans H; with_reducible exact H2_) | with_reducible exact H | (rw [hy110]; exact H) | exact H
 have Ny110 := Aside0.mk hy110
 clear hy110
 replace H := Option.bind_eq_some_iff.mp H
 obtain ⟨t113, A20, H⟩ := H
 replace H : (some t113) = some r := H
 have A2 := Aside0.mk A20
 clear A20
 obtain rfl := Option.some.inj H
 go_enter Try.func33, Try.ntmps33
 go_wp2_with (first | ((with_reducible refine gate_dst (N := 3) rfl ?_); refine Kd.R_lit (Kd.int .i64) _ 3 ?hg (N := 3) ?hd (xs := ([23, 24, 25, 26, 27, 28, 31, 36, 38, 40, 42, 43] : List Int)) (inner := [.int .i64 23, .int .i64 24, .int .i64 25, .int .i64 26, .int .i64 27, .int .i64 28, .int .i64 31, .int .i64 36, .int .i64 38, .int .i64 40, .int .i64 42, .int .i64 43]) (ok := fun _ => True) (okp := fun _ => True) ?hr ?hp (fun _ hk => hk) trivial (Below.refl _ _) (Nat.le_refl _) (by simp) ?_; (case hd => rfl); (case hg => rfl); (case hr => first | (go_simp; done) | (go_simp; rfl)); (case hp => exact (Reps.one (show Kd.M (Kd.int .i64) _ _ _ 23 [.int .i64 23] from rfl) (Reps.one (show Kd.M (Kd.int .i64) _ _ _ 24 [.int .i64 24] from rfl) (Reps.one (show Kd.M (Kd.int .i64) _ _ _ 25 [.int .i64 25] from rfl) (Reps.one (show Kd.M (Kd.int .i64) _ _ _ 26 [.int .i64 26] from rfl) (Reps.one (show Kd.M (Kd.int .i64) _ _ _ 27 [.int .i64 27] from rfl) (Reps.one (show Kd.M (Kd.int .i64) _ _ _ 28 [.int .i64 28] from rfl) (Reps.one (show Kd.M (Kd.int .i64) _ _ _ 31 [.int .i64 31] from rfl) (Reps.one (show Kd.M (Kd.int .i64) _ _ _ 36 [.int .i64 36] from rfl) (Reps.one (show Kd.M (Kd.int .i64) _ _ _ 38 [.int .i64 38] from rfl) (Reps.one (show Kd.M (Kd.int .i64) _ _ _ 40 [.int .i64 40] from rfl) (Reps.one (show Kd.M (Kd.int .i64) _ _ _ 42 [.int .i64 42] from rfl) (Reps.one (show Kd.M (Kd.int .i64) _ _ _ 43 [.int .i64 43] from rfl) (Reps.none _ _)))))))))))))); intro v111 w3 ho4 hb hg_ hnew_; clear hg_ hnew_; (first | rw [← Ny110.out] at ho4 | (simp only [Int.reduceToNat] at ho4; rw [← Ny110.out] at ho4)); have n0_ := Aside0.mk (Kd.R_lower ho4 (below_size (zB))); have n1_ := Aside0.mk (below_step (zB) hb); clear HB; have HO112 := n0_; have HB := n1_; clear n0_ n1_; clear hb ho4; obtain ⟨Ao5, co5, eo5⟩ := Kd.R_slice HO112.out; subst eo5) | ((with_reducible refine gate_callee (f := 65) rfl ?_); refine goesL_ (some 5) rfl rfl Try.func65 (by kernel_rfl) rfl #[.slice Ao5 y110.length co5, .int .i64 a0] rfl zE ?_; (with_reducible refine (balustradebase_HasInt.calls k _ _ y110 a0 t113 _ ?side1 ?side2 A2.out).mono ?_); (case side1 => exact zC (Kd.R_reads' HO112.out).2.2); (case side2 => exact (Kd.R_reads' HO112.out).2.1); rintro e w' ⟨rfl, ⟨nd, rfl⟩⟩; refine ⟨_, rfl, ?_⟩))
 go_ret
 exact ⟨zV, zB⟩
def balustraderef15_Writes.f (a0 : Int) : Option (Bool) := if a0 ≥ 3 then (if a0 ≤ 16 then (some true) else (if a0 ≥ 20 then (if a0 ≤ 29 then (some true) else (if a0 = 39 then (some true) else (if a0 = 44 then (some true) else (some (a0 == 45))))) else (if a0 = 39 then (some true) else (if a0 = 44 then (some true) else (some (a0 == 45)))))) else (if a0 ≥ 20 then (if a0 ≤ 29 then (some true) else (if a0 = 39 then (some true) else (if a0 = 44 then (some true) else (some (a0 == 45))))) else (if a0 = 39 then (some true) else (if a0 = 44 then (some true) else (some (a0 == 45)))))
set_option maxHeartbeats 8000000 in
set_option maxRecDepth 100000 in
theorem balustraderef15_Writes.calls (a0 : Int) (r : Bool) (w : World) (h : balustraderef15_Writes.f a0 = some r) :
  Calls Try.prog 34 #[.int .i64 a0] w fun e w' => e = .returned (.bool r) ∧ Drawn0 w w' := by
 have H : (if a0 ≥ 3 then (if a0 ≤ 16 then (some true) else (if a0 ≥ 20 then (if a0 ≤ 29 then (some true) else (if a0 = 39 then (some true) else (if a0 = 44 then (some true) else (some (a0 == 45))))) else (if a0 = 39 then (some true) else (if a0 = 44 then (some true) else (some (a0 == 45)))))) else (if a0 ≥ 20 then (if a0 ≤ 29 then (some true) else (if a0 = 39 then (some true) else (if a0 = 44 then (some true) else (some (a0 == 45))))) else (if a0 = 39 then (some true) else (if a0 = 44 then (some true) else (some (a0 == 45)))))) = some r := h
 clear h
 by_cases c2 : a0 ≥ 3
 ·rw [if_pos c2] at H
  have c2b0 : decide (3 ≤ a0) = true := decide_eq_true c2
  clear c2
  by_cases c3 : a0 ≤ 16
  ·rw [if_pos c3] at H
   have c3b0 : decide (a0 ≤ 16) = true := decide_eq_true c3
   clear c3
   obtain rfl := Option.some.inj H
   go_enter Try.func34, Try.ntmps34
   go_wp2
   go_ret
   exact ⟨zQ, zD⟩
  ·rw [if_neg c3] at H
   have c3b0 : decide (a0 ≤ 16) = false := decide_eq_false c3
   clear c3
   by_cases c4 : a0 ≥ 20
   ·rw [if_pos c4] at H
    have c4b0 : decide (20 ≤ a0) = true := decide_eq_true c4
    clear c4
    by_cases c5 : a0 ≤ 29
    ·rw [if_pos c5] at H
     have c5b0 : decide (a0 ≤ 29) = true := decide_eq_true c5
     clear c5
     obtain rfl := Option.some.inj H
     go_enter Try.func34, Try.ntmps34
     go_wp2
     go_ret
     exact ⟨zQ, zD⟩
    ·rw [if_neg c5] at H
     have c5b0 : decide (a0 ≤ 29) = false := decide_eq_false c5
     clear c5
     by_cases c6 : a0 = 39
     ·rw [if_pos c6] at H
      have c6b0 : (a0 == 39) = true := beq_iff_eq.mpr c6
      have c6b1 : (a0 != 39) = false := bne_eq_false_iff_eq.mpr c6
      clear c6
      obtain rfl := Option.some.inj H
      go_enter Try.func34, Try.ntmps34
      go_wp2
      go_ret
      exact ⟨zQ, zD⟩
     ·rw [if_neg c6] at H
      have c6b0 : (a0 == 39) = false := beq_eq_false_iff_ne.mpr c6
      have c6b1 : (a0 != 39) = true := bne_iff_ne.mpr c6
      by_cases c7 : a0 = 44
      ·rw [if_pos c7] at H
       have c7b0 : (a0 == 44) = true := beq_iff_eq.mpr c7
       have c7b1 : (a0 != 44) = false := bne_eq_false_iff_eq.mpr c7
       clear c7
       obtain rfl := Option.some.inj H
       go_enter Try.func34, Try.ntmps34
       go_wp2
       go_ret
       exact ⟨zQ, zD⟩
      ·rw [if_neg c7] at H
       have c7b0 : (a0 == 44) = false := beq_eq_false_iff_ne.mpr c7
       have c7b1 : (a0 != 44) = true := bne_iff_ne.mpr c7
       obtain rfl := Option.some.inj H
       go_enter Try.func34, Try.ntmps34
       go_wp2
       go_ret
       exact ⟨zQ, zD⟩
   ·rw [if_neg c4] at H
    have c4b0 : decide (20 ≤ a0) = false := decide_eq_false c4
    clear c4
    by_cases c8 : a0 = 39
    ·rw [if_pos c8] at H
     have c8b0 : (a0 == 39) = true := beq_iff_eq.mpr c8
     have c8b1 : (a0 != 39) = false := bne_eq_false_iff_eq.mpr c8
     clear c8
     obtain rfl := Option.some.inj H
     go_enter Try.func34, Try.ntmps34
     go_wp2
     go_ret
     exact ⟨zQ, zD⟩
    ·rw [if_neg c8] at H
     have c8b0 : (a0 == 39) = false := beq_eq_false_iff_ne.mpr c8
     have c8b1 : (a0 != 39) = true := bne_iff_ne.mpr c8
     by_cases c9 : a0 = 44
     ·rw [if_pos c9] at H
      have c9b0 : (a0 == 44) = true := beq_iff_eq.mpr c9
      have c9b1 : (a0 != 44) = false := bne_eq_false_iff_eq.mpr c9
      clear c9
      obtain rfl := Option.some.inj H
      go_enter Try.func34, Try.ntmps34
      go_wp2
      go_ret
      exact ⟨zQ, zD⟩
     ·rw [if_neg c9] at H
      have c9b0 : (a0 == 44) = false := beq_eq_false_iff_ne.mpr c9
      have c9b1 : (a0 != 44) = true := bne_iff_ne.mpr c9
      obtain rfl := Option.some.inj H
      go_enter Try.func34, Try.ntmps34
      go_wp2
      go_ret
      exact ⟨zQ, zD⟩
 ·rw [if_neg c2] at H
  have c2b0 : decide (3 ≤ a0) = false := decide_eq_false c2
  clear c2
  by_cases c10 : a0 ≥ 20
  ·rw [if_pos c10] at H
   have c10b0 : decide (20 ≤ a0) = true := decide_eq_true c10
   clear c10
   by_cases c11 : a0 ≤ 29
   ·rw [if_pos c11] at H
    have c11b0 : decide (a0 ≤ 29) = true := decide_eq_true c11
    clear c11
    obtain rfl := Option.some.inj H
    go_enter Try.func34, Try.ntmps34
    go_wp2
    go_ret
    exact ⟨zQ, zD⟩
   ·rw [if_neg c11] at H
    have c11b0 : decide (a0 ≤ 29) = false := decide_eq_false c11
    clear c11
    by_cases c12 : a0 = 39
    ·rw [if_pos c12] at H
     have c12b0 : (a0 == 39) = true := beq_iff_eq.mpr c12
     have c12b1 : (a0 != 39) = false := bne_eq_false_iff_eq.mpr c12
     clear c12
     obtain rfl := Option.some.inj H
     go_enter Try.func34, Try.ntmps34
     go_wp2
     go_ret
     exact ⟨zQ, zD⟩
    ·rw [if_neg c12] at H
     have c12b0 : (a0 == 39) = false := beq_eq_false_iff_ne.mpr c12
     have c12b1 : (a0 != 39) = true := bne_iff_ne.mpr c12
     by_cases c13 : a0 = 44
     ·rw [if_pos c13] at H
      have c13b0 : (a0 == 44) = true := beq_iff_eq.mpr c13
      have c13b1 : (a0 != 44) = false := bne_eq_false_iff_eq.mpr c13
      clear c13
      obtain rfl := Option.some.inj H
      go_enter Try.func34, Try.ntmps34
      go_wp2
      go_ret
      exact ⟨zQ, zD⟩
     ·rw [if_neg c13] at H
      have c13b0 : (a0 == 44) = false := beq_eq_false_iff_ne.mpr c13
      have c13b1 : (a0 != 44) = true := bne_iff_ne.mpr c13
      obtain rfl := Option.some.inj H
      go_enter Try.func34, Try.ntmps34
      go_wp2
      go_ret
      exact ⟨zQ, zD⟩
  ·rw [if_neg c10] at H
   have c10b0 : decide (20 ≤ a0) = false := decide_eq_false c10
   clear c10
   by_cases c14 : a0 = 39
   ·rw [if_pos c14] at H
    have c14b0 : (a0 == 39) = true := beq_iff_eq.mpr c14
    have c14b1 : (a0 != 39) = false := bne_eq_false_iff_eq.mpr c14
    clear c14
    obtain rfl := Option.some.inj H
    go_enter Try.func34, Try.ntmps34
    go_wp2
    go_ret
    exact ⟨zQ, zD⟩
   ·rw [if_neg c14] at H
    have c14b0 : (a0 == 39) = false := beq_eq_false_iff_ne.mpr c14
    have c14b1 : (a0 != 39) = true := bne_iff_ne.mpr c14
    by_cases c15 : a0 = 44
    ·rw [if_pos c15] at H
     have c15b0 : (a0 == 44) = true := beq_iff_eq.mpr c15
     have c15b1 : (a0 != 44) = false := bne_eq_false_iff_eq.mpr c15
     clear c15
     obtain rfl := Option.some.inj H
     go_enter Try.func34, Try.ntmps34
     go_wp2
     go_ret
     exact ⟨zQ, zD⟩
    ·rw [if_neg c15] at H
     have c15b0 : (a0 == 44) = false := beq_eq_false_iff_ne.mpr c15
     have c15b1 : (a0 != 44) = true := bne_iff_ne.mpr c15
     obtain rfl := Option.some.inj H
     go_enter Try.func34, Try.ntmps34
     go_wp2
     go_ret
     exact ⟨zQ, zD⟩
def balustraderef15_fits.f (a0 : Bool) (a1 : Int) : Option (Bool) := if a1 = 0 then (some true) else (if a0 = true then (some (decide (a1 > 0))) else (some false))
set_option maxHeartbeats 8000000 in
set_option maxRecDepth 100000 in
theorem balustraderef15_fits.calls (a0 : Bool) (a1 : Int) (r : Bool) (w : World) (h : balustraderef15_fits.f a0 a1 = some r) :
  Calls Try.prog 64 #[.bool a0, .int .i64 a1] w fun e w' => e = .returned (.bool r) ∧ Drawn0 w w' := by
 have H : (if a1 = 0 then (some true) else (if a0 = true then (some (decide (a1 > 0))) else (some false))) = some r := h
 clear h
 by_cases c3 : a1 = 0
 ·rw [if_pos c3] at H
  have c3b0 : (a1 == 0) = true := beq_iff_eq.mpr c3
  have c3b1 : (a1 != 0) = false := bne_eq_false_iff_eq.mpr c3
  clear c3
  obtain rfl := Option.some.inj H
  go_enter Try.func64, Try.ntmps64
  go_wp2
  go_ret
  exact ⟨zQ, zD⟩
 ·rw [if_neg c3] at H
  have c3b0 : (a1 == 0) = false := beq_eq_false_iff_ne.mpr c3
  have c3b1 : (a1 != 0) = true := bne_iff_ne.mpr c3
  by_cases c4 : a0 = true
  ·subst c4
   have H1 : (some (decide (a1 > 0))) = some r := by rw [if_pos rfl] at H; exact H
   clear H
   have H := H1
   clear H1
   obtain rfl := Option.some.inj H
   go_enter Try.func64, Try.ntmps64
   go_wp2
   go_ret
   exact ⟨zQ, zD⟩
  ·replace c4 := Bool.eq_false_iff.mpr c4
   subst c4
   have H1 : (some false) = some r := by rw [if_neg (show ¬ (false = true) by decide)] at H; exact H
   clear H
   have H := H1
   clear H1
   obtain rfl := Option.some.inj H
   go_enter Try.func64, Try.ntmps64
   go_wp2
   go_ret
   exact ⟨zQ, zD⟩
end Go.Proofs.Ytgbpkbfghonllaa.P
namespace Go.Proofs.Ytgbpkbfghonllaa.Pure
open Go.RowKit Go.Proofs.Ytgbpkbfghonllaa.P Go.Proofs.YtgbpkbfghonllaaW.PrintWords Go.Proofs.YtgbpkbfghonllaaW.PrintLast Go.Proofs.YtgbpkbfghonllaaW.PrintMore
theorem wrap_id {x : Int} (h0 : -9223372036854775808 ≤ x) (h1 : x ≤ 9223372036854775807) : wrap64 x = x := by unfold wrap64; omega
theorem wrap_succ (i : Nat) (h : i < 4611686018427387904) : wrap64 ((i : Int) + 1) = ((i + 1 : Nat) : Int) := by rw [wrap_id] <;> omega
theorem rd_nat (l : List Int) (i : Nat) (h : i < l.length) : rd l (i : Int) = l[i] := by simp [rd, List.getD_eq_getElem?_getD, h]
theorem dec_mem_ne {x a : Int} {xs : List Int} (h : x ≠ a) : decide (a ∈ x :: xs) = decide (a ∈ xs) := by simp [Ne.symm h]
theorem dec_mem_eq {x a : Int} {xs : List Int} (h : x = a) : decide (a ∈ x :: xs) = true := by simp [h]
theorem hasInt_from (l : List Int) (a : Int) (hl : l.length < 4611686018427387904) : ∀ d i, l.length - i = d → i ≤ l.length → Ev (fun k => balustradebase_HasInt.l0 k l a (i : Int)) (decide (a ∈ l.drop i)) := by
 intro d
 induction d with
 | zero =>
  intro i hd hi
  obtain rfl : i = l.length := by omega
  apply Ev.step
  ·intro k
   rw [balustradebase_HasInt.l0, if_neg (by omega)]
  ·simp
   exact Ev.now _
 | succ d ih =>
  intro i hd hi
  have hlt : i < l.length := by omega
  rw [List.drop_eq_getElem_cons hlt]
  by_cases h : l[i] = a
  ·apply Ev.step
   ·intro k
    rw [balustradebase_HasInt.l0, if_pos (by omega), if_pos (by omega), if_pos (by rw [rd_nat l i hlt]; exact h)]
   ·rw [dec_mem_eq h]
    exact Ev.now _
  ·apply Ev.step
   ·intro k
    rw [balustradebase_HasInt.l0, if_pos (by omega), if_pos (by omega), if_neg (by rw [rd_nat l i hlt]; exact h), wrap_succ i (by omega)]
   ·rw [dec_mem_ne h]
    exact ih (i + 1) (by omega) (by omega)
theorem hasInt_ev (l : List Int) (a : Int) (hl : l.length < 4611686018427387904) : Ev (fun k => balustradebase_HasInt.f k l a) (decide (a ∈ l)) := hasInt_from l a hl l.length 0 (by omega) (by omega)
end Go.Proofs.Ytgbpkbfghonllaa.Pure

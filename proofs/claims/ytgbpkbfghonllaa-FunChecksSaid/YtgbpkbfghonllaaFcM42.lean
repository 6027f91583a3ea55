/- A part of it. -/
import Derived.Test.YtgbpkbfghonllaaFcZ
import Derived.Test.YtgbpkbfghonllaaFcP0
import Derived.Test.YtgbpkbfghonllaaFcM41
import Derived.Test.YtgbpkbfghonllaaFcInstrB
import Derived.Test.YtgbpkbfghonllaaFcP12
import Derived.Test.YtgbpkbfghonllaaFcP13
import Derived.Test.YtgbpkbfghonllaaFcM39
import Derived.Test.YtgbpkbfghonllaaFcP21
import Derived.Outline
import Derived.Test.YtgbpkbfghonllaaFcM35
import Derived.Test.YtgbpkbfghonllaaFcP4
import Derived.Test.YtgbpkbfghonllaaFcP11
namespace Go.Proofs.Ytgbpkbfghonllaa.P
open Go.RowKit Go.Proofs.YtgbpkbfghonllaaW.PrintWords Go.Proofs.YtgbpkbfghonllaaW.PrintLast Go.Proofs.YtgbpkbfghonllaaW.PrintMore
attribute [local go_sem] max2_int min2_int max_two min_two max_three min_three max_four min_four   
set_option linter.unusedVariables false
set_option linter.unusedSimpArgs false
mutual
def balustraderef16_head.l0 : Nat → Int → Int → ByteArray → Int → Int → List Int → List (List (S42)) → Option (Int)
 | 0, _, _, _, _, _, _, _ => none
 | k + 1, x3, x4, x342000, x342001, x342002, x342003, x342004 => if x4 < (x342004.length : Int) then (if 0 ≤ x4 then (balustraderef16_head.l0 k (wrap64 (x3 + ((rd_L5 x342004 x4).length : Int))) (wrap64 (x4 + 1)) x342000 x342001 x342002 x342003 x342004) else (none)) else (if x342001 < 0 then (balustraderef16_head.j1 k true x342000 x342001 x342002 x342003 x342004) else (if x342001 > 8 then (balustraderef16_head.j1 k true x342000 x342001 x342002 x342003 x342004) else (if x342001 > (x342003.length : Int) then (balustraderef16_head.j1 k true x342000 x342001 x342002 x342003 x342004) else (if (x342003.length : Int) > 65536 then (balustraderef16_head.j1 k true x342000 x342001 x342002 x342003 x342004) else (if (x342004.length : Int) > 65536 then (balustraderef16_head.j1 k true x342000 x342001 x342002 x342003 x342004) else (balustraderef16_head.j1 k (decide (x3 > 262144)) x342000 x342001 x342002 x342003 x342004))))))
def balustraderef16_head.j1 : Nat → Bool → ByteArray → Int → Int → List Int → List (List (S42)) → Option (Int)
 | 0, _, _, _, _, _, _ => none
 | k + 1, x51, x342000, x342001, x342002, x342003, x342004 => if x51 = true then (some 3) else ((balustraderef16_kinds.f k x342003).bind fun t343 => (if t343 = true then ((balustraderef16_kinds.f k (([x342002] : List Int))).bind fun t347 => (balustraderef16_head.j2 k (!t347) x342000 x342001 x342002 x342003 x342004)) else (balustraderef16_head.j2 k true x342000 x342001 x342002 x342003 x342004)))
def balustraderef16_head.j2 : Nat → Bool → ByteArray → Int → Int → List Int → List (List (S42)) → Option (Int)
 | 0, _, _, _, _, _, _ => none
 | k + 1, x62, x342000, x342001, x342002, x342003, x342004 => if x62 = true then (some 11) else (if (x342004.length : Int) = 0 then (some 5) else (some 0))
end
def balustraderef16_head.f (k : Nat) (a0_0 : ByteArray) (a0_1 : Int) (a0_2 : Int) (l0_3 : List Int) (l0_4 : List (List (S42))) : Option (Int) := balustraderef16_head.l0 k 0 0 a0_0 a0_1 a0_2 l0_3 l0_4
set_option maxHeartbeats 8000000 in
set_option maxRecDepth 100000 in
theorem balustraderef16_head.calls (k : Nat) (a0_0 : ByteArray) (a0_1 : Int) (a0_2 : Int) (A0_3 : Option Addr) (c0_3 : Nat) (l0_3 : List Int) (A0_4 : Option Addr) (c0_4 : Nat) (l0_4 : List (List (S42))) (r : Int) (w : World) (hr0_3 : Kd.C (Kd.int .i64) w A0_3 l0_3.length l0_3) (hc0_3 : l0_3.length ≤ c0_3) (hr0_4 : Kd.C (Kd.slice 42 k42) w A0_4 l0_4.length l0_4) (hc0_4 : l0_4.length ≤ c0_4) (h : balustraderef16_head.f k a0_0 a0_1 a0_2 l0_3 l0_4 = some r) :
  Calls Try.prog 26 #[.agg #[.string a0_0, .int .i64 a0_1, .int .i64 a0_2, .slice A0_3 l0_3.length c0_3, .slice A0_4 l0_4.length c0_4]] w fun e w' => e = .returned (.int .i64 r) ∧ Below w.heap.size w w' := by
 have hu39 := Try.underlying39
 have HR0_3 := Aside0.mk hr0_3
 have HC0_3 := Aside0.mk hc0_3
 clear hr0_3 hc0_3
 have HR0_4 := Aside0.mk hr0_4
 have HC0_4 := Aside0.mk hc0_4
 clear hr0_4 hc0_4
 have HB := Aside0.mk (Below.refl w.heap.size w)
 have H : (balustraderef16_head.l0 k 0 0 a0_0 a0_1 a0_2 l0_3 l0_4) = some r := h
 clear h
 have H' := Aside0.mk H
 clear H
 go_enter Try.func26, Try.ntmps26
 go_wp2_with (first | ((with_reducible refine gate_dst (N := 1) rfl ?_); (try (refine gate_guard (by rfl) ?_; dsimp only)); refine box_event ?hg (N := 1) ?hd (cs := #[.string a0_0, .int .i64 a0_1, .int .i64 a0_2, .slice A0_3 l0_3.length c0_3, .slice A0_4 l0_4.length c0_4]) (t := 39) ?hr ?_; (case hd => rfl); (case hg => rfl); (case hr => first | (go_simp; done) | (go_simp; rfl)); intro gb341 hg w2 hbox hb; have n0_ := Aside0.mk (below_step (zB) hb); have n1_ := Aside0.mk (hbox); have n2_ := Aside0.mk (zH hg : w.heap.size ≤ gb341); have n3_ := Aside0.mk (zH hg : w.heap.size ≤ gb341); clear HB; have HB := n0_; have BK341 := n1_; have GW341 := n2_; have GE341 := n3_; clear n0_ n1_ n2_ n3_; clear hb hbox hg))
 go_loopg [3, 4] k (fun kq v3 v4 w' => ∃ (x3_1 : Int) (x4_1 : Int), v3 = .int .i64 x3_1 ∧ v4 = .int .i64 x4_1 ∧ Aside0 (balustraderef16_head.l0 kq x3_1 x4_1 a0_0 a0_1 a0_2 l0_3 l0_4 = some r) ∧ Aside0 (kq ≤ k) ∧ Aside0 (w'.heap[gb341]? = some (.cells #[.string a0_0, .int .i64 a0_1, .int .i64 a0_2, (.slice A0_3 l0_3.length c0_3), (.slice A0_4 l0_4.length c0_4)] 39 (0, 0))) ∧ Aside0 (Below w.heap.size w w'))
 case atStart => exact ⟨(0), (0), zQ, zQ, H', ⟨Nat.le_refl _⟩, ⟨zK BK341.out⟩, ⟨zG⟩⟩
 case round =>
  clear H'
  (try clear c2); (try clear p2)
  obtain ⟨x3_1, x4_1, rfl, rfl, HA, HK1, BK341, HB⟩ := hrel
  cases gk with
  | zero => exact absurd HA.out (by simp [balustraderef16_head.l0])
  | succ k1 =>
   have H := HA.out
   clear HA
   simp only [balustraderef16_head.l0] at H
   by_cases c3 : x4_1 < (l0_4.length : Int)
   ·rw [if_pos c3] at H
    have c3b0 : decide (x4_1 < (l0_4.length : Int)) = true := decide_eq_true c3
    clear c3
    by_cases c4 : 0 ≤ x4_1
    ·rw [if_pos c4] at H
     have c4b0 : decide (0 ≤ x4_1) = true := decide_eq_true c4
     clear c4
     have H' := Aside0.mk H
     clear H
     obtain ⟨hcz5_0, hcz5_1, hcz5_2, hcz5_3, hcz5_4⟩ := zc5 BK341.out
     obtain ⟨hfz5_0, hfz5_1, hfz5_2, hfz5_3, hfz5_4⟩ := zf5 BK341.out
     have p342 : 0 ≤ (x4_1 : Int) := zO
     have q342 : x4_1 < (l0_4.length : Int) := zO
     obtain ⟨ad342, A342_0, c342_0, e342, hx342_0, hl342_0, hi342_0⟩ := at_L5 HR0_4.out x4_1 p342 q342
     cases e342
     replace hx342_0 := pw_cell_below HB.out hx342_0
     have HR342_0 := Aside0.mk hi342_0
     have HC342_0 := Aside0.mk hl342_0
     clear hi342_0 hl342_0
     replace p342 := eq_true p342
     replace q342 := eq_true q342
     go_wp2
     go_roundg k1
     case measure => have := HK1.out; omega
     case rel => exact ⟨(wrap64 (x3_1 + ((rd_L5 l0_4 x4_1).length : Int))), (wrap64 (x4_1 + 1)), zQ, zQ, H', ⟨by have := HK1.out; omega⟩, ⟨zK BK341.out⟩, ⟨zG⟩⟩
    ·rw [if_neg c4] at H
     exact absurd H (by simp)
   ·rw [if_neg c3] at H
    have c3b0 : decide (x4_1 < (l0_4.length : Int)) = false := decide_eq_false c3
    clear c3
    have HC6 := Aside0.mk H
    clear H
    obtain ⟨hcz7_0, hcz7_1, hcz7_2, hcz7_3, hcz7_4⟩ := zc5 BK341.out
    obtain ⟨hfz7_0, hfz7_1, hfz7_2, hfz7_3, hfz7_4⟩ := zf5 BK341.out
    go_upto_region 6 with (fail)
    go_cut [51] (fun v51 wc => ∃ (kq : Nat) (x51_5 : Bool), v51 = .bool x51_5 ∧ Aside0 (balustraderef16_head.j1 kq x51_5 a0_0 a0_1 a0_2 l0_3 l0_4 = some r) ∧ Aside0 (kq ≤ k1) ∧ Aside0 (wc.heap[gb341]? = some (.cells #[.string a0_0, .int .i64 a0_1, .int .i64 a0_2, (.slice A0_3 l0_3.length c0_3), (.slice A0_4 l0_4.length c0_4)] 39 (0, 0))) ∧ Aside0 (Below w.heap.size w wc))
    case first =>
     have H := HC6.out
     clear HC6
     by_cases c8 : a0_1 < 0
     ·rw [if_pos c8] at H
      have c8b0 : decide (a0_1 < 0) = true := decide_eq_true c8
      clear c8
      (first | rw [c8b0] | (simp only [i64_w, i32_w]; rw [c8b0]) | skip)
      have H' := Aside0.mk H
      clear H
      obtain ⟨hcz9_0, hcz9_1, hcz9_2, hcz9_3, hcz9_4⟩ := zc5 BK341.out
      obtain ⟨hfz9_0, hfz9_1, hfz9_2, hfz9_3, hfz9_4⟩ := zf5 BK341.out
      go_wp2
      go_meet
      case rel => exact ⟨_, (true), zQ, H', ⟨by have := HK1.out; first | omega | exact Nat.le_refl _⟩, ⟨zK BK341.out⟩, ⟨zG⟩⟩
     ·rw [if_neg c8] at H
      have c8b0 : decide (a0_1 < 0) = false := decide_eq_false c8
      clear c8
      (first | rw [c8b0] | (simp only [i64_w, i32_w]; rw [c8b0]) | skip)
      by_cases c10 : a0_1 > 8
      ·rw [if_pos c10] at H
       have c10b0 : decide (8 < a0_1) = true := decide_eq_true c10
       clear c10
       have H' := Aside0.mk H
       clear H
       obtain ⟨hcz11_0, hcz11_1, hcz11_2, hcz11_3, hcz11_4⟩ := zc5 BK341.out
       obtain ⟨hfz11_0, hfz11_1, hfz11_2, hfz11_3, hfz11_4⟩ := zf5 BK341.out
       go_wp2
       go_meet
       case rel => exact ⟨_, (true), zQ, H', ⟨by have := HK1.out; first | omega | exact Nat.le_refl _⟩, ⟨zK BK341.out⟩, ⟨zG⟩⟩
      ·rw [if_neg c10] at H
       have c10b0 : decide (8 < a0_1) = false := decide_eq_false c10
       clear c10
       by_cases c12 : a0_1 > (l0_3.length : Int)
       ·rw [if_pos c12] at H
        have c12b0 : decide ((l0_3.length : Int) < a0_1) = true := decide_eq_true c12
        clear c12
        have H' := Aside0.mk H
        clear H
        obtain ⟨hcz13_0, hcz13_1, hcz13_2, hcz13_3, hcz13_4⟩ := zc5 BK341.out
        obtain ⟨hfz13_0, hfz13_1, hfz13_2, hfz13_3, hfz13_4⟩ := zf5 BK341.out
        go_wp2
        go_meet
        case rel => exact ⟨_, (true), zQ, H', ⟨by have := HK1.out; first | omega | exact Nat.le_refl _⟩, ⟨zK BK341.out⟩, ⟨zG⟩⟩
       ·rw [if_neg c12] at H
        have c12b0 : decide ((l0_3.length : Int) < a0_1) = false := decide_eq_false c12
        clear c12
        by_cases c14 : (l0_3.length : Int) > 65536
        ·rw [if_pos c14] at H
         have c14b0 : decide (65536 < (l0_3.length : Int)) = true := decide_eq_true c14
         have c14b1 : decide (65536 < l0_3.length) = true := decide_eq_true (by omega)
         clear c14
         have H' := Aside0.mk H
         clear H
         obtain ⟨hcz15_0, hcz15_1, hcz15_2, hcz15_3, hcz15_4⟩ := zc5 BK341.out
         obtain ⟨hfz15_0, hfz15_1, hfz15_2, hfz15_3, hfz15_4⟩ := zf5 BK341.out
         go_wp2
         go_meet
         case rel => exact ⟨_, (true), zQ, H', ⟨by have := HK1.out; first | omega | exact Nat.le_refl _⟩, ⟨zK BK341.out⟩, ⟨zG⟩⟩
        ·rw [if_neg c14] at H
         have c14b0 : decide (65536 < (l0_3.length : Int)) = false := decide_eq_false c14
         have c14b1 : decide (65536 < l0_3.length) = false := decide_eq_false (by omega)
         clear c14
         by_cases c16 : (l0_4.length : Int) > 65536
         ·rw [if_pos c16] at H
          have c16b0 : decide (65536 < (l0_4.length : Int)) = true := decide_eq_true c16
          have c16b1 : decide (65536 < l0_4.length) = true := decide_eq_true (by omega)
          clear c16
          have H' := Aside0.mk H
          clear H
          obtain ⟨hcz17_0, hcz17_1, hcz17_2, hcz17_3, hcz17_4⟩ := zc5 BK341.out
          obtain ⟨hfz17_0, hfz17_1, hfz17_2, hfz17_3, hfz17_4⟩ := zf5 BK341.out
          go_wp2
          go_meet
          case rel => exact ⟨_, (true), zQ, H', ⟨by have := HK1.out; first | omega | exact Nat.le_refl _⟩, ⟨zK BK341.out⟩, ⟨zG⟩⟩
         ·rw [if_neg c16] at H
          have c16b0 : decide (65536 < (l0_4.length : Int)) = false := decide_eq_false c16
          have c16b1 : decide (65536 < l0_4.length) = false := decide_eq_false (by omega)
          clear c16
          have H' := Aside0.mk H
          clear H
          obtain ⟨hcz18_0, hcz18_1, hcz18_2, hcz18_3, hcz18_4⟩ := zc5 BK341.out
          obtain ⟨hfz18_0, hfz18_1, hfz18_2, hfz18_3, hfz18_4⟩ := zf5 BK341.out
          go_wp2
          go_meet
          case rel => exact ⟨_, (decide (x3_1 > 262144)), zQ, H', ⟨by have := HK1.out; first | omega | exact Nat.le_refl _⟩, ⟨zK BK341.out⟩, ⟨zG⟩⟩
    case rest =>
     clear HC6
     (try clear c1); (try clear c2); (try clear p2); (try clear c3); (try clear c3b0); (try clear p3); (try clear q3); (try clear hx3); (try clear c4); (try clear c4b0); (try clear p6); (try clear c8); (try clear c8b0); (try clear c10); (try clear c10b0); (try clear c12); (try clear c12b0); (try clear c14); (try clear c14b0); (try clear c14b1); (try clear c16); (try clear c16b0); (try clear c16b1)
     (try clear hcz11_0 hcz11_1 hcz11_2 hcz11_3 hcz11_4); (try clear hcz13_0 hcz13_1 hcz13_2 hcz13_3 hcz13_4); (try clear hcz15_0 hcz15_1 hcz15_2 hcz15_3 hcz15_4); (try clear hcz17_0 hcz17_1 hcz17_2 hcz17_3)
     (try clear hcz17_4); (try clear hcz18_0 hcz18_1 hcz18_2 hcz18_3 hcz18_4); (try clear hcz5_0 hcz5_1 hcz5_2 hcz5_3 hcz5_4); (try clear hcz7_0 hcz7_1 hcz7_2 hcz7_3 hcz7_4); (try clear hcz9_0 hcz9_1 hcz9_2 hcz9_3)
     (try clear hcz9_4); (try clear hfz11_0 hfz11_1 hfz11_2 hfz11_3 hfz11_4); (try clear hfz13_0 hfz13_1 hfz13_2 hfz13_3 hfz13_4); (try clear hfz15_0 hfz15_1 hfz15_2 hfz15_3 hfz15_4); (try clear hfz17_0 hfz17_1 hfz17_2)
     (try clear hfz17_3 hfz17_4); (try clear hfz18_0 hfz18_1 hfz18_2 hfz18_3 hfz18_4); (try clear hfz5_0 hfz5_1 hfz5_2 hfz5_3 hfz5_4); (try clear hfz7_0 hfz7_1 hfz7_2 hfz7_3 hfz7_4); (try clear hfz9_0 hfz9_1 hfz9_2)
     (try clear hfz9_3 hfz9_4); (try clear hx342_0); (try clear p2); (try clear p342); (try clear q342)
     obtain ⟨kq, x51_5, rfl, HA, HJ5, BK341, HB⟩ := hcut
     cases kq with
     | zero => exact absurd HA.out (by simp [balustraderef16_head.j1])
     | succ kj5 =>
      have H := HA.out
      clear HA
      simp only [balustraderef16_head.j1] at H
      by_cases c19 : x51_5 = true
      ·subst c19
       have H1 : (some 3) = some r := by rw [if_pos rfl] at H; exact H
       clear H
       have H := H1
       clear H1
       obtain rfl := Option.some.inj H
       go_wp2
       go_ret
       exact ⟨zV, zG⟩
      ·replace c19 := Bool.eq_false_iff.mpr c19
       subst c19
       have H1 : ((balustraderef16_kinds.f kj5 l0_3).bind fun t343 => (if t343 = true then ((balustraderef16_kinds.f kj5 (([a0_2] : List Int))).bind fun t347 => (balustraderef16_head.j2 kj5 (!t347) a0_0 a0_1 a0_2 l0_3 l0_4)) else (balustraderef16_head.j2 kj5 true a0_0 a0_1 a0_2 l0_3 l0_4))) = some r := by rw [if_neg (show ¬ (false = true) by decide)] at H; exact H
       clear H
       have H := H1
       clear H1
       have HC20 := Aside0.mk H
       clear H
       go_upto_region 8 with (fail)
       go_cut [62] (fun v62 wc => ∃ (kq : Nat) (x62_19 : Bool), v62 = .bool x62_19 ∧ Aside0 (balustraderef16_head.j2 kq x62_19 a0_0 a0_1 a0_2 l0_3 l0_4 = some r) ∧ Aside0 (kq ≤ kj5) ∧ Aside0 (wc.heap[gb341]? = some (.cells #[.string a0_0, .int .i64 a0_1, .int .i64 a0_2, (.slice A0_3 l0_3.length c0_3), (.slice A0_4 l0_4.length c0_4)] 39 (0, 0))) ∧ Aside0 (Below w.heap.size w wc))
       case first =>
        have H := HC20.out
        clear HC20
        replace H := Option.bind_eq_some_iff.mp H
        obtain ⟨t343, A210, H⟩ := H
        replace H : (if t343 = true then ((balustraderef16_kinds.f kj5 (([a0_2] : List Int))).bind fun t347 => (balustraderef16_head.j2 kj5 (!t347) a0_0 a0_1 a0_2 l0_3 l0_4)) else (balustraderef16_head.j2 kj5 true a0_0 a0_1 a0_2 l0_3 l0_4)) = some r := H
        have A21 := Aside0.mk A210
        clear A210
        by_cases c22 : t343 = true
        ·subst c22
         have H1 : ((balustraderef16_kinds.f kj5 (([a0_2] : List Int))).bind fun t347 => (balustraderef16_head.j2 kj5 (!t347) a0_0 a0_1 a0_2 l0_3 l0_4)) = some r := by rw [if_pos rfl] at H; exact H
         clear H
         have H := H1
         clear H1
         obtain ⟨y344, hy344⟩ : ∃ y_ : List Int, y_ = (([a0_2] : List Int)) := ⟨_, rfl⟩
         replace H : ((balustraderef16_kinds.f kj5 y344).bind fun t347 => (balustraderef16_head.j2 kj5 (!t347) a0_0 a0_1 a0_2 l0_3 l0_4)) = some r := by first | (rw [hy344]; with_reducible exact H) | (have H2_ := (Option.bind_some _ _).symm.trans H; rw [hy344]; with_reducible exact H2_) | (have H2_ := (Option.bind_some _ _).symm.trans H; with_reducible exact H2_) | with_reducible exact H | (rw [hy344]; exact H) | exact H
         have Ny344 := Aside0.mk hy344
         clear hy344
         replace H := Option.bind_eq_some_iff.mp H
         obtain ⟨t347, A230, H⟩ := H
         replace H : (balustraderef16_head.j2 kj5 (!t347) a0_0 a0_1 a0_2 l0_3 l0_4) = some r := H
         have A23 := Aside0.mk A230
         clear A230
         have H' := Aside0.mk H
         clear H
         obtain ⟨hcz24_0, hcz24_1, hcz24_2, hcz24_3, hcz24_4⟩ := zc5 BK341.out
         obtain ⟨hfz24_0, hfz24_1, hfz24_2, hfz24_3, hfz24_4⟩ := zf5 BK341.out
         go_wp2_with (first | ((with_reducible refine gate_callee (f := 57) rfl ?_); refine goesL_ (some 54) rfl rfl Try.func57 (by kernel_rfl) rfl #[.slice A0_3 l0_3.length c0_3] rfl zE ?_; (with_reducible refine (balustraderef16_kinds.calls kj5 _ _ l0_3 true _ ?side1 ?side2 A21.out).mono ?_); (case side1 => exact zC (Kd.C_below HR0_3.out HB.out)); (case side2 => exact HC0_3.out); rintro e w' ⟨rfl, ⟨nd, rfl⟩⟩; refine ⟨_, rfl, ?_⟩) | ((with_reducible refine gate_dst (N := 59) rfl ?_); (try (refine gate_guard (by rfl) ?_; dsimp only)); refine Kd.R_lit (Kd.int .i64) _ 3 ?hg (N := 59) ?hd (xs := ([a0_2] : List Int)) (inner := [.int .i64 a0_2]) (ok := fun _ => True) (okp := fun _ => True) ?hr ?hp (fun _ hk => hk) trivial (Below.refl _ _) (Nat.le_refl _) (by simp) ?_; (case hd => rfl); (case hg => rfl); (case hr => first | (go_simp; done) | (go_simp; rfl)); (case hp => exact (Reps.one (show Kd.M (Kd.int .i64) _ _ _ a0_2 [.int .i64 a0_2] from rfl) (Reps.none _ _))); intro v345 w25 ho26 hb hg_ hnew_; clear hg_ hnew_; (first | rw [← Ny344.out] at ho26 | (simp only [Int.reduceToNat] at ho26; rw [← Ny344.out] at ho26)); have n0_ := Aside0.mk (Kd.R_lower ho26 (below_size (zG))); have n1_ := Aside0.mk (blk_below (g := gb341) (o := .cells #[.string a0_0, .int .i64 a0_1, .int .i64 a0_2, .slice A0_3 l0_3.length c0_3, .slice A0_4 l0_4.length c0_4] 39 (0, 0)) (zK BK341.out) hb); have n2_ := Aside0.mk (below_step (zG) hb); clear BK341; clear HB; have HO346 := n0_; have BK341 := n1_; have HB := n2_; clear n0_ n1_ n2_; clear hb ho26; obtain ⟨Ao27, co27, eo27⟩ := Kd.R_slice HO346.out; subst eo27) | (go_at_call 57; (with_reducible refine (balustraderef16_kinds.calls kj5 _ _ y344 t347 _ ?side1 ?side2 A23.out).mono ?_); (case side1 => exact zC (Kd.R_reads' HO346.out).2.2); (case side2 => exact (Kd.R_reads' HO346.out).2.1); rintro e w' ⟨rfl, ⟨nd, rfl⟩⟩))
         go_meet
         case rel => exact ⟨_, (!t347), zQ, H', ⟨by have := HK1.out; have := HJ5.out; first | omega | exact Nat.le_refl _⟩, ⟨zK BK341.out⟩, ⟨zG⟩⟩
        ·replace c22 := Bool.eq_false_iff.mpr c22
         subst c22
         have H1 : (balustraderef16_head.j2 kj5 true a0_0 a0_1 a0_2 l0_3 l0_4) = some r := by rw [if_neg (show ¬ (false = true) by decide)] at H; exact H
         clear H
         have H := H1
         clear H1
         have H' := Aside0.mk H
         clear H
         obtain ⟨hcz28_0, hcz28_1, hcz28_2, hcz28_3, hcz28_4⟩ := zc5 BK341.out
         obtain ⟨hfz28_0, hfz28_1, hfz28_2, hfz28_3, hfz28_4⟩ := zf5 BK341.out
         go_wp2_with (first | ((with_reducible refine gate_callee (f := 57) rfl ?_); refine goesL_ (some 54) rfl rfl Try.func57 (by kernel_rfl) rfl #[.slice A0_3 l0_3.length c0_3] rfl zE ?_; (with_reducible refine (balustraderef16_kinds.calls kj5 _ _ l0_3 false _ ?side1 ?side2 A21.out).mono ?_); (case side1 => exact zC (Kd.C_below HR0_3.out HB.out)); (case side2 => exact HC0_3.out); rintro e w' ⟨rfl, ⟨nd, rfl⟩⟩; refine ⟨_, rfl, ?_⟩))
         go_meet
         case rel => exact ⟨_, (true), zQ, H', ⟨by have := HK1.out; have := HJ5.out; first | omega | exact Nat.le_refl _⟩, ⟨zK BK341.out⟩, ⟨zG⟩⟩
       case rest =>
        clear HC20
        (try clear c1); (try clear c2); (try clear p2); (try clear c3); (try clear c3b0); (try clear p3); (try clear q3); (try clear hx3); (try clear c4); (try clear c4b0); (try clear c5); (try clear p6); (try clear c8); (try clear c8b0); (try clear c10); (try clear c10b0); (try clear c12); (try clear c12b0); (try clear c14); (try clear c14b0); (try clear c14b1); (try clear c16); (try clear c16b0)
        (try clear c16b1); (try clear c19); (try clear c22); (try clear c26); (try clear hcz11_0 hcz11_1 hcz11_2 hcz11_3 hcz11_4); (try clear hcz13_0 hcz13_1 hcz13_2 hcz13_3 hcz13_4); (try clear hcz15_0 hcz15_1 hcz15_2 hcz15_3 hcz15_4); (try clear hcz17_0)
        (try clear hcz17_1 hcz17_2 hcz17_3 hcz17_4); (try clear hcz18_0 hcz18_1 hcz18_2 hcz18_3 hcz18_4); (try clear hcz24_0 hcz24_1 hcz24_2 hcz24_3 hcz24_4); (try clear hcz28_0 hcz28_1 hcz28_2 hcz28_3 hcz28_4)
        (try clear hcz5_0 hcz5_1 hcz5_2 hcz5_3 hcz5_4); (try clear hcz7_0 hcz7_1 hcz7_2 hcz7_3 hcz7_4); (try clear hcz9_0 hcz9_1 hcz9_2 hcz9_3 hcz9_4); (try clear hfz11_0 hfz11_1 hfz11_2 hfz11_3 hfz11_4)
        (try clear hfz13_0 hfz13_1 hfz13_2 hfz13_3 hfz13_4); (try clear hfz15_0 hfz15_1 hfz15_2 hfz15_3 hfz15_4); (try clear hfz17_0 hfz17_1 hfz17_2 hfz17_3 hfz17_4); (try clear hfz18_0 hfz18_1 hfz18_2 hfz18_3)
        (try clear hfz18_4); (try clear hfz24_0 hfz24_1 hfz24_2 hfz24_3 hfz24_4); (try clear hfz28_0 hfz28_1 hfz28_2 hfz28_3 hfz28_4); (try clear hfz5_0 hfz5_1 hfz5_2 hfz5_3 hfz5_4); (try clear hfz7_0 hfz7_1 hfz7_2 hfz7_3)
        (try clear hfz7_4); (try clear hfz9_0 hfz9_1 hfz9_2 hfz9_3 hfz9_4); (try clear hx342_0); (try clear p2); (try clear p3); (try clear p342); (try clear p6); (try clear q3); (try clear q342)
        obtain ⟨kq, x62_19, rfl, HA, HJ19, BK341, HB⟩ := hcut
        cases kq with
        | zero => exact absurd HA.out (by simp [balustraderef16_head.j2])
        | succ kj19 =>
         have H := HA.out
         clear HA
         simp only [balustraderef16_head.j2] at H
         by_cases c29 : x62_19 = true
         ·subst c29
          have H1 : (some 11) = some r := by rw [if_pos rfl] at H; exact H
          clear H
          have H := H1
          clear H1
          obtain rfl := Option.some.inj H
          go_wp2
          go_ret
          exact ⟨zV, zG⟩
         ·replace c29 := Bool.eq_false_iff.mpr c29
          subst c29
          have H1 : (if (l0_4.length : Int) = 0 then (some 5) else (some 0)) = some r := by rw [if_neg (show ¬ (false = true) by decide)] at H; exact H
          clear H
          have H := H1
          clear H1
          by_cases c30 : (l0_4.length : Int) = 0
          ·rw [if_pos c30] at H
           have c30b0 : ((l0_4.length : Int) == 0) = true := beq_iff_eq.mpr c30
           have c30b1 : ((l0_4.length : Int) != 0) = false := bne_eq_false_iff_eq.mpr c30
           clear c30
           obtain rfl := Option.some.inj H
           obtain ⟨hcz31_0, hcz31_1, hcz31_2, hcz31_3, hcz31_4⟩ := zc5 BK341.out
           obtain ⟨hfz31_0, hfz31_1, hfz31_2, hfz31_3, hfz31_4⟩ := zf5 BK341.out
           go_wp2
           go_ret
           exact ⟨zV, zG⟩
          ·rw [if_neg c30] at H
           have c30b0 : ((l0_4.length : Int) == 0) = false := beq_eq_false_iff_ne.mpr c30
           have c30b1 : ((l0_4.length : Int) != 0) = true := bne_iff_ne.mpr c30
           have c30b2 : ¬ (l0_4 = []) := fun h_ => c30 (by rw [h_]; rfl)
           obtain rfl := Option.some.inj H
           obtain ⟨hcz32_0, hcz32_1, hcz32_2, hcz32_3, hcz32_4⟩ := zc5 BK341.out
           obtain ⟨hfz32_0, hfz32_1, hfz32_2, hfz32_3, hfz32_4⟩ := zf5 BK341.out
           go_wp2
           go_ret
           exact ⟨zV, zG⟩
end Go.Proofs.Ytgbpkbfghonllaa.P
set_option linter.unusedVariables false
set_option linter.unusedSimpArgs false
namespace Go.Proofs.Ytgbpkbfghonllaa.P
open Go Go.RowKit Go.Proofs.YtgbpkbfghonllaaW.PrintWords Go.Proofs.YtgbpkbfghonllaaW.PrintLast Go.Proofs.YtgbpkbfghonllaaW.PrintMore Go.Proofs.Ytgbpkbfghonllaa.Pure
def sizeV (bl : List (List S42)) : Nat := (bl.map List.length).sum
def countV (fs : List S39) : Nat := (fs.map (fun f => sizeV f.f4)).sum
theorem sizeV_drop (bl : List (List S42)) (i : Nat) (h : i < bl.length) : sizeV (bl.drop i) = (rd_L5 bl (i : Int)).length + sizeV (bl.drop (i + 1)) := by
 rw [List.drop_eq_getElem_cons h]
 simp only [sizeV, rd_L5, List.getD_eq_getElem?_getD, h, List.map_cons, List.sum_cons, Int.toNat_natCast, List.getElem?_eq_getElem, Option.getD_some]
theorem countV_drop (fs : List S39) (i : Nat) (h : i < fs.length) : countV (fs.drop i) = sizeV (rd_T39 fs (i : Int)).f4 + countV (fs.drop (i + 1)) := by
 rw [List.drop_eq_getElem_cons h]
 simp only [countV, rd_T39, List.getD_eq_getElem?_getD, h, List.map_cons, List.sum_cons, Int.toNat_natCast, List.getElem?_eq_getElem, Option.getD_some]
theorem wrap_nat (n : Nat) (h : n < 4611686018427387904) : wrap64 (n : Int) = (n : Int) := by rw [wrap_id] <;> omega
theorem size_from (bl : List (List S42)) (hl : bl.length < 4611686018427387904) : ∀ d i (acc : Nat), bl.length - i = d → i ≤ bl.length → acc + sizeV (bl.drop i) < 4611686018427387904 → Ev (fun k => fun_size.l0 k (acc : Int) bl (bl.length : Int) (i : Int)) ((acc + sizeV (bl.drop i) : Nat) : Int) := by
 intro d
 induction d with
 | zero =>
  intro i acc hd hi hs
  obtain rfl : i = bl.length := by omega
  apply Ev.step
  ·intro k
   rw [fun_size.l0, if_neg (by omega)]
  ·simp [sizeV]
   exact Ev.now _
 | succ d ih =>
  intro i acc hd hi hs
  have hlt : i < bl.length := by omega
  rw [sizeV_drop bl i hlt] at hs ⊢
  apply Ev.step
  ·intro k
   rw [fun_size.l0, if_pos (by omega), if_pos (by omega), if_pos (by omega), wrap_succ i (by omega), ← Int.natCast_add, wrap_nat _ (by omega)]
  ·rw [← Nat.add_assoc]
   exact ih (i + 1) _ (by omega) (by omega) (by omega)
theorem size_ev (nm : ByteArray) (ps rt : Int) (rg : List Int) (bl : List (List S42)) (hl : bl.length < 4611686018427387904) (hs : sizeV bl < 4611686018427387904) : Ev (fun k => fun_size.f k nm ps rt rg bl) (sizeV bl : Int) := by
 have h := size_from bl hl bl.length 0 0 (by omega) (by omega) (by simpa using hs)
 simpa [fun_size.f] using h
theorem count_from (fs : List S39) (hl : fs.length < 4611686018427387904) (hb : ∀ f ∈ fs, f.f4.length < 4611686018427387904) : ∀ d i (acc : Nat), fs.length - i = d → i ≤ fs.length → acc + countV (fs.drop i) < 4611686018427387904 → Ev (fun k => fun_Count.l0 k (acc : Int) fs (fs.length : Int) (i : Int)) ((acc + countV (fs.drop i) : Nat) : Int) := by
 intro d
 induction d with
 | zero =>
  intro i acc hd hi hs
  obtain rfl : i = fs.length := by omega
  apply Ev.step
  ·intro k
   rw [fun_Count.l0, if_neg (by omega)]
  ·simp [countV]
   exact Ev.now _
 | succ d ih =>
  intro i acc hd hi hs
  have hlt : i < fs.length := by omega
  rw [countV_drop fs i hlt] at hs ⊢
  have hm : (rd_T39 fs (i : Int)) ∈ fs := by
   simp only [rd_T39, Int.toNat_natCast, List.getD_eq_getElem?_getD, List.getElem?_eq_getElem hlt]
   exact List.getElem_mem hlt
  apply Ev.step
  ·intro k
   rw [fun_Count.l0, if_pos (by omega), if_pos (by omega), if_pos (by omega), wrap_succ i (by omega)]
  ·refine Ev.bind (size_ev _ _ _ _ _ (hb _ hm) (by omega)) ?_
   rw [← Int.natCast_add, wrap_nat _ (by omega), ← Nat.add_assoc]
   exact ih (i + 1) _ (by omega) (by omega) (by omega)
theorem count_ev (fs : List S39) (mn : Int) (ss : List S48) (hl : fs.length < 4611686018427387904) (hb : ∀ f ∈ fs, f.f4.length < 4611686018427387904) (hs : countV fs < 4611686018427387904) : Ev (fun k => fun_Count.f k fs mn ss) (countV fs : Int) := by
 have h := count_from fs hl hb fs.length 0 0 (by omega) (by omega) (by simpa using hs)
 simpa [fun_Count.f] using h
theorem rcount_l1 (fs : List S39) (mn : Int) (ss : List S48) (n : Nat) (hn : n < fs.length) (hl : (rd_T39 fs (n : Int)).f4.length < 4611686018427387904) (hn2 : n < 4611686018427387904) (v : Int) : ∀ d i (acc : Nat), (rd_T39 fs (n : Int)).f4.length - i = d → i ≤ (rd_T39 fs (n : Int)).f4.length → acc + sizeV ((rd_T39 fs (n : Int)).f4.drop i) < 4611686018427387904 →
  Ev (fun k => balustraderef16_Count.l0 k ((acc + sizeV ((rd_T39 fs (n : Int)).f4.drop i) : Nat) : Int) ((n + 1 : Nat) : Int) fs mn ss) v → Ev (fun k => balustraderef16_Count.l1 k (acc : Int) (n : Int) (i : Int) fs mn ss) v := by
 intro d
 induction d with
 | zero =>
  intro i acc hd hi hs hv
  obtain rfl : i = (rd_T39 fs (n : Int)).f4.length := by omega
  apply Ev.step
  ·intro k
   rw [balustraderef16_Count.l1, if_pos (by omega), if_pos (by omega), if_neg (by omega), wrap_succ n (by omega)]
  ·simpa [sizeV] using hv
 | succ d ih =>
  intro i acc hd hi hs hv
  have hlt : i < (rd_T39 fs (n : Int)).f4.length := by omega
  rw [sizeV_drop _ i hlt] at hs hv
  apply Ev.step
  ·intro k
   rw [balustraderef16_Count.l1, if_pos (by omega), if_pos (by omega), if_pos (by omega), if_pos (by omega), wrap_succ i (by omega), ← Int.natCast_add, wrap_nat _ (by omega)]
  ·rw [← Nat.add_assoc] at hv
   exact ih (i + 1) _ (by omega) (by omega) (by omega) hv
theorem rcount_from (fs : List S39) (mn : Int) (ss : List S48) (hl : fs.length < 4611686018427387904) (hb : ∀ f ∈ fs, f.f4.length < 4611686018427387904) : ∀ d i (acc : Nat), fs.length - i = d → i ≤ fs.length → acc + countV (fs.drop i) < 4611686018427387904 → Ev (fun k => balustraderef16_Count.l0 k (acc : Int) (i : Int) fs mn ss) ((acc + countV (fs.drop i) : Nat) : Int) := by
 intro d
 induction d with
 | zero =>
  intro i acc hd hi hs
  obtain rfl : i = fs.length := by omega
  apply Ev.step
  ·intro k
   rw [balustraderef16_Count.l0, if_neg (by omega)]
  ·simp [countV]
   exact Ev.now _
 | succ d ih =>
  intro i acc hd hi hs
  have hlt : i < fs.length := by omega
  rw [countV_drop fs i hlt] at hs ⊢
  have hm : (rd_T39 fs (i : Int)) ∈ fs := by
   simp only [rd_T39, Int.toNat_natCast, List.getD_eq_getElem?_getD, List.getElem?_eq_getElem hlt]
   exact List.getElem_mem hlt
  apply Ev.step
  ·intro k
   rw [balustraderef16_Count.l0, if_pos (by omega)]
  ·refine rcount_l1 fs mn ss i hlt (hb _ hm) (by omega) _ _ 0 acc rfl (Nat.zero_le _) (by rw [List.drop_zero]; omega) ?_
   rw [List.drop_zero, ← Nat.add_assoc]
   exact ih (i + 1) _ (by omega) (by omega) (by omega)
theorem rcount_ev (fs : List S39) (mn : Int) (ss : List S48) (hl : fs.length < 4611686018427387904) (hb : ∀ f ∈ fs, f.f4.length < 4611686018427387904) (hs : countV fs < 4611686018427387904) : Ev (fun k => balustraderef16_Count.f k fs mn ss) (countV fs : Int) := by
 have h := rcount_from fs mn ss hl hb fs.length 0 0 (by omega) (by omega) (by simpa using hs)
 simpa [balustraderef16_Count.f] using h
def kindB (a : Int) : Bool := decide (1 ≤ a) && decide (a ≤ 3)
theorem kind_val (a : Int) : fun_kind.f a = some (kindB a) := by
 unfold fun_kind.f kindB
 by_cases h : a ≥ 1
 ·rw [if_pos h]; simp [h]
 ·rw [if_neg h]; simp [show ¬ (1 ≤ a) from h]
theorem index_from (l : List Int) (hl : l.length < 4611686018427387904) : ∀ d i, l.length - i = d → i ≤ l.length → ∃ v : Int, Ev (fun k => slices_IndexFunc_int_int.l0 k l (l.length : Int) (i : Int)) v ∧ decide (v ≥ 0) = (l.drop i).any (fun a => !kindB a) := by
 intro d
 induction d with
 | zero =>
  intro i hd hi
  obtain rfl : i = l.length := by omega
  refine ⟨-1, ?_, by simp⟩
  apply Ev.step
  ·intro k
   rw [slices_IndexFunc_int_int.l0, if_neg (by omega)]
  ·exact Ev.now _
 | succ d ih =>
  intro i hd hi
  have hlt : i < l.length := by omega
  rw [List.drop_eq_getElem_cons hlt]
  by_cases h : kindB l[i] = true
  ·obtain ⟨v, hv, hb⟩ := ih (i + 1) (by omega) (by omega)
   refine ⟨v, ?_, by rw [hb, List.any_cons, h]; simp⟩
   apply Ev.step
   ·intro k
    rw [slices_IndexFunc_int_int.l0, if_pos (by omega), if_pos (by omega), if_pos (by omega), rd_nat l i hlt, fun_head_1.f, kind_val, h, Option.bind_some, Option.bind_some, if_neg (by simp), wrap_succ i (by omega)]
   ·exact hv
  ·simp only [Bool.not_eq_true] at h
   refine ⟨(i : Int), ?_, by rw [List.any_cons, h]; simp⟩
   apply Ev.step
   ·intro k
    rw [slices_IndexFunc_int_int.l0, if_pos (by omega), if_pos (by omega), if_pos (by omega), rd_nat l i hlt, fun_head_1.f, kind_val, h, Option.bind_some, Option.bind_some, if_pos (by simp)]
   ·exact Ev.now _
theorem contains_ev (l : List Int) (hl : l.length < 4611686018427387904) : Ev (fun k => slices_ContainsFunc_int_int.f k l) (l.any (fun a => !kindB a)) := by
 obtain ⟨v, hv, hb⟩ := index_from l hl l.length 0 (by omega) (by omega)
 unfold slices_ContainsFunc_int_int.f
 refine Ev.bind hv ?_
 rw [hb, List.drop_zero]
 exact Ev.now _
theorem kinds_from (l : List Int) (hl : l.length < 4611686018427387904) : ∀ d i, l.length - i = d → i ≤ l.length → Ev (fun k => balustraderef16_kinds.l0 k l (i : Int)) ((l.drop i).all kindB) := by
 intro d
 induction d with
 | zero =>
  intro i hd hi
  obtain rfl : i = l.length := by omega
  apply Ev.step
  ·intro k
   rw [balustraderef16_kinds.l0, if_neg (by omega)]
  ·simp
   exact Ev.now _
 | succ d ih =>
  intro i hd hi
  have hlt : i < l.length := by omega
  rw [List.drop_eq_getElem_cons hlt, List.all_cons]
  by_cases h1 : l[i] < 1
  ·rw [show kindB l[i] = false by unfold kindB; rw [decide_eq_false (by omega)]; rfl]
   apply Ev.step
   ·intro k
    rw [balustraderef16_kinds.l0, if_pos (by omega), if_pos (by omega), rd_nat l i hlt, if_pos h1]
   ·exact Ev.now _
  ·by_cases h2 : l[i] > 3
   ·rw [show kindB l[i] = false by unfold kindB; rw [decide_eq_false (p := l[i] ≤ 3) (by omega), Bool.and_false]]
    apply Ev.step
    ·intro k
     rw [balustraderef16_kinds.l0, if_pos (by omega), if_pos (by omega), rd_nat l i hlt, if_neg h1, if_pos h2]
    ·exact Ev.now _
   ·rw [show kindB l[i] = true by unfold kindB; rw [decide_eq_true (by omega), decide_eq_true (by omega)]; rfl, Bool.true_and]
    apply Ev.step
    ·intro k
     rw [balustraderef16_kinds.l0, if_pos (by omega), if_pos (by omega), rd_nat l i hlt, if_neg h1, if_neg h2, wrap_succ i (by omega)]
    ·exact ih (i + 1) (by omega) (by omega)
theorem kinds_ev (l : List Int) (hl : l.length < 4611686018427387904) : Ev (fun k => balustraderef16_kinds.f k l) (l.all kindB) := kinds_from l hl l.length 0 (by omega) (by omega)
def headV (ps rt : Int) (rg : List Int) (bl : List (List S42)) : Int :=
 if ps < 0 ∨ ps > 8 ∨ ps > (rg.length : Int) ∨ (rg.length : Int) > 65536 ∨ (bl.length : Int) > 65536 ∨ (sizeV bl : Int) > 262144 then 3 else if rg.all kindB && kindB rt then (if (bl.length : Int) = 0 then 5 else 0) else 11
theorem any_all (l : List Int) : l.any (fun a => !kindB a) = !l.all kindB := by
 induction l with
 | nil => rfl
 | cons a l ih => rw [List.any_cons, List.all_cons, ih]; cases kindB a <;> simp
theorem head_j1 (b : Bool) (nm : ByteArray) (ps rt : Int) (rg : List Int) (bl : List (List S42)) : Ev (fun k => fun_head.j1 k b nm ps rt rg bl) (if b then 11 else if (bl.length : Int) = 0 then 5 else 0) := by
 apply Ev.step (f := fun _ => some (if b then 11 else if (bl.length : Int) = 0 then 5 else 0))
 ·intro k
  rw [fun_head.j1]
  cases b
  ·by_cases h : (bl.length : Int) = 0
   ·rw [if_neg Bool.false_ne_true, if_pos h, if_neg Bool.false_ne_true, if_pos h]
   ·rw [if_neg Bool.false_ne_true, if_neg h, if_neg Bool.false_ne_true, if_neg h]
  ·rw [if_pos rfl, if_pos rfl]
 ·exact Ev.now _
theorem head_j0 (b : Bool) (nm : ByteArray) (ps rt : Int) (rg : List Int) (bl : List (List S42)) (hl : rg.length < 4611686018427387904) : Ev (fun k => fun_head.j0 k b nm ps rt rg bl) (if b then 3 else if rg.all kindB && kindB rt then (if (bl.length : Int) = 0 then 5 else 0) else 11) := by
 cases b with
 | true =>
  apply Ev.step (f := fun _ => some 3)
  ·intro k
   rw [fun_head.j0, if_pos rfl]
  ·exact Ev.now _
 | false =>
  rw [if_neg (by simp)]
  cases hk : kindB rt with
  | true =>
   apply Ev.step
   ·intro k
    rw [fun_head.j0, if_neg (by simp), kind_val, hk, Option.bind_some, if_pos rfl]
   ·refine Ev.bind (contains_ev rg hl) ?_
    have h := head_j1 (rg.any (fun a => !kindB a)) nm ps rt rg bl
    rw [any_all] at h ⊢
    cases h2 : rg.all kindB <;> rw [h2] at h <;> simpa using h
  | false =>
   apply Ev.step
   ·intro k
    rw [fun_head.j0, if_neg (by simp), kind_val, hk, Option.bind_some, if_neg (by simp)]
   ·have h := head_j1 true nm ps rt rg bl
    simpa using h
theorem head_ev (nm : ByteArray) (ps rt : Int) (rg : List Int) (bl : List (List S42)) (hl : rg.length < 4611686018427387904) (hb : bl.length < 4611686018427387904) (hs : sizeV bl < 4611686018427387904) : Ev (fun k => fun_head.f k nm ps rt rg bl) (headV ps rt rg bl) := by
 unfold fun_head.f headV
 by_cases c1 : ps < 0
 ·rw [if_pos (Or.inl c1)]
  exact Ev.congr (fun k => by rw [if_pos c1, decide_eq_true c1]) (by simpa using head_j0 true nm ps rt rg bl hl)
 by_cases c2 : ps > 8
 ·rw [if_pos (by omega)]
  exact Ev.congr (fun k => by rw [if_neg c1, if_pos c2, decide_eq_true c2]) (by simpa using head_j0 true nm ps rt rg bl hl)
 by_cases c3 : ps > (rg.length : Int)
 ·rw [if_pos (by omega)]
  exact Ev.congr (fun k => by rw [if_neg c1, if_neg c2, if_pos c3, decide_eq_true c3]) (by simpa using head_j0 true nm ps rt rg bl hl)
 by_cases c4 : (rg.length : Int) > 65536
 ·rw [if_pos (by omega)]
  exact Ev.congr (fun k => by rw [if_neg c1, if_neg c2, if_neg c3, if_pos c4, decide_eq_true c4]) (by simpa using head_j0 true nm ps rt rg bl hl)
 by_cases c5 : (bl.length : Int) > 65536
 ·rw [if_pos (by omega)]
  exact Ev.congr (fun k => by rw [if_neg c1, if_neg c2, if_neg c3, if_neg c4, if_pos c5, decide_eq_true c5]) (by simpa using head_j0 true nm ps rt rg bl hl)
 refine Ev.congr (fun k => by rw [if_neg c1, if_neg c2, if_neg c3, if_neg c4, if_neg c5]) (Ev.bind (size_ev nm ps rt rg bl hb hs) ?_)
 by_cases c6 : (sizeV bl : Int) > 262144
 ·rw [if_pos (by omega), decide_eq_true c6]
  simpa using head_j0 true nm ps rt rg bl hl
 ·rw [if_neg (by omega), decide_eq_false c6]
  simpa using head_j0 false nm ps rt rg bl hl
theorem rhead_j2 (b : Bool) (nm : ByteArray) (ps rt : Int) (rg : List Int) (bl : List (List S42)) : Ev (fun k => balustraderef16_head.j2 k b nm ps rt rg bl) (if b then 11 else if (bl.length : Int) = 0 then 5 else 0) := by
 apply Ev.step (f := fun _ => some (if b then 11 else if (bl.length : Int) = 0 then 5 else 0))
 ·intro k
  rw [balustraderef16_head.j2]
  cases b
  ·by_cases h : (bl.length : Int) = 0
   ·rw [if_neg Bool.false_ne_true, if_pos h, if_neg Bool.false_ne_true, if_pos h]
   ·rw [if_neg Bool.false_ne_true, if_neg h, if_neg Bool.false_ne_true, if_neg h]
  ·rw [if_pos rfl, if_pos rfl]
 ·exact Ev.now _
theorem rhead_j1 (b : Bool) (nm : ByteArray) (ps rt : Int) (rg : List Int) (bl : List (List S42)) (hl : rg.length < 4611686018427387904) : Ev (fun k => balustraderef16_head.j1 k b nm ps rt rg bl) (if b then 3 else if rg.all kindB && kindB rt then (if (bl.length : Int) = 0 then 5 else 0) else 11) := by
 cases b with
 | true =>
  apply Ev.step (f := fun _ => some 3)
  ·intro k
   rw [balustraderef16_head.j1, if_pos rfl]
  ·exact Ev.now _
 | false =>
  rw [if_neg (by simp)]
  apply Ev.step
  ·intro k
   rw [balustraderef16_head.j1, if_neg (by simp)]
  ·refine Ev.bind (kinds_ev rg hl) ?_
   cases h2 : rg.all kindB with
   | false =>
    have h := rhead_j2 true nm ps rt rg bl
    simpa using h
   | true =>
    refine Ev.congr (fun k => by rw [if_pos rfl]) (Ev.bind (kinds_ev [rt] (by simp)) ?_)
    have h := rhead_j2 (!([rt].all kindB)) nm ps rt rg bl
    cases hk : kindB rt <;> simp [hk] at h ⊢ <;> exact h
theorem rhead_from (nm : ByteArray) (ps rt : Int) (rg : List Int) (bl : List (List S42)) (hl : rg.length < 4611686018427387904) (hb : bl.length < 4611686018427387904) : ∀ d i (acc : Nat), bl.length - i = d → i ≤ bl.length → acc + sizeV (bl.drop i) = sizeV bl → sizeV bl < 4611686018427387904 → Ev (fun k => balustraderef16_head.l0 k (acc : Int) (i : Int) nm ps rt rg bl) (headV ps rt rg bl) := by
 intro d
 induction d with
 | zero =>
  intro i acc hd hi hs hq
  obtain rfl : i = bl.length := by omega
  have hs' : acc = sizeV bl := by simpa [sizeV] using hs
  subst hs'
  have q1 := rhead_j1 true nm ps rt rg bl hl
  rw [if_pos rfl] at q1
  have q2 := rhead_j1 (decide ((sizeV bl : Int) > 262144)) nm ps rt rg bl hl
  unfold headV
  by_cases c1 : ps < 0
  ·rw [if_pos (Or.inl c1)]
   exact Ev.step (fun k => by rw [balustraderef16_head.l0, if_neg (by omega), if_pos c1]) q1
  by_cases c2 : ps > 8
  ·rw [if_pos (by omega)]
   exact Ev.step (fun k => by rw [balustraderef16_head.l0, if_neg (by omega), if_neg c1, if_pos c2]) q1
  by_cases c3 : ps > (rg.length : Int)
  ·rw [if_pos (by omega)]
   exact Ev.step (fun k => by rw [balustraderef16_head.l0, if_neg (by omega), if_neg c1, if_neg c2, if_pos c3]) q1
  by_cases c4 : (rg.length : Int) > 65536
  ·rw [if_pos (by omega)]
   exact Ev.step (fun k => by rw [balustraderef16_head.l0, if_neg (by omega), if_neg c1, if_neg c2, if_neg c3, if_pos c4]) q1
  by_cases c5 : (bl.length : Int) > 65536
  ·rw [if_pos (by omega)]
   exact Ev.step (fun k => by rw [balustraderef16_head.l0, if_neg (by omega), if_neg c1, if_neg c2, if_neg c3, if_neg c4, if_pos c5]) q1
  refine Ev.step (fun k => by rw [balustraderef16_head.l0, if_neg (by omega), if_neg c1, if_neg c2, if_neg c3, if_neg c4, if_neg c5]) ?_
  by_cases c6 : (sizeV bl : Int) > 262144
  ·rw [if_pos (by omega)]
   rw [decide_eq_true c6] at q2 ⊢
   exact q1
  ·rw [if_neg (by omega)]
   rw [decide_eq_false c6] at q2 ⊢
   rw [if_neg (by simp)] at q2
   exact q2
 | succ d ih =>
  intro i acc hd hi hs hq
  have hlt : i < bl.length := by omega
  rw [sizeV_drop bl i hlt] at hs
  apply Ev.step
  ·intro k
   rw [balustraderef16_head.l0, if_pos (by omega), if_pos (by omega), wrap_succ i (by omega), ← Int.natCast_add, wrap_nat _ (by omega)]
  ·exact ih (i + 1) _ (by omega) (by omega) (by omega) hq
theorem rhead_ev (nm : ByteArray) (ps rt : Int) (rg : List Int) (bl : List (List S42)) (hl : rg.length < 4611686018427387904) (hb : bl.length < 4611686018427387904) (hs : sizeV bl < 4611686018427387904) : Ev (fun k => balustraderef16_head.f k nm ps rt rg bl) (headV ps rt rg bl) := by
 have h := rhead_from nm ps rt rg bl hl hb bl.length 0 0 (by omega) (by omega) (by simp) hs
 simpa [balustraderef16_head.f] using h
end Go.Proofs.Ytgbpkbfghonllaa.P
set_option linter.unusedVariables false
set_option linter.unusedSimpArgs false
namespace Go.Proofs.Ytgbpkbfghonllaa.P
open Go Go.RowKit Go.Proofs.YtgbpkbfghonllaaW.PrintWords Go.Proofs.YtgbpkbfghonllaaW.PrintLast Go.Proofs.YtgbpkbfghonllaaW.PrintMore Go.Proofs.Ytgbpkbfghonllaa.Pure
attribute [local go_sem] max2_int min2_int max_two min_two
def formR (b : List S42) (at_ : Nat) : Bool :=
 rightI (b.getD at_ z42) && (endsI (b.getD at_ z42).f0 == decide ((at_ : Int) = (b.length : Int) - 1)) && (!decide ((b.getD at_ z42).f0 = 44) || (List.range at_).all (fun i => decide ((b.getD i z42).f0 = 44)))
theorem rref (x : S42) (h : x.f8.length < 100000) : balustraderef15_Right.f x.f0 x.f1 x.f2 x.f3 x.f4 x.f5 x.f6 x.f7 x.f8 = some (rightI x) := refRight_val x.f0 x.f1 x.f2 x.f3 x.f4 x.f5 x.f6 x.f7 x.f8 (by omega)
theorem rends (op : Int) : balustraderef15_Ends.f op = some (endsI op) := (ends_val op).symm.trans (ends_f op)
theorem rform_cases (R E La P : Bool) : (R = false) ∨ (R = true ∧ E = !La) ∨ (R = true ∧ E = La ∧ P = false) ∨ (R = true ∧ E = La ∧ P = true) := by cases R <;> cases E <;> cases La <;> cases P <;> simp
set_option maxHeartbeats 8000000 in
set_option maxRecDepth 100000 in
theorem rform_at (Ax : Option Addr) (cx : Nat) (b : List S42) (at_ : Nat) (w : World) (hb : k42.C w Ax b.length b) (hc : b.length ≤ cx) (ha : at_ < b.length) (hl : ∀ i, i < b.length → (b.getD i z42).f8.length < 100000) (res : Bool) (hres : formR b at_ = res) :
  Calls Try.prog 58 #[.slice Ax b.length cx, .int .i64 (at_ : Int)] w fun e w' => e = .returned (.bool res) ∧ Below w.heap.size w w' := by
 have hm : b.length ≤ 9223372036854775807 := Kd.C_max hb
 unfold formR at hres
 obtain ⟨ad, A8, c8, rfl, x0, x1, x2, x3, x4, x5, x6, x7, x8, hl8, hr8⟩ := at_T42 hb (at_ : Int) (by omega) (by omega)
 rw [show rd_T42 b (at_ : Int) = b.getD at_ z42 from rfl] at x0 x1 x2 x3 x4 x5 x6 x7 x8 hl8 hr8
 have hxl := hl at_ ha
 obtain ⟨x, hx⟩ : ∃ x, b.getD at_ z42 = x := ⟨_, rfl⟩
 rw [hx] at hres x0 x1 x2 x3 x4 x5 x6 x7 x8 hl8 hr8 hxl
 have hR := rref x hxl
 have hE := rends x.f0
 obtain ⟨R, eR⟩ : ∃ r, rightI x = r := ⟨_, rfl⟩
 obtain ⟨E, eE⟩ : ∃ r, endsI x.f0 = r := ⟨_, rfl⟩
 obtain ⟨La, eL⟩ : ∃ r, decide ((at_ : Int) = (b.length : Int) - 1) = r := ⟨_, rfl⟩
 obtain ⟨P, eP⟩ : ∃ r, decide (x.f0 = 44) = r := ⟨_, rfl⟩
 rw [eR] at hR hres
 rw [eE] at hE hres
 rw [eL, eP] at hres
 have HR := Aside0.mk hR
 have HE := Aside0.mk hE
 have HRES := Aside0.mk hres
 have HM := Aside0.mk hm
 have HBC := Aside0.mk hb
 have HA := Aside0.mk ha
 have b1 := below_alloc (Below.refl w.heap.size w) (.cells #[.int .i64 x.f0, .int .i64 x.f1, .int .i64 x.f2, .int .i64 x.f3, .int .i64 x.f4, .int .i64 x.f5, .int .i64 x.f6, .int .i64 x.f7, .slice A8 x.f8.length c8] 42)
 have BX := Aside0.mk (blk_new w (.cells #[.int .i64 x.f0, .int .i64 x.f1, .int .i64 x.f2, .int .i64 x.f3, .int .i64 x.f4, .int .i64 x.f5, .int .i64 x.f6, .int .i64 x.f7, .slice A8 x.f8.length c8] 42))
 have HB := Aside0.mk b1
 have HC8 := Aside0.mk hl8
 have HR8 := Aside0.mk (Kd.C_below hr8 b1)
 have hw1 : wrap64 ((b.length : Int) - 1) = (b.length : Int) - 1 := by unfold wrap64; omega
 have hd1 : ((at_ : Int) == (b.length : Int) - 1) = La := by rw [← eL]; rw [Bool.eq_iff_iff]; simp
 have hd2 : (x.f0 == 44) = P := by rw [← eP]; rw [Bool.eq_iff_iff]; simp
 have p1 : (0 : Int) ≤ (at_ : Int) := by omega
 have p2 : (at_ : Int) < (b.length : Int) := by omega
 simp only [Int.toNat_natCast] at x0 x1 x2 x3 x4 x5 x6 x7 x8
 clear hR hE hres hl8 hr8 hb eR eE eL eP hx hl hxl hm ha b1
 go_enter Try.func58, Try.ntmps58
 go_upto_region 2 with (fail)
 clear x0 x1 x2 x3 x4 x5 x6 x7 x8
 generalize (w.alloc (.cells #[.int .i64 x.f0, .int .i64 x.f1, .int .i64 x.f2, .int .i64 x.f3, .int .i64 x.f4, .int .i64 x.f5, .int .i64 x.f6, .int .i64 x.f7, .slice A8 x.f8.length c8] 42)) = W at *
 have z0 := blk_cell BX.out 0
 have z1 := blk_cell BX.out 1
 have z2 := blk_cell BX.out 2
 have z3 := blk_cell BX.out 3
 have z4 := blk_cell BX.out 4
 have z5 := blk_cell BX.out 5
 have z6 := blk_cell BX.out 6
 have z7 := blk_cell BX.out 7
 have z8 := blk_cell BX.out 8
 simp only [List.getElem?_toArray, List.getElem?_cons_zero, List.getElem?_cons_succ] at z0 z1 z2 z3 z4 z5 z6 z7 z8
 rcases rform_cases R E La P with rfl | ⟨rfl, rfl⟩ | ⟨rfl, rfl, rfl⟩ | ⟨rfl, rfl, rfl⟩
 iterate 2
  ·first | cases La | cases E
   all_goals
    go_wp2_with (first | (go_at_call 31; ((with_reducible refine (balustraderef15_Right.calls x.f0 x.f1 x.f2 x.f3 x.f4 x.f5 x.f6 x.f7 A8 c8 x.f8 _ _ HR8.out HC8.out HR.out).mono ?_); rintro e w' ⟨rfl, hb⟩; replace BX := Aside0.mk (blk_below BX.out hb); replace HB := Aside0.mk (below_step HB.out hb); clear HR8 hb; have z0 := blk_cell BX.out 0; have z1 := blk_cell BX.out 1; have z2 := blk_cell BX.out 2; have z3 := blk_cell BX.out 3; have z4 := blk_cell BX.out 4; have z5 := blk_cell BX.out 5; have z6 := blk_cell BX.out 6; have z7 := blk_cell BX.out 7; have z8 := blk_cell BX.out 8; simp only [List.getElem?_toArray, List.getElem?_cons_zero, List.getElem?_cons_succ] at z0 z1 z2 z3 z4 z5 z6 z7 z8)) | (go_at_call 80; ((with_reducible refine (balustraderef15_Ends.calls x.f0 _ _ HE.out).mono ?_); rintro e w' ⟨rfl, ⟨nd, rfl⟩⟩)))
    go_ret
    exact ⟨by rw [← HRES.out]; rfl, by first | exact HB.out | exact pw_below_drewN HB.out _⟩
 ·cases E
  all_goals
   go_wp2_with (first | (go_at_call 31; ((with_reducible refine (balustraderef15_Right.calls x.f0 x.f1 x.f2 x.f3 x.f4 x.f5 x.f6 x.f7 A8 c8 x.f8 _ _ HR8.out HC8.out HR.out).mono ?_); rintro e w' ⟨rfl, hb⟩; replace BX := Aside0.mk (blk_below BX.out hb); replace HB := Aside0.mk (below_step HB.out hb); clear HR8 hb; have z0 := blk_cell BX.out 0; have z1 := blk_cell BX.out 1; have z2 := blk_cell BX.out 2; have z3 := blk_cell BX.out 3; have z4 := blk_cell BX.out 4; have z5 := blk_cell BX.out 5; have z6 := blk_cell BX.out 6; have z7 := blk_cell BX.out 7; have z8 := blk_cell BX.out 8; simp only [List.getElem?_toArray, List.getElem?_cons_zero, List.getElem?_cons_succ] at z0 z1 z2 z3 z4 z5 z6 z7 z8)) | (go_at_call 80; ((with_reducible refine (balustraderef15_Ends.calls x.f0 _ _ HE.out).mono ?_); rintro e w' ⟨rfl, ⟨nd, rfl⟩⟩)))
   go_loop [6] (fun v6 => v6 = .int .i64 0) (fun v6 => 0)
   case atStart => rfl
   case round =>
    subst hrel
    by_cases h0 : 0 < at_
    ·have t1 : decide ((0 : Int) < (at_ : Int)) = true := decide_eq_true (by omega)
     have t2 : decide (0 < at_) = true := decide_eq_true h0
     go_wp2
     go_ret
     exact ⟨by rw [← HRES.out]; rfl, by first | exact HB.out | exact pw_below_drewN HB.out _⟩
    ·have t1 : decide ((0 : Int) < (at_ : Int)) = false := decide_eq_false (by omega)
     have t2 : decide (0 < at_) = false := decide_eq_false h0
     go_wp2
     go_ret
     exact ⟨by rw [← HRES.out]; rfl, by first | exact HB.out | exact pw_below_drewN HB.out _⟩
 cases E
 all_goals
  go_wp2_with (first | (go_at_call 31; ((with_reducible refine (balustraderef15_Right.calls x.f0 x.f1 x.f2 x.f3 x.f4 x.f5 x.f6 x.f7 A8 c8 x.f8 _ _ HR8.out HC8.out HR.out).mono ?_); rintro e w' ⟨rfl, hb⟩; replace BX := Aside0.mk (blk_below BX.out hb); replace HB := Aside0.mk (below_step HB.out hb); clear HR8 hb; have z0 := blk_cell BX.out 0; have z1 := blk_cell BX.out 1; have z2 := blk_cell BX.out 2; have z3 := blk_cell BX.out 3; have z4 := blk_cell BX.out 4; have z5 := blk_cell BX.out 5; have z6 := blk_cell BX.out 6; have z7 := blk_cell BX.out 7; have z8 := blk_cell BX.out 8; simp only [List.getElem?_toArray, List.getElem?_cons_zero, List.getElem?_cons_succ] at z0 z1 z2 z3 z4 z5 z6 z7 z8)) | (go_at_call 80; ((with_reducible refine (balustraderef15_Ends.calls x.f0 _ _ HE.out).mono ?_); rintro e w' ⟨rfl, ⟨nd, rfl⟩⟩)))
  go_loop [6] (fun v6 => ∃ k : Nat, v6 = .int .i64 (k : Int) ∧ Aside0 (k ≤ at_ ∧ ∀ i, i < k → (b.getD i z42).f0 = 44)) (fun v6 => at_ - (intOf v6).toNat)
  case atStart => exact ⟨0, rfl, ⟨Nat.zero_le _, fun i hi => absurd hi (Nat.not_lt_zero i)⟩⟩
  case round =>
   obtain ⟨k, rfl, HK⟩ := hrel
   by_cases hlt : k < at_
   rotate_left
   ·have t1 : decide ((k : Int) < (at_ : Int)) = false := decide_eq_false (by omega)
    have t2 : decide (k < at_) = false := decide_eq_false hlt
    have hall : (List.range at_).all (fun i => decide ((b.getD i z42).f0 = 44)) = true := by
     rw [List.all_eq_true]
     intro i hi
     exact decide_eq_true (HK.out.2 i (by have := List.mem_range.1 hi; omega))
    have hr := HRES.out
    rw [hall] at hr
    have HRES := Aside0.mk hr
    clear hr hall
    go_wp2
    go_ret
    exact ⟨by rw [← HRES.out]; rfl, by first | exact HB.out | exact pw_below_drewN HB.out _⟩
   have HLT := Aside0.mk hlt
   have t1 : decide ((k : Int) < (at_ : Int)) = true := decide_eq_true (by omega)
   have t2 : decide (k < at_) = true := decide_eq_true hlt
   have q1 : (0 : Int) ≤ (k : Int) := by omega
   have q2 : (k : Int) < (b.length : Int) := by omega
   have hwr : wrap64 ((k : Int) + 1) = ((k + 1 : Nat) : Int) := by have := HM.out; unfold wrap64; omega
   have HWR := Aside0.mk hwr
   clear hwr
   obtain ⟨ad', B8, d8, e', y0, _⟩ := at_T42 HBC.out (k : Int) q1 q2
   cases e'
   rw [show rd_T42 b (k : Int) = b.getD k z42 from rfl] at y0
   (try simp only [Int.toNat_natCast] at y0)
   replace y0 := pw_cell_below HB.out y0
   obtain ⟨M, eM⟩ : ∃ r, decide ((b.getD k z42).f0 = 44) = r := ⟨_, rfl⟩
   obtain ⟨yv, eyv⟩ : ∃ r, (b.getD k z42).f0 = r := ⟨_, rfl⟩
   rw [eyv] at y0 eM
   have s1 : (yv != 44) = !M := by rw [← eM, Bool.eq_iff_iff]; simp
   have HY := Aside0.mk eyv
   have HMM := Aside0.mk eM
   clear eyv eM
   cases M
   ·have hall : (List.range at_).all (fun i => decide ((b.getD i z42).f0 = 44)) = false := by
     rw [List.all_eq_false]
     exact ⟨k, List.mem_range.2 HLT.out, by rw [HY.out, HMM.out]; simp⟩
    have hr := HRES.out
    rw [hall] at hr
    have HRES := Aside0.mk hr
    clear hr hall
    go_wp2
    go_ret
    exact ⟨by rw [← HRES.out]; rfl, by first | exact HB.out | exact pw_below_drewN HB.out _⟩
   ·go_wp2
    go_round
    case rel => exact ⟨k + 1, by first | (rw [HWR.out]; done) | (rw [HWR.out]) | go_num, ⟨HLT.out, fun i hi => by rcases Nat.lt_succ_iff_lt_or_eq.1 hi with h | rfl; exact HK.out.2 i h; rw [HY.out]; exact of_decide_eq_true HMM.out⟩⟩
    case measure => exact bd_meas2 _ _ _ (by first | exact HWR.out | omega) HLT.out
end Go.Proofs.Ytgbpkbfghonllaa.P

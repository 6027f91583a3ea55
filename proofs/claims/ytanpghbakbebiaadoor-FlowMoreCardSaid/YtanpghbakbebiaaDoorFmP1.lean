/- A part of it. -/
import Derived.Test.YtanpghbakbebiaaDoorFmZ
import Derived.Test.YtanpghbakbebiaaDoorFmP0
namespace Go.Proofs.YtanpghbakbebiaaDoor.P
open Go.RowKit Go.Proofs.YtanpghbakbebiaaDoorW.PrintWords Go.Proofs.YtanpghbakbebiaaDoorW.PrintLast Go.Proofs.YtanpghbakbebiaaDoorW.PrintMore
attribute [local go_sem] max2_int min2_int max_two min_two max_three min_three max_four min_four   
set_option linter.unusedVariables false
set_option linter.unusedSimpArgs false
mutual
def balustradelaw18_few.l0 : Nat → Int → Int → List (List Int) → Bool → Bool → Int → List (List Int) → List (List Int) → List Int → Option (Bool)
 | 0, _, _, _, _, _, _, _, _, _ => none
 | k + 1, x3, x4, x102000, x102001, x102002, x102003, x102004, x102005, x102006 => if x4 < (x102000.length : Int) then (if 0 ≤ x4 then (balustradelaw18_few.l0 k (wrap64 (x3 + ((rd_L1 x102000 x4).length : Int))) (wrap64 (x4 + 1)) x102000 x102001 x102002 x102003 x102004 x102005 x102006) else (none)) else (balustradelaw18_few.l1 k x3 0 x102000 x102001 x102002 x102003 x102004 x102005 x102006)
def balustradelaw18_few.l1 : Nat → Int → Int → List (List Int) → Bool → Bool → Int → List (List Int) → List (List Int) → List Int → Option (Bool)
 | 0, _, _, _, _, _, _, _, _, _ => none
 | k + 1, x3, x5, x102000, x102001, x102002, x102003, x102004, x102005, x102006 => if x5 < (x102004.length : Int) then (if 0 ≤ x5 then (balustradelaw18_few.l1 k (wrap64 (x3 + ((rd_L1 x102004 x5).length : Int))) (wrap64 (x5 + 1)) x102000 x102001 x102002 x102003 x102004 x102005 x102006) else (none)) else (balustradelaw18_few.l2 k x3 0 x102000 x102001 x102002 x102003 x102004 x102005 x102006)
def balustradelaw18_few.l2 : Nat → Int → Int → List (List Int) → Bool → Bool → Int → List (List Int) → List (List Int) → List Int → Option (Bool)
 | 0, _, _, _, _, _, _, _, _, _ => none
 | k + 1, x3, x6, x102000, x102001, x102002, x102003, x102004, x102005, x102006 => if x6 < (x102005.length : Int) then (if 0 ≤ x6 then (balustradelaw18_few.l2 k (wrap64 (x3 + ((rd_L1 x102005 x6).length : Int))) (wrap64 (x6 + 1)) x102000 x102001 x102002 x102003 x102004 x102005 x102006) else (none)) else (if (x102000.length : Int) ≤ 12 then (if (x102004.length : Int) ≤ 12 then (if (x102005.length : Int) ≤ 12 then (if x3 ≤ 200 then (if x102003 ≤ 70 then (some true) else (some (decide (x102003 > 65536)))) else (some false)) else (some false)) else (some false)) else (some false))
end
def balustradelaw18_few.f (k : Nat) (l0_0 : List (List Int)) (a0_1 : Bool) (a0_2 : Bool) (a0_3 : Int) (l0_4 : List (List Int)) (l0_5 : List (List Int)) (l0_6 : List Int) : Option (Bool) := balustradelaw18_few.l0 k (l0_6.length : Int) 0 l0_0 a0_1 a0_2 a0_3 l0_4 l0_5 l0_6
set_option maxHeartbeats 8000000 in
set_option maxRecDepth 100000 in
theorem balustradelaw18_few.calls (k : Nat) (A0_0 : Option Addr) (c0_0 : Nat) (l0_0 : List (List Int)) (a0_1 : Bool) (a0_2 : Bool) (a0_3 : Int) (A0_4 : Option Addr) (c0_4 : Nat) (l0_4 : List (List Int)) (A0_5 : Option Addr) (c0_5 : Nat) (l0_5 : List (List Int)) (A0_6 : Option Addr) (c0_6 : Nat) (l0_6 : List Int) (r : Bool) (w : World) (hr0_0 : Kd.C (Kd.slice 3 (Kd.int .i64)) w A0_0 l0_0.length l0_0) (hc0_0 : l0_0.length ≤ c0_0) (hr0_4 : Kd.C (Kd.slice 3 (Kd.int .i64)) w A0_4 l0_4.length l0_4) (hc0_4 : l0_4.length ≤ c0_4) (hr0_5 : Kd.C (Kd.slice 3 (Kd.int .i64)) w A0_5 l0_5.length l0_5) (hc0_5 : l0_5.length ≤ c0_5) (hr0_6 : Kd.C (Kd.int .i64) w A0_6 l0_6.length l0_6) (hc0_6 : l0_6.length ≤ c0_6) (h : balustradelaw18_few.f k l0_0 a0_1 a0_2 a0_3 l0_4 l0_5 l0_6 = some r) :
  Calls Tryd.prog 6 #[.agg #[.slice A0_0 l0_0.length c0_0, .bool a0_1, .bool a0_2, .int .i64 a0_3, .slice A0_4 l0_4.length c0_4, .slice A0_5 l0_5.length c0_5, .slice A0_6 l0_6.length c0_6]] w fun e w' => e = .returned (.bool r) ∧ Below w.heap.size w w' := by
 have hu25 := Tryd.underlying25
 have HR0_0 := Aside0.mk hr0_0
 have HC0_0 := Aside0.mk hc0_0
 clear hr0_0 hc0_0
 have HR0_4 := Aside0.mk hr0_4
 have HC0_4 := Aside0.mk hc0_4
 clear hr0_4 hc0_4
 have HR0_5 := Aside0.mk hr0_5
 have HC0_5 := Aside0.mk hc0_5
 clear hr0_5 hc0_5
 have HR0_6 := Aside0.mk hr0_6
 have HC0_6 := Aside0.mk hc0_6
 clear hr0_6 hc0_6
 have HB := Aside0.mk (Below.refl w.heap.size w)
 have H : (balustradelaw18_few.l0 k (l0_6.length : Int) 0 l0_0 a0_1 a0_2 a0_3 l0_4 l0_5 l0_6) = some r := h
 clear h
 have H' := Aside0.mk H
 clear H
 go_enter Tryd.func6, Tryd.ntmps6
 go_wp2_with (first | ((with_reducible refine gate_dst (N := 1) rfl ?_); (try (refine gate_guard (by rfl) ?_; dsimp only)); refine box_event ?hg (N := 1) ?hd (cs := #[.slice A0_0 l0_0.length c0_0, .bool a0_1, .bool a0_2, .int .i64 a0_3, .slice A0_4 l0_4.length c0_4, .slice A0_5 l0_5.length c0_5, .slice A0_6 l0_6.length c0_6]) (t := 25) ?hr ?_; (case hd => rfl); (case hg => rfl); (case hr => first | (go_simp; done) | (go_simp; rfl)); intro gb101 hg w2 hbox hb; have n0_ := Aside0.mk (below_step (zB) hb); have n1_ := Aside0.mk (hbox); have n2_ := Aside0.mk (zH hg : w.heap.size ≤ gb101); have n3_ := Aside0.mk (zH hg : w.heap.size ≤ gb101); clear HB; have HB := n0_; have BK101 := n1_; have GW101 := n2_; have GE101 := n3_; clear n0_ n1_ n2_ n3_; clear hb hbox hg; obtain ⟨hcz3_0, hcz3_1, hcz3_2, hcz3_3, hcz3_4, hcz3_5, hcz3_6⟩ := zc7 BK101.out; obtain ⟨hfz3_0, hfz3_1, hfz3_2, hfz3_3, hfz3_4, hfz3_5, hfz3_6⟩ := zf7 BK101.out))
 go_loopg [3, 4] k (fun kq v3 v4 w' => ∃ (x3_1 : Int) (x4_1 : Int), v3 = .int .i64 x3_1 ∧ v4 = .int .i64 x4_1 ∧ Aside0 (balustradelaw18_few.l0 kq x3_1 x4_1 l0_0 a0_1 a0_2 a0_3 l0_4 l0_5 l0_6 = some r) ∧ Aside0 (kq ≤ k) ∧ Aside0 (w'.heap[gb101]? = some (.cells #[(.slice A0_0 l0_0.length c0_0), .bool a0_1, .bool a0_2, .int .i64 a0_3, (.slice A0_4 l0_4.length c0_4), (.slice A0_5 l0_5.length c0_5), (.slice A0_6 l0_6.length c0_6)] 25 (0, 0))) ∧ Aside0 (Below w.heap.size w w'))
 case atStart => exact ⟨((l0_6.length : Int)), (0), zQ, zQ, H', ⟨Nat.le_refl _⟩, ⟨zK BK101.out⟩, ⟨zG⟩⟩
 case round =>
  clear H'
  (try clear p2); (try clear hcz3_0 hcz3_1 hcz3_2 hcz3_3 hcz3_4 hcz3_5 hcz3_6); (try clear hfz3_0 hfz3_1 hfz3_2 hfz3_3 hfz3_4 hfz3_5 hfz3_6)
  obtain ⟨x3_1, x4_1, rfl, rfl, HA, HK1, BK101, HB⟩ := hrel
  cases gk with
  | zero => exact absurd HA.out (by simp [balustradelaw18_few.l0])
  | succ k1 =>
   have H := HA.out
   clear HA
   simp only [balustradelaw18_few.l0] at H
   by_cases c4 : x4_1 < (l0_0.length : Int)
   ·rw [if_pos c4] at H
    have c4b0 : decide (x4_1 < (l0_0.length : Int)) = true := decide_eq_true c4
    clear c4
    by_cases c5 : 0 ≤ x4_1
    ·rw [if_pos c5] at H
     have c5b0 : decide (0 ≤ x4_1) = true := decide_eq_true c5
     clear c5
     have H' := Aside0.mk H
     clear H
     obtain ⟨hcz6_0, hcz6_1, hcz6_2, hcz6_3, hcz6_4, hcz6_5, hcz6_6⟩ := zc7 BK101.out
     obtain ⟨hfz6_0, hfz6_1, hfz6_2, hfz6_3, hfz6_4, hfz6_5, hfz6_6⟩ := zf7 BK101.out
     have p102 : 0 ≤ (x4_1 : Int) := zO
     have q102 : x4_1 < (l0_0.length : Int) := zO
     obtain ⟨ad102, A102_0, c102_0, e102, hx102_0, hl102_0, hi102_0⟩ := at_L1 HR0_0.out x4_1 p102 q102
     cases e102
     replace hx102_0 := pw_cell_below HB.out hx102_0
     have HR102_0 := Aside0.mk hi102_0
     have HC102_0 := Aside0.mk hl102_0
     clear hi102_0 hl102_0
     replace p102 := eq_true p102
     replace q102 := eq_true q102
     go_wp2
     go_roundg k1
     case measure => have := HK1.out; omega
     case rel => exact ⟨(wrap64 (x3_1 + ((rd_L1 l0_0 x4_1).length : Int))), (wrap64 (x4_1 + 1)), zQ, zQ, H', ⟨by have := HK1.out; omega⟩, ⟨zK BK101.out⟩, ⟨zG⟩⟩
    ·rw [if_neg c5] at H
     exact absurd H (by simp)
   ·rw [if_neg c4] at H
    have c4b0 : decide (x4_1 < (l0_0.length : Int)) = false := decide_eq_false c4
    clear c4
    have H' := Aside0.mk H
    clear H
    obtain ⟨hcz7_0, hcz7_1, hcz7_2, hcz7_3, hcz7_4, hcz7_5, hcz7_6⟩ := zc7 BK101.out
    obtain ⟨hfz7_0, hfz7_1, hfz7_2, hfz7_3, hfz7_4, hfz7_5, hfz7_6⟩ := zf7 BK101.out
    go_wp2
    go_loopg [3, 5] k1 (fun kq v3 v5 w' => ∃ (x3_2 : Int) (x5_2 : Int), v3 = .int .i64 x3_2 ∧ v5 = .int .i64 x5_2 ∧ Aside0 (balustradelaw18_few.l1 kq x3_2 x5_2 l0_0 a0_1 a0_2 a0_3 l0_4 l0_5 l0_6 = some r) ∧ Aside0 (kq ≤ k1) ∧ Aside0 (w'.heap[gb101]? = some (.cells #[(.slice A0_0 l0_0.length c0_0), .bool a0_1, .bool a0_2, .int .i64 a0_3, (.slice A0_4 l0_4.length c0_4), (.slice A0_5 l0_5.length c0_5), (.slice A0_6 l0_6.length c0_6)] 25 (0, 0))) ∧ Aside0 (Below w.heap.size w w'))
    case atStart => exact ⟨(x3_1), (0), zQ, zQ, H', ⟨Nat.le_refl _⟩, ⟨zK BK101.out⟩, ⟨zG⟩⟩
    case round =>
     clear H'
     (try clear c1); (try clear p1); (try clear q1); (try clear hx1); (try clear p2); (try clear c4); (try clear c4b0); (try clear c5); (try clear c5b0); (try clear c6); (try clear p6); (try clear hcz3_0 hcz3_1 hcz3_2 hcz3_3 hcz3_4 hcz3_5 hcz3_6); (try clear hcz6_0 hcz6_1 hcz6_2 hcz6_3)
     (try clear hcz6_4 hcz6_5 hcz6_6); (try clear hcz7_0 hcz7_1 hcz7_2 hcz7_3 hcz7_4 hcz7_5 hcz7_6); (try clear hfz3_0 hfz3_1 hfz3_2 hfz3_3 hfz3_4 hfz3_5 hfz3_6); (try clear hfz6_0 hfz6_1 hfz6_2)
     (try clear hfz6_3 hfz6_4 hfz6_5 hfz6_6); (try clear hfz7_0 hfz7_1 hfz7_2 hfz7_3 hfz7_4 hfz7_5 hfz7_6); (try clear hx102_0); (try clear p102); (try clear p2); (try clear q102)
     obtain ⟨x3_2, x5_2, rfl, rfl, HA, HK2, BK101, HB⟩ := hrel
     cases gk with
     | zero => exact absurd HA.out (by simp [balustradelaw18_few.l1])
     | succ k2 =>
      have H := HA.out
      clear HA
      simp only [balustradelaw18_few.l1] at H
      by_cases c8 : x5_2 < (l0_4.length : Int)
      ·rw [if_pos c8] at H
       have c8b0 : decide (x5_2 < (l0_4.length : Int)) = true := decide_eq_true c8
       clear c8
       by_cases c9 : 0 ≤ x5_2
       ·rw [if_pos c9] at H
        have c9b0 : decide (0 ≤ x5_2) = true := decide_eq_true c9
        clear c9
        have H' := Aside0.mk H
        clear H
        obtain ⟨hcz10_0, hcz10_1, hcz10_2, hcz10_3, hcz10_4, hcz10_5, hcz10_6⟩ := zc7 BK101.out
        obtain ⟨hfz10_0, hfz10_1, hfz10_2, hfz10_3, hfz10_4, hfz10_5, hfz10_6⟩ := zf7 BK101.out
        have p103 : 0 ≤ (x5_2 : Int) := zO
        have q103 : x5_2 < (l0_4.length : Int) := zO
        obtain ⟨ad103, A103_0, c103_0, e103, hx103_0, hl103_0, hi103_0⟩ := at_L1 HR0_4.out x5_2 p103 q103
        cases e103
        replace hx103_0 := pw_cell_below HB.out hx103_0
        have HR103_0 := Aside0.mk hi103_0
        have HC103_0 := Aside0.mk hl103_0
        clear hi103_0 hl103_0
        replace p103 := eq_true p103
        replace q103 := eq_true q103
        go_wp2
        go_roundg k2
        case measure => have := HK1.out; have := HK2.out; omega
        case rel => exact ⟨(wrap64 (x3_2 + ((rd_L1 l0_4 x5_2).length : Int))), (wrap64 (x5_2 + 1)), zQ, zQ, H', ⟨by have := HK1.out; have := HK2.out; omega⟩, ⟨zK BK101.out⟩, ⟨zG⟩⟩
       ·rw [if_neg c9] at H
        exact absurd H (by simp)
      ·rw [if_neg c8] at H
       have c8b0 : decide (x5_2 < (l0_4.length : Int)) = false := decide_eq_false c8
       clear c8
       have H' := Aside0.mk H
       clear H
       obtain ⟨hcz11_0, hcz11_1, hcz11_2, hcz11_3, hcz11_4, hcz11_5, hcz11_6⟩ := zc7 BK101.out
       obtain ⟨hfz11_0, hfz11_1, hfz11_2, hfz11_3, hfz11_4, hfz11_5, hfz11_6⟩ := zf7 BK101.out
       go_wp2
       go_loopg [3, 6] k2 (fun kq v3 v6 w' => ∃ (x3_3 : Int) (x6_3 : Int), v3 = .int .i64 x3_3 ∧ v6 = .int .i64 x6_3 ∧ Aside0 (balustradelaw18_few.l2 kq x3_3 x6_3 l0_0 a0_1 a0_2 a0_3 l0_4 l0_5 l0_6 = some r) ∧ Aside0 (kq ≤ k2) ∧ Aside0 (w'.heap[gb101]? = some (.cells #[(.slice A0_0 l0_0.length c0_0), .bool a0_1, .bool a0_2, .int .i64 a0_3, (.slice A0_4 l0_4.length c0_4), (.slice A0_5 l0_5.length c0_5), (.slice A0_6 l0_6.length c0_6)] 25 (0, 0))) ∧ Aside0 (Below w.heap.size w w'))
       case atStart => exact ⟨(x3_2), (0), zQ, zQ, H', ⟨Nat.le_refl _⟩, ⟨zK BK101.out⟩, ⟨zG⟩⟩
       case round =>
        clear H'
        (try clear c1); (try clear p1); (try clear q1); (try clear hx1); (try clear p2); (try clear c4); (try clear c4b0); (try clear c5); (try clear c5b0); (try clear c6); (try clear p6); (try clear c8); (try clear c8b0); (try clear c9); (try clear c9b0); (try clear c10); (try clear p10); (try clear q10); (try clear hx10); (try clear hcz10_0 hcz10_1 hcz10_2 hcz10_3)
        (try clear hcz10_4 hcz10_5 hcz10_6); (try clear hcz11_0 hcz11_1 hcz11_2 hcz11_3 hcz11_4 hcz11_5 hcz11_6); (try clear hcz3_0 hcz3_1 hcz3_2 hcz3_3 hcz3_4 hcz3_5 hcz3_6); (try clear hcz6_0 hcz6_1 hcz6_2)
        (try clear hcz6_3 hcz6_4 hcz6_5 hcz6_6); (try clear hcz7_0 hcz7_1 hcz7_2 hcz7_3 hcz7_4 hcz7_5 hcz7_6); (try clear hfz10_0 hfz10_1 hfz10_2 hfz10_3 hfz10_4 hfz10_5 hfz10_6); (try clear hfz11_0 hfz11_1)
        (try clear hfz11_2 hfz11_3 hfz11_4 hfz11_5 hfz11_6); (try clear hfz3_0 hfz3_1 hfz3_2 hfz3_3 hfz3_4 hfz3_5 hfz3_6); (try clear hfz6_0 hfz6_1 hfz6_2 hfz6_3 hfz6_4 hfz6_5 hfz6_6); (try clear hfz7_0)
        (try clear hfz7_1 hfz7_2 hfz7_3 hfz7_4 hfz7_5 hfz7_6); (try clear hx102_0); (try clear hx103_0); (try clear p1); (try clear p102); (try clear p103); (try clear p2); (try clear p6); (try clear q1); (try clear q102); (try clear q103)
        obtain ⟨x3_3, x6_3, rfl, rfl, HA, HK3, BK101, HB⟩ := hrel
        cases gk with
        | zero => exact absurd HA.out (by simp [balustradelaw18_few.l2])
        | succ k3 =>
         have H := HA.out
         clear HA
         simp only [balustradelaw18_few.l2] at H
         by_cases c12 : x6_3 < (l0_5.length : Int)
         ·rw [if_pos c12] at H
          have c12b0 : decide (x6_3 < (l0_5.length : Int)) = true := decide_eq_true c12
          clear c12
          by_cases c13 : 0 ≤ x6_3
          ·rw [if_pos c13] at H
           have c13b0 : decide (0 ≤ x6_3) = true := decide_eq_true c13
           clear c13
           have H' := Aside0.mk H
           clear H
           obtain ⟨hcz14_0, hcz14_1, hcz14_2, hcz14_3, hcz14_4, hcz14_5, hcz14_6⟩ := zc7 BK101.out
           obtain ⟨hfz14_0, hfz14_1, hfz14_2, hfz14_3, hfz14_4, hfz14_5, hfz14_6⟩ := zf7 BK101.out
           have p104 : 0 ≤ (x6_3 : Int) := zO
           have q104 : x6_3 < (l0_5.length : Int) := zO
           obtain ⟨ad104, A104_0, c104_0, e104, hx104_0, hl104_0, hi104_0⟩ := at_L1 HR0_5.out x6_3 p104 q104
           cases e104
           replace hx104_0 := pw_cell_below HB.out hx104_0
           have HR104_0 := Aside0.mk hi104_0
           have HC104_0 := Aside0.mk hl104_0
           clear hi104_0 hl104_0
           replace p104 := eq_true p104
           replace q104 := eq_true q104
           go_wp2
           go_roundg k3
           case measure => have := HK1.out; have := HK2.out; have := HK3.out; omega
           case rel => exact ⟨(wrap64 (x3_3 + ((rd_L1 l0_5 x6_3).length : Int))), (wrap64 (x6_3 + 1)), zQ, zQ, H', ⟨by have := HK1.out; have := HK2.out; have := HK3.out; omega⟩, ⟨zK BK101.out⟩, ⟨zG⟩⟩
          ·rw [if_neg c13] at H
           exact absurd H (by simp)
         ·rw [if_neg c12] at H
          have c12b0 : decide (x6_3 < (l0_5.length : Int)) = false := decide_eq_false c12
          clear c12
          by_cases c15 : (l0_0.length : Int) ≤ 12
          ·rw [if_pos c15] at H
           have c15b0 : decide ((l0_0.length : Int) ≤ 12) = true := decide_eq_true c15
           have c15b1 : decide (l0_0.length ≤ 12) = true := decide_eq_true (by omega)
           clear c15
           by_cases c16 : (l0_4.length : Int) ≤ 12
           ·rw [if_pos c16] at H
            have c16b0 : decide ((l0_4.length : Int) ≤ 12) = true := decide_eq_true c16
            have c16b1 : decide (l0_4.length ≤ 12) = true := decide_eq_true (by omega)
            clear c16
            by_cases c17 : (l0_5.length : Int) ≤ 12
            ·rw [if_pos c17] at H
             have c17b0 : decide ((l0_5.length : Int) ≤ 12) = true := decide_eq_true c17
             have c17b1 : decide (l0_5.length ≤ 12) = true := decide_eq_true (by omega)
             clear c17
             by_cases c18 : x3_3 ≤ 200
             ·rw [if_pos c18] at H
              have c18b0 : decide (x3_3 ≤ 200) = true := decide_eq_true c18
              clear c18
              by_cases c19 : a0_3 ≤ 70
              ·rw [if_pos c19] at H
               have c19b0 : decide (a0_3 ≤ 70) = true := decide_eq_true c19
               clear c19
               obtain rfl := Option.some.inj H
               obtain ⟨hcz20_0, hcz20_1, hcz20_2, hcz20_3, hcz20_4, hcz20_5, hcz20_6⟩ := zc7 BK101.out
               obtain ⟨hfz20_0, hfz20_1, hfz20_2, hfz20_3, hfz20_4, hfz20_5, hfz20_6⟩ := zf7 BK101.out
               go_wp2
               go_ret
               exact ⟨zV, zG⟩
              ·rw [if_neg c19] at H
               have c19b0 : decide (a0_3 ≤ 70) = false := decide_eq_false c19
               clear c19
               obtain rfl := Option.some.inj H
               obtain ⟨hcz21_0, hcz21_1, hcz21_2, hcz21_3, hcz21_4, hcz21_5, hcz21_6⟩ := zc7 BK101.out
               obtain ⟨hfz21_0, hfz21_1, hfz21_2, hfz21_3, hfz21_4, hfz21_5, hfz21_6⟩ := zf7 BK101.out
               go_wp2
               go_ret
               exact ⟨zV, zG⟩
             ·rw [if_neg c18] at H
              have c18b0 : decide (x3_3 ≤ 200) = false := decide_eq_false c18
              clear c18
              obtain rfl := Option.some.inj H
              obtain ⟨hcz22_0, hcz22_1, hcz22_2, hcz22_3, hcz22_4, hcz22_5, hcz22_6⟩ := zc7 BK101.out
              obtain ⟨hfz22_0, hfz22_1, hfz22_2, hfz22_3, hfz22_4, hfz22_5, hfz22_6⟩ := zf7 BK101.out
              go_wp2
              go_ret
              exact ⟨zV, zG⟩
            ·rw [if_neg c17] at H
             have c17b0 : decide ((l0_5.length : Int) ≤ 12) = false := decide_eq_false c17
             have c17b1 : decide (l0_5.length ≤ 12) = false := decide_eq_false (by omega)
             clear c17
             obtain rfl := Option.some.inj H
             obtain ⟨hcz23_0, hcz23_1, hcz23_2, hcz23_3, hcz23_4, hcz23_5, hcz23_6⟩ := zc7 BK101.out
             obtain ⟨hfz23_0, hfz23_1, hfz23_2, hfz23_3, hfz23_4, hfz23_5, hfz23_6⟩ := zf7 BK101.out
             go_wp2
             go_ret
             exact ⟨zV, zG⟩
           ·rw [if_neg c16] at H
            have c16b0 : decide ((l0_4.length : Int) ≤ 12) = false := decide_eq_false c16
            have c16b1 : decide (l0_4.length ≤ 12) = false := decide_eq_false (by omega)
            clear c16
            obtain rfl := Option.some.inj H
            obtain ⟨hcz24_0, hcz24_1, hcz24_2, hcz24_3, hcz24_4, hcz24_5, hcz24_6⟩ := zc7 BK101.out
            obtain ⟨hfz24_0, hfz24_1, hfz24_2, hfz24_3, hfz24_4, hfz24_5, hfz24_6⟩ := zf7 BK101.out
            go_wp2
            go_ret
            exact ⟨zV, zG⟩
          ·rw [if_neg c15] at H
           have c15b0 : decide ((l0_0.length : Int) ≤ 12) = false := decide_eq_false c15
           have c15b1 : decide (l0_0.length ≤ 12) = false := decide_eq_false (by omega)
           clear c15
           obtain rfl := Option.some.inj H
           obtain ⟨hcz25_0, hcz25_1, hcz25_2, hcz25_3, hcz25_4, hcz25_5, hcz25_6⟩ := zc7 BK101.out
           obtain ⟨hfz25_0, hfz25_1, hfz25_2, hfz25_3, hfz25_4, hfz25_5, hfz25_6⟩ := zf7 BK101.out
           go_wp2
           go_ret
           exact ⟨zV, zG⟩
def bits_Set_word.f (l0 : List Int) (a1 : Int) : Option (Int) := if a1 < (l0.length : Int) then (if 0 ≤ a1 then (some (rd l0 a1)) else (none)) else (some 0)
set_option maxHeartbeats 8000000 in
set_option maxRecDepth 100000 in
theorem bits_Set_word.calls (A0 : Option Addr) (c0 : Nat) (l0 : List Int) (a1 : Int) (r : Int) (w : World) (hr0 : Kd.C (Kd.int .u64) w A0 l0.length l0) (hc0 : l0.length ≤ c0) (h : bits_Set_word.f l0 a1 = some r) :
  Calls Tryd.prog 36 #[.slice A0 l0.length c0, .int .i64 a1] w fun e w' => e = .returned (.int .u64 r) ∧ Drawn0 w w' := by
 have HR0 := Aside0.mk hr0
 have HC0 := Aside0.mk hc0
 clear hr0 hc0
 have H : (if a1 < (l0.length : Int) then (if 0 ≤ a1 then (some (rd l0 a1)) else (none)) else (some 0)) = some r := h
 clear h
 by_cases c3 : a1 < (l0.length : Int)
 ·rw [if_pos c3] at H
  have c3b0 : decide (a1 < (l0.length : Int)) = true := decide_eq_true c3
  clear c3
  by_cases c4 : 0 ≤ a1
  ·rw [if_pos c4] at H
   have c4b0 : decide (0 ≤ a1) = true := decide_eq_true c4
   clear c4
   obtain rfl := Option.some.inj H
   have p105 : 0 ≤ (a1 : Int) := zO
   have q105 : a1 < (l0.length : Int) := zO
   obtain ⟨ad105, e105, hx105_0⟩ := Kd.at_int HR0.out a1 p105 q105
   cases e105
   replace p105 := eq_true p105
   replace q105 := eq_true q105
   go_enter Tryd.func36, Tryd.ntmps36
   go_wp2
   go_ret
   exact ⟨zQ, zD⟩
  ·rw [if_neg c4] at H
   exact absurd H (by simp)
 ·rw [if_neg c3] at H
  have c3b0 : decide (a1 < (l0.length : Int)) = false := decide_eq_false c3
  clear c3
  obtain rfl := Option.some.inj H
  go_enter Tryd.func36, Tryd.ntmps36
  go_wp2
  go_ret
  exact ⟨zQ, zD⟩
end Go.Proofs.YtanpghbakbebiaaDoor.P

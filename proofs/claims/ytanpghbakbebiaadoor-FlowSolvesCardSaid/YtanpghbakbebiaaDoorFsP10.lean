/- A part of it. -/
import Derived.Test.YtanpghbakbebiaaDoorFsZ
import Derived.Test.YtanpghbakbebiaaDoorFsP0
namespace Go.Proofs.YtanpghbakbebiaaDoor.P
open Go.RowKit Go.Proofs.YtanpghbakbebiaaDoorW.PrintWords Go.Proofs.YtanpghbakbebiaaDoorW.PrintLast Go.Proofs.YtanpghbakbebiaaDoorW.PrintMore
attribute [local go_sem] max2_int min2_int max_two min_two max_three min_three max_four min_four   
set_option linter.unusedVariables false
set_option linter.unusedSimpArgs false
mutual
def balustraderef18_May.j0 : Nat → Int → Bool → List (List Int) → Bool → Bool → Int → List (List Int) → List (List Int) → List Int → Option (Bool)
 | 0, _, _, _, _, _, _, _, _, _ => none
 | k + 1, x3, x30, x298000, x298001, x298002, x298003, x298004, x298005, x298006 => if x30 = true then (some false) else (balustraderef18_May.l0 k x3 0 x298000 x298001 x298002 x298003 x298004 x298005 x298006)
def balustraderef18_May.l0 : Nat → Int → Int → List (List Int) → Bool → Bool → Int → List (List Int) → List (List Int) → List Int → Option (Bool)
 | 0, _, _, _, _, _, _, _, _, _ => none
 | k + 1, x3, x4, x298000, x298001, x298002, x298003, x298004, x298005, x298006 => if x4 < x3 then (balustraderef18_May.l1 k x3 x4 0 x298000 x298001 x298002 x298003 x298004 x298005 x298006) else (some true)
def balustraderef18_May.l1 : Nat → Int → Int → Int → List (List Int) → Bool → Bool → Int → List (List Int) → List (List Int) → List Int → Option (Bool)
 | 0, _, _, _, _, _, _, _, _, _, _ => none
 | k + 1, x3, x4, x5, x298000, x298001, x298002, x298003, x298004, x298005, x298006 => if 0 ≤ x4 then (if x4 < (x298000.length : Int) then (if x5 < ((rd_L1 x298000 x4).length : Int) then (if 0 ≤ x5 then (if (rd (rd_L1 x298000 x4) x5) < 0 then (some false) else (if (rd (rd_L1 x298000 x4) x5) ≥ x3 then (some false) else (balustraderef18_May.l1 k x3 x4 (wrap64 (x5 + 1)) x298000 x298001 x298002 x298003 x298004 x298005 x298006))) else (none)) else (balustraderef18_May.l0 k x3 (wrap64 (x4 + 1)) x298000 x298001 x298002 x298003 x298004 x298005 x298006)) else (none)) else (none)
end
def balustraderef18_May.f (k : Nat) (l0_0 : List (List Int)) (a0_1 : Bool) (a0_2 : Bool) (a0_3 : Int) (l0_4 : List (List Int)) (l0_5 : List (List Int)) (l0_6 : List Int) : Option (Bool) := if a0_3 < 0 then (balustraderef18_May.j0 k (l0_0.length : Int) true l0_0 a0_1 a0_2 a0_3 l0_4 l0_5 l0_6) else (if a0_3 > 65536 then (balustraderef18_May.j0 k (l0_0.length : Int) true l0_0 a0_1 a0_2 a0_3 l0_4 l0_5 l0_6) else (if (l0_4.length : Int) = (l0_0.length : Int) then (balustraderef18_May.j0 k (l0_0.length : Int) ((l0_5.length : Int) != (l0_0.length : Int)) l0_0 a0_1 a0_2 a0_3 l0_4 l0_5 l0_6) else (balustraderef18_May.j0 k (l0_0.length : Int) true l0_0 a0_1 a0_2 a0_3 l0_4 l0_5 l0_6)))
set_option maxHeartbeats 8000000 in
set_option maxRecDepth 100000 in
theorem balustraderef18_May.calls (k : Nat) (A0_0 : Option Addr) (c0_0 : Nat) (l0_0 : List (List Int)) (a0_1 : Bool) (a0_2 : Bool) (a0_3 : Int) (A0_4 : Option Addr) (c0_4 : Nat) (l0_4 : List (List Int)) (A0_5 : Option Addr) (c0_5 : Nat) (l0_5 : List (List Int)) (A0_6 : Option Addr) (c0_6 : Nat) (l0_6 : List Int) (r : Bool) (w : World) (hr0_0 : Kd.C (Kd.slice 3 (Kd.int .i64)) w A0_0 l0_0.length l0_0) (hc0_0 : l0_0.length ≤ c0_0) (hr0_4 : Kd.C (Kd.slice 3 (Kd.int .i64)) w A0_4 l0_4.length l0_4) (hc0_4 : l0_4.length ≤ c0_4) (hr0_5 : Kd.C (Kd.slice 3 (Kd.int .i64)) w A0_5 l0_5.length l0_5) (hc0_5 : l0_5.length ≤ c0_5) (hr0_6 : Kd.C (Kd.int .i64) w A0_6 l0_6.length l0_6) (hc0_6 : l0_6.length ≤ c0_6) (h : balustraderef18_May.f k l0_0 a0_1 a0_2 a0_3 l0_4 l0_5 l0_6 = some r) :
  Calls Tryd.prog 10 #[.agg #[.slice A0_0 l0_0.length c0_0, .bool a0_1, .bool a0_2, .int .i64 a0_3, .slice A0_4 l0_4.length c0_4, .slice A0_5 l0_5.length c0_5, .slice A0_6 l0_6.length c0_6]] w fun e w' => e = .returned (.bool r) ∧ Below w.heap.size w w' := by
 have hu25 := Tryd.underlying25
 have HR0_0 := Aside0.mk hr0_0
 have HC0_0 := Aside0.mk hc0_0
 clear hr0_0 hc0_0
 have HR0_4 := Aside0.mk hr0_4
 have HC0_4 := Aside0.mk hc0_4
 clear hr0_4 hc0_4
 have HR0_5 := Aside0.mk hr0_5
 have HC0_5 := Aside0.mk hc0_5
 clear hr0_5 hc0_5
 have HR0_6 := Aside0.mk hr0_6
 have HC0_6 := Aside0.mk hc0_6
 clear hr0_6 hc0_6
 have HB := Aside0.mk (Below.refl w.heap.size w)
 have H : (if a0_3 < 0 then (balustraderef18_May.j0 k (l0_0.length : Int) true l0_0 a0_1 a0_2 a0_3 l0_4 l0_5 l0_6) else (if a0_3 > 65536 then (balustraderef18_May.j0 k (l0_0.length : Int) true l0_0 a0_1 a0_2 a0_3 l0_4 l0_5 l0_6) else (if (l0_4.length : Int) = (l0_0.length : Int) then (balustraderef18_May.j0 k (l0_0.length : Int) ((l0_5.length : Int) != (l0_0.length : Int)) l0_0 a0_1 a0_2 a0_3 l0_4 l0_5 l0_6) else (balustraderef18_May.j0 k (l0_0.length : Int) true l0_0 a0_1 a0_2 a0_3 l0_4 l0_5 l0_6)))) = some r := h
 clear h
 have HC2 := Aside0.mk H
 clear H
 go_enter Tryd.func10, Tryd.ntmps10
 go_upto_region 2 with (first | ((with_reducible refine gate_dst (N := 1) rfl ?_); (try (refine gate_guard (by rfl) ?_; dsimp only)); refine box_event ?hg (N := 1) ?hd (cs := #[.slice A0_0 l0_0.length c0_0, .bool a0_1, .bool a0_2, .int .i64 a0_3, .slice A0_4 l0_4.length c0_4, .slice A0_5 l0_5.length c0_5, .slice A0_6 l0_6.length c0_6]) (t := 25) ?hr ?_; (case hd => rfl); (case hg => rfl); (case hr => first | (go_simp; done) | (go_simp; rfl)); intro gb297 hg w3 hbox hb; have n0_ := Aside0.mk (below_step (zB) hb); have n1_ := Aside0.mk (hbox); have n2_ := Aside0.mk (zH hg : w.heap.size ≤ gb297); have n3_ := Aside0.mk (zH hg : w.heap.size ≤ gb297); clear HB; have HB := n0_; have BK297 := n1_; have GW297 := n2_; have GE297 := n3_; clear n0_ n1_ n2_ n3_; clear hb hbox hg; obtain ⟨hcz4_0, hcz4_1, hcz4_2, hcz4_3, hcz4_4, hcz4_5, hcz4_6⟩ := zc7 BK297.out; obtain ⟨hfz4_0, hfz4_1, hfz4_2, hfz4_3, hfz4_4, hfz4_5, hfz4_6⟩ := zf7 BK297.out))
 (try simp only [Act.put, List.setIfInBounds_toArray, List.set_cons_zero, List.set_cons_succ])
 go_cut [30] (fun v30 wc => ∃ (kq : Nat) (x30_1 : Bool), v30 = .bool x30_1 ∧ Aside0 (balustraderef18_May.j0 kq (l0_0.length : Int) x30_1 l0_0 a0_1 a0_2 a0_3 l0_4 l0_5 l0_6 = some r) ∧ Aside0 (kq ≤ k) ∧ Aside0 (wc.heap[gb297]? = some (.cells #[(.slice A0_0 l0_0.length c0_0), .bool a0_1, .bool a0_2, .int .i64 a0_3, (.slice A0_4 l0_4.length c0_4), (.slice A0_5 l0_5.length c0_5), (.slice A0_6 l0_6.length c0_6)] 25 (0, 0))) ∧ Aside0 (Below w.heap.size w wc))
 case first =>
  have H := HC2.out
  clear HC2
  by_cases c5 : a0_3 < 0
  ·rw [if_pos c5] at H
   have c5b0 : decide (a0_3 < 0) = true := decide_eq_true c5
   clear c5
   (first | rw [c5b0] | (simp only [i64_w, i32_w]; rw [c5b0]) | skip)
   have H' := Aside0.mk H
   clear H
   obtain ⟨hcz6_0, hcz6_1, hcz6_2, hcz6_3, hcz6_4, hcz6_5, hcz6_6⟩ := zc7 BK297.out
   obtain ⟨hfz6_0, hfz6_1, hfz6_2, hfz6_3, hfz6_4, hfz6_5, hfz6_6⟩ := zf7 BK297.out
   go_wp2
   go_meet
   case rel => exact ⟨_, (true), zQ, H', ⟨by first | omega | exact Nat.le_refl _⟩, ⟨zK BK297.out⟩, ⟨zG⟩⟩
  ·rw [if_neg c5] at H
   have c5b0 : decide (a0_3 < 0) = false := decide_eq_false c5
   clear c5
   (first | rw [c5b0] | (simp only [i64_w, i32_w]; rw [c5b0]) | skip)
   by_cases c7 : a0_3 > 65536
   ·rw [if_pos c7] at H
    have c7b0 : decide (65536 < a0_3) = true := decide_eq_true c7
    clear c7
    have H' := Aside0.mk H
    clear H
    obtain ⟨hcz8_0, hcz8_1, hcz8_2, hcz8_3, hcz8_4, hcz8_5, hcz8_6⟩ := zc7 BK297.out
    obtain ⟨hfz8_0, hfz8_1, hfz8_2, hfz8_3, hfz8_4, hfz8_5, hfz8_6⟩ := zf7 BK297.out
    go_wp2
    go_meet
    case rel => exact ⟨_, (true), zQ, H', ⟨by first | omega | exact Nat.le_refl _⟩, ⟨zK BK297.out⟩, ⟨zG⟩⟩
   ·rw [if_neg c7] at H
    have c7b0 : decide (65536 < a0_3) = false := decide_eq_false c7
    clear c7
    by_cases c9 : (l0_4.length : Int) = (l0_0.length : Int)
    ·rw [if_pos c9] at H
     have c9b0 : ((l0_4.length : Int) == (l0_0.length : Int)) = true := beq_iff_eq.mpr c9
     have c9b1 : ((l0_4.length : Int) != (l0_0.length : Int)) = false := bne_eq_false_iff_eq.mpr c9
     have c9b2 : (l0_4.length == l0_0.length) = true := by first | simpa using c9 | (simp at c9 ⊢; omega)
     clear c9
     have H' := Aside0.mk H
     clear H
     obtain ⟨hcz10_0, hcz10_1, hcz10_2, hcz10_3, hcz10_4, hcz10_5, hcz10_6⟩ := zc7 BK297.out
     obtain ⟨hfz10_0, hfz10_1, hfz10_2, hfz10_3, hfz10_4, hfz10_5, hfz10_6⟩ := zf7 BK297.out
     go_wp2
     go_meet
     case rel => exact ⟨_, (((l0_5.length : Int) != (l0_0.length : Int))), zQ, H', ⟨by first | omega | exact Nat.le_refl _⟩, ⟨zK BK297.out⟩, ⟨zG⟩⟩
    ·rw [if_neg c9] at H
     have c9b0 : ((l0_4.length : Int) == (l0_0.length : Int)) = false := beq_eq_false_iff_ne.mpr c9
     have c9b1 : ((l0_4.length : Int) != (l0_0.length : Int)) = true := bne_iff_ne.mpr c9
     have c9b2 : (l0_4.length == l0_0.length) = false := by first | simpa using c9 | (simp at c9 ⊢; omega)
     have H' := Aside0.mk H
     clear H
     obtain ⟨hcz11_0, hcz11_1, hcz11_2, hcz11_3, hcz11_4, hcz11_5, hcz11_6⟩ := zc7 BK297.out
     obtain ⟨hfz11_0, hfz11_1, hfz11_2, hfz11_3, hfz11_4, hfz11_5, hfz11_6⟩ := zf7 BK297.out
     go_wp2
     go_meet
     case rel => exact ⟨_, (true), zQ, H', ⟨by first | omega | exact Nat.le_refl _⟩, ⟨zK BK297.out⟩, ⟨zG⟩⟩
 case rest =>
  clear HC2
  (try clear c1); (try clear p2); (try clear c5); (try clear c5b0); (try clear c7); (try clear c7b0); (try clear c9); (try clear c9b0); (try clear c9b1); (try clear c9b2); (try clear c10); (try clear hcz10_0 hcz10_1 hcz10_2 hcz10_3 hcz10_4 hcz10_5 hcz10_6); (try clear hcz11_0 hcz11_1 hcz11_2 hcz11_3)
  (try clear hcz11_4 hcz11_5 hcz11_6); (try clear hcz4_0 hcz4_1 hcz4_2 hcz4_3 hcz4_4 hcz4_5 hcz4_6); (try clear hcz6_0 hcz6_1 hcz6_2 hcz6_3 hcz6_4 hcz6_5 hcz6_6); (try clear hcz8_0 hcz8_1 hcz8_2)
  (try clear hcz8_3 hcz8_4 hcz8_5 hcz8_6); (try clear hfz10_0 hfz10_1 hfz10_2 hfz10_3 hfz10_4 hfz10_5 hfz10_6); (try clear hfz11_0 hfz11_1 hfz11_2 hfz11_3 hfz11_4 hfz11_5 hfz11_6); (try clear hfz4_0 hfz4_1)
  (try clear hfz4_2 hfz4_3 hfz4_4 hfz4_5 hfz4_6); (try clear hfz6_0 hfz6_1 hfz6_2 hfz6_3 hfz6_4 hfz6_5 hfz6_6); (try clear hfz8_0 hfz8_1 hfz8_2 hfz8_3 hfz8_4 hfz8_5 hfz8_6)
  obtain ⟨kq, x30_1, rfl, HA, HJ1, BK297, HB⟩ := hcut
  cases kq with
  | zero => exact absurd HA.out (by simp [balustraderef18_May.j0])
  | succ kj1 =>
   have H := HA.out
   clear HA
   simp only [balustraderef18_May.j0] at H
   by_cases c12 : x30_1 = true
   ·subst c12
    have H1 : (some false) = some r := by rw [if_pos rfl] at H; exact H
    clear H
    have H := H1
    clear H1
    obtain rfl := Option.some.inj H
    go_wp2
    go_ret
    exact ⟨zV, zG⟩
   ·replace c12 := Bool.eq_false_iff.mpr c12
    subst c12
    have H1 : (balustraderef18_May.l0 kj1 (l0_0.length : Int) 0 l0_0 a0_1 a0_2 a0_3 l0_4 l0_5 l0_6) = some r := by rw [if_neg (show ¬ (false = true) by decide)] at H; exact H
    clear H
    have H := H1
    clear H1
    have H' := Aside0.mk H
    clear H
    go_wp2
    go_loopg [4] kj1 (fun kq v4 w' => ∃ (x4_2 : Int), v4 = .int .i64 x4_2 ∧ Aside0 (balustraderef18_May.l0 kq (l0_0.length : Int) x4_2 l0_0 a0_1 a0_2 a0_3 l0_4 l0_5 l0_6 = some r) ∧ Aside0 (kq ≤ kj1) ∧ Aside0 (w'.heap[gb297]? = some (.cells #[(.slice A0_0 l0_0.length c0_0), .bool a0_1, .bool a0_2, .int .i64 a0_3, (.slice A0_4 l0_4.length c0_4), (.slice A0_5 l0_5.length c0_5), (.slice A0_6 l0_6.length c0_6)] 25 (0, 0))) ∧ Aside0 (Below w.heap.size w w'))
    case atStart => exact ⟨(0), zQ, H', ⟨Nat.le_refl _⟩, ⟨zK BK297.out⟩, ⟨zG⟩⟩
    case round =>
     clear H'
     (try clear c1); (try clear p2); (try clear c5); (try clear c5b0); (try clear c7); (try clear c7b0); (try clear c9); (try clear c9b0); (try clear c9b1); (try clear c9b2); (try clear c10); (try clear c12); (try clear hcz10_0 hcz10_1 hcz10_2 hcz10_3 hcz10_4 hcz10_5 hcz10_6); (try clear hcz11_0 hcz11_1 hcz11_2)
     (try clear hcz11_3 hcz11_4 hcz11_5 hcz11_6); (try clear hcz4_0 hcz4_1 hcz4_2 hcz4_3 hcz4_4 hcz4_5 hcz4_6); (try clear hcz6_0 hcz6_1 hcz6_2 hcz6_3 hcz6_4 hcz6_5 hcz6_6); (try clear hcz8_0 hcz8_1)
     (try clear hcz8_2 hcz8_3 hcz8_4 hcz8_5 hcz8_6); (try clear hfz10_0 hfz10_1 hfz10_2 hfz10_3 hfz10_4 hfz10_5 hfz10_6); (try clear hfz11_0 hfz11_1 hfz11_2 hfz11_3 hfz11_4 hfz11_5 hfz11_6); (try clear hfz4_0)
     (try clear hfz4_1 hfz4_2 hfz4_3 hfz4_4 hfz4_5 hfz4_6); (try clear hfz6_0 hfz6_1 hfz6_2 hfz6_3 hfz6_4 hfz6_5 hfz6_6); (try clear hfz8_0 hfz8_1 hfz8_2 hfz8_3 hfz8_4 hfz8_5 hfz8_6)
     try clear p2
     obtain ⟨x4_2, rfl, HA, HK2, BK297, HB⟩ := hrel
     cases gk with
     | zero => exact absurd HA.out (by simp [balustraderef18_May.l0])
     | succ k2 =>
      have H := HA.out
      clear HA
      simp only [balustraderef18_May.l0] at H
      by_cases c13 : x4_2 < (l0_0.length : Int)
      ·rw [if_pos c13] at H
       have c13b0 : decide (x4_2 < (l0_0.length : Int)) = true := decide_eq_true c13
       clear c13
       have H' := Aside0.mk H
       clear H
       go_wp2
       go_loopg [5] k2 (fun kq v5 w' => ∃ (x5_3 : Int), v5 = .int .i64 x5_3 ∧ Aside0 (balustraderef18_May.l1 kq (l0_0.length : Int) x4_2 x5_3 l0_0 a0_1 a0_2 a0_3 l0_4 l0_5 l0_6 = some r) ∧ Aside0 (kq ≤ k2) ∧ Aside0 (w'.heap[gb297]? = some (.cells #[(.slice A0_0 l0_0.length c0_0), .bool a0_1, .bool a0_2, .int .i64 a0_3, (.slice A0_4 l0_4.length c0_4), (.slice A0_5 l0_5.length c0_5), (.slice A0_6 l0_6.length c0_6)] 25 (0, 0))) ∧ Aside0 (Below w.heap.size w w'))
       case atStart => exact ⟨(0), zQ, H', ⟨Nat.le_refl _⟩, ⟨zK BK297.out⟩, ⟨zG⟩⟩
       case round =>
        clear H'
        (try clear c1); (try clear p2); (try clear c5); (try clear c5b0); (try clear c7); (try clear c7b0); (try clear c9); (try clear c9b0); (try clear c9b1); (try clear c9b2); (try clear c10); (try clear c12); (try clear c13); (try clear c13b0); (try clear hcz10_0 hcz10_1 hcz10_2 hcz10_3 hcz10_4 hcz10_5 hcz10_6); (try clear hcz11_0)
        (try clear hcz11_1 hcz11_2 hcz11_3 hcz11_4 hcz11_5 hcz11_6); (try clear hcz4_0 hcz4_1 hcz4_2 hcz4_3 hcz4_4 hcz4_5 hcz4_6); (try clear hcz6_0 hcz6_1 hcz6_2 hcz6_3 hcz6_4 hcz6_5 hcz6_6)
        (try clear hcz8_0 hcz8_1 hcz8_2 hcz8_3 hcz8_4 hcz8_5 hcz8_6); (try clear hfz10_0 hfz10_1 hfz10_2 hfz10_3 hfz10_4 hfz10_5 hfz10_6); (try clear hfz11_0 hfz11_1 hfz11_2 hfz11_3 hfz11_4 hfz11_5)
        (try clear hfz11_6); (try clear hfz4_0 hfz4_1 hfz4_2 hfz4_3 hfz4_4 hfz4_5 hfz4_6); (try clear hfz6_0 hfz6_1 hfz6_2 hfz6_3 hfz6_4 hfz6_5 hfz6_6); (try clear hfz8_0 hfz8_1 hfz8_2 hfz8_3 hfz8_4)
        (try clear hfz8_5 hfz8_6); (try clear p2)
        obtain ⟨x5_3, rfl, HA, HK3, BK297, HB⟩ := hrel
        cases gk with
        | zero => exact absurd HA.out (by simp [balustraderef18_May.l1])
        | succ k3 =>
         have H := HA.out
         clear HA
         simp only [balustraderef18_May.l1] at H
         by_cases c14 : 0 ≤ x4_2
         ·rw [if_pos c14] at H
          have c14b0 : decide (0 ≤ x4_2) = true := decide_eq_true c14
          clear c14
          by_cases c15 : x4_2 < (l0_0.length : Int)
          ·rw [if_pos c15] at H
           have c15b0 : decide (x4_2 < (l0_0.length : Int)) = true := decide_eq_true c15
           clear c15
           by_cases c16 : x5_3 < ((rd_L1 l0_0 x4_2).length : Int)
           ·rw [if_pos c16] at H
            have c16b0 : decide (x5_3 < ((rd_L1 l0_0 x4_2).length : Int)) = true := decide_eq_true c16
            clear c16
            by_cases c17 : 0 ≤ x5_3
            ·rw [if_pos c17] at H
             have c17b0 : decide (0 ≤ x5_3) = true := decide_eq_true c17
             clear c17
             by_cases c18 : (rd (rd_L1 l0_0 x4_2) x5_3) < 0
             ·rw [if_pos c18] at H
              have c18b0 : decide ((rd (rd_L1 l0_0 x4_2) x5_3) < 0) = true := decide_eq_true c18
              clear c18
              obtain rfl := Option.some.inj H
              obtain ⟨hcz19_0, hcz19_1, hcz19_2, hcz19_3, hcz19_4, hcz19_5, hcz19_6⟩ := zc7 BK297.out
              obtain ⟨hfz19_0, hfz19_1, hfz19_2, hfz19_3, hfz19_4, hfz19_5, hfz19_6⟩ := zf7 BK297.out
              have p298 : 0 ≤ (x4_2 : Int) := zO
              have q298 : x4_2 < (l0_0.length : Int) := zO
              obtain ⟨ad298, A298_0, c298_0, e298, hx298_0, hl298_0, hi298_0⟩ := at_L1 HR0_0.out x4_2 p298 q298
              cases e298
              replace hx298_0 := pw_cell_below HB.out hx298_0
              have HR298_0 := Aside0.mk hi298_0
              have HC298_0 := Aside0.mk hl298_0
              clear hi298_0 hl298_0
              replace p298 := eq_true p298
              replace q298 := eq_true q298
              have p299 : 0 ≤ (x4_2 : Int) := zO
              have q299 : x4_2 < (l0_0.length : Int) := zO
              obtain ⟨ad299, A299_0, c299_0, e299, hx299_0, hl299_0, hi299_0⟩ := at_L1 HR0_0.out x4_2 p299 q299
              obtain rfl : ad298 = ad299 := (by injection e299)
              replace hx299_0 := pw_cell_below HB.out hx299_0
              have HR299_0 := Aside0.mk hi299_0
              have HC299_0 := Aside0.mk hl299_0
              clear hi299_0 hl299_0
              replace p299 := eq_true p299
              replace q299 := eq_true q299
              have ea_ := Option.some.inj (hx298_0.symm.trans hx299_0)
              injection ea_ with ea_ en_ ec_
              subst ea_
              subst ec_
              clear en_
              have p300 : 0 ≤ (x5_3 : Int) := zO
              have q300 : x5_3 < ((rd_L1 l0_0 x4_2).length : Int) := zO
              obtain ⟨ad300, e300, hx300_0⟩ := Kd.at_int HR299_0.out x5_3 p300 q300
              cases e300
              replace hx300_0 := pw_cell_below HB.out hx300_0
              replace p300 := eq_true p300
              replace q300 := eq_true q300
              go_wp2
              go_ret
              exact ⟨zV, zG⟩
             ·rw [if_neg c18] at H
              have c18b0 : decide ((rd (rd_L1 l0_0 x4_2) x5_3) < 0) = false := decide_eq_false c18
              clear c18
              by_cases c20 : (rd (rd_L1 l0_0 x4_2) x5_3) ≥ (l0_0.length : Int)
              ·rw [if_pos c20] at H
               have c20b0 : decide ((l0_0.length : Int) ≤ (rd (rd_L1 l0_0 x4_2) x5_3)) = true := decide_eq_true c20
               clear c20
               obtain rfl := Option.some.inj H
               obtain ⟨hcz21_0, hcz21_1, hcz21_2, hcz21_3, hcz21_4, hcz21_5, hcz21_6⟩ := zc7 BK297.out
               obtain ⟨hfz21_0, hfz21_1, hfz21_2, hfz21_3, hfz21_4, hfz21_5, hfz21_6⟩ := zf7 BK297.out
               have p298 : 0 ≤ (x4_2 : Int) := zO
               have q298 : x4_2 < (l0_0.length : Int) := zO
               obtain ⟨ad298, A298_0, c298_0, e298, hx298_0, hl298_0, hi298_0⟩ := at_L1 HR0_0.out x4_2 p298 q298
               cases e298
               replace hx298_0 := pw_cell_below HB.out hx298_0
               have HR298_0 := Aside0.mk hi298_0
               have HC298_0 := Aside0.mk hl298_0
               clear hi298_0 hl298_0
               replace p298 := eq_true p298
               replace q298 := eq_true q298
               have p299 : 0 ≤ (x4_2 : Int) := zO
               have q299 : x4_2 < (l0_0.length : Int) := zO
               obtain ⟨ad299, A299_0, c299_0, e299, hx299_0, hl299_0, hi299_0⟩ := at_L1 HR0_0.out x4_2 p299 q299
               obtain rfl : ad298 = ad299 := (by injection e299)
               replace hx299_0 := pw_cell_below HB.out hx299_0
               have HR299_0 := Aside0.mk hi299_0
               have HC299_0 := Aside0.mk hl299_0
               clear hi299_0 hl299_0
               replace p299 := eq_true p299
               replace q299 := eq_true q299
               have ea_ := Option.some.inj (hx298_0.symm.trans hx299_0)
               injection ea_ with ea_ en_ ec_
               subst ea_
               subst ec_
               clear en_
               have p300 : 0 ≤ (x5_3 : Int) := zO
               have q300 : x5_3 < ((rd_L1 l0_0 x4_2).length : Int) := zO
               obtain ⟨ad300, e300, hx300_0⟩ := Kd.at_int HR299_0.out x5_3 p300 q300
               cases e300
               replace hx300_0 := pw_cell_below HB.out hx300_0
               replace p300 := eq_true p300
               replace q300 := eq_true q300
               have p301 : 0 ≤ (x4_2 : Int) := zO
               have q301 : x4_2 < (l0_0.length : Int) := zO
               obtain ⟨ad301, A301_0, c301_0, e301, hx301_0, hl301_0, hi301_0⟩ := at_L1 HR0_0.out x4_2 p301 q301
               obtain rfl : ad298 = ad301 := (by injection e301)
               replace hx301_0 := pw_cell_below HB.out hx301_0
               have HR301_0 := Aside0.mk hi301_0
               have HC301_0 := Aside0.mk hl301_0
               clear hi301_0 hl301_0
               replace p301 := eq_true p301
               replace q301 := eq_true q301
               have ea_ := Option.some.inj (hx298_0.symm.trans hx301_0)
               injection ea_ with ea_ en_ ec_
               subst ea_
               subst ec_
               clear en_
               have p302 : 0 ≤ (x5_3 : Int) := zO
               have q302 : x5_3 < ((rd_L1 l0_0 x4_2).length : Int) := zO
               obtain ⟨ad302, e302, hx302_0⟩ := Kd.at_int HR301_0.out x5_3 p302 q302
               cases e302
               replace hx302_0 := pw_cell_below HB.out hx302_0
               replace p302 := eq_true p302
               replace q302 := eq_true q302
               go_wp2
               go_ret
               exact ⟨zV, zG⟩
              ·rw [if_neg c20] at H
               have c20b0 : decide ((l0_0.length : Int) ≤ (rd (rd_L1 l0_0 x4_2) x5_3)) = false := decide_eq_false c20
               clear c20
               have H' := Aside0.mk H
               clear H
               obtain ⟨hcz22_0, hcz22_1, hcz22_2, hcz22_3, hcz22_4, hcz22_5, hcz22_6⟩ := zc7 BK297.out
               obtain ⟨hfz22_0, hfz22_1, hfz22_2, hfz22_3, hfz22_4, hfz22_5, hfz22_6⟩ := zf7 BK297.out
               have p298 : 0 ≤ (x4_2 : Int) := zO
               have q298 : x4_2 < (l0_0.length : Int) := zO
               obtain ⟨ad298, A298_0, c298_0, e298, hx298_0, hl298_0, hi298_0⟩ := at_L1 HR0_0.out x4_2 p298 q298
               cases e298
               replace hx298_0 := pw_cell_below HB.out hx298_0
               have HR298_0 := Aside0.mk hi298_0
               have HC298_0 := Aside0.mk hl298_0
               clear hi298_0 hl298_0
               replace p298 := eq_true p298
               replace q298 := eq_true q298
               have p299 : 0 ≤ (x4_2 : Int) := zO
               have q299 : x4_2 < (l0_0.length : Int) := zO
               obtain ⟨ad299, A299_0, c299_0, e299, hx299_0, hl299_0, hi299_0⟩ := at_L1 HR0_0.out x4_2 p299 q299
               obtain rfl : ad298 = ad299 := (by injection e299)
               replace hx299_0 := pw_cell_below HB.out hx299_0
               have HR299_0 := Aside0.mk hi299_0
               have HC299_0 := Aside0.mk hl299_0
               clear hi299_0 hl299_0
               replace p299 := eq_true p299
               replace q299 := eq_true q299
               have ea_ := Option.some.inj (hx298_0.symm.trans hx299_0)
               injection ea_ with ea_ en_ ec_
               subst ea_
               subst ec_
               clear en_
               have p300 : 0 ≤ (x5_3 : Int) := zO
               have q300 : x5_3 < ((rd_L1 l0_0 x4_2).length : Int) := zO
               obtain ⟨ad300, e300, hx300_0⟩ := Kd.at_int HR299_0.out x5_3 p300 q300
               cases e300
               replace hx300_0 := pw_cell_below HB.out hx300_0
               replace p300 := eq_true p300
               replace q300 := eq_true q300
               have p301 : 0 ≤ (x4_2 : Int) := zO
               have q301 : x4_2 < (l0_0.length : Int) := zO
               obtain ⟨ad301, A301_0, c301_0, e301, hx301_0, hl301_0, hi301_0⟩ := at_L1 HR0_0.out x4_2 p301 q301
               obtain rfl : ad298 = ad301 := (by injection e301)
               replace hx301_0 := pw_cell_below HB.out hx301_0
               have HR301_0 := Aside0.mk hi301_0
               have HC301_0 := Aside0.mk hl301_0
               clear hi301_0 hl301_0
               replace p301 := eq_true p301
               replace q301 := eq_true q301
               have ea_ := Option.some.inj (hx298_0.symm.trans hx301_0)
               injection ea_ with ea_ en_ ec_
               subst ea_
               subst ec_
               clear en_
               have p302 : 0 ≤ (x5_3 : Int) := zO
               have q302 : x5_3 < ((rd_L1 l0_0 x4_2).length : Int) := zO
               obtain ⟨ad302, e302, hx302_0⟩ := Kd.at_int HR301_0.out x5_3 p302 q302
               cases e302
               replace hx302_0 := pw_cell_below HB.out hx302_0
               replace p302 := eq_true p302
               replace q302 := eq_true q302
               go_wp2
               go_roundg k3
               case measure => have := HJ1.out; have := HK2.out; have := HK3.out; omega
               case rel => exact ⟨(wrap64 (x5_3 + 1)), zQ, H', ⟨by have := HJ1.out; have := HK2.out; have := HK3.out; omega⟩, ⟨zK BK297.out⟩, ⟨zG⟩⟩
            ·rw [if_neg c17] at H
             exact absurd H (by simp)
           ·rw [if_neg c16] at H
            have c16b0 : decide (x5_3 < ((rd_L1 l0_0 x4_2).length : Int)) = false := decide_eq_false c16
            clear c16
            have H' := Aside0.mk H
            clear H
            obtain ⟨hcz23_0, hcz23_1, hcz23_2, hcz23_3, hcz23_4, hcz23_5, hcz23_6⟩ := zc7 BK297.out
            obtain ⟨hfz23_0, hfz23_1, hfz23_2, hfz23_3, hfz23_4, hfz23_5, hfz23_6⟩ := zf7 BK297.out
            have p298 : 0 ≤ (x4_2 : Int) := zO
            have q298 : x4_2 < (l0_0.length : Int) := zO
            obtain ⟨ad298, A298_0, c298_0, e298, hx298_0, hl298_0, hi298_0⟩ := at_L1 HR0_0.out x4_2 p298 q298
            cases e298
            replace hx298_0 := pw_cell_below HB.out hx298_0
            have HR298_0 := Aside0.mk hi298_0
            have HC298_0 := Aside0.mk hl298_0
            clear hi298_0 hl298_0
            replace p298 := eq_true p298
            replace q298 := eq_true q298
            go_wp2
            go_roundg k3
            case measure => have := HJ1.out; have := HK2.out; have := HK3.out; omega
            case rel => exact ⟨(wrap64 (x4_2 + 1)), zQ, H', ⟨by have := HJ1.out; have := HK2.out; have := HK3.out; omega⟩, ⟨zK BK297.out⟩, ⟨zG⟩⟩
          ·rw [if_neg c15] at H
           exact absurd H (by simp)
         ·rw [if_neg c14] at H
          exact absurd H (by simp)
      ·rw [if_neg c13] at H
       have c13b0 : decide (x4_2 < (l0_0.length : Int)) = false := decide_eq_false c13
       clear c13
       obtain rfl := Option.some.inj H
       go_wp2
       go_ret
       exact ⟨zV, zG⟩
end Go.Proofs.YtanpghbakbebiaaDoor.P

/- A part of it. -/
import Derived.Test.YtgbpkbfghonllaaFcZ
import Derived.Test.YtgbpkbfghonllaaFcP0
import Derived.Test.YtgbpkbfghonllaaFcM23
import Derived.Test.YtgbpkbfghonllaaFcP6
import Derived.Test.YtgbpkbfghonllaaFcP12
namespace Go.Proofs.Ytgbpkbfghonllaa.P
open Go.RowKit Go.Proofs.YtgbpkbfghonllaaW.PrintWords Go.Proofs.YtgbpkbfghonllaaW.PrintLast Go.Proofs.YtgbpkbfghonllaaW.PrintMore
attribute [local go_sem] max2_int min2_int max_two min_two max_three min_three max_four min_four   
set_option linter.unusedVariables false
set_option linter.unusedSimpArgs false
mutual
def fun_head.j0 : Nat → Bool → ByteArray → Int → Int → List Int → List (List (S42)) → Option (Int)
 | 0, _, _, _, _, _, _ => none
 | k + 1, x3, x212000, x212001, x212002, x212003, x212004 => if x3 = true then (some 3) else ((fun_kind.f x212002).bind fun t213 => (if t213 = true then ((slices_ContainsFunc_int_int.f k x212003).bind fun t214 => (fun_head.j1 k t214 x212000 x212001 x212002 x212003 x212004)) else (fun_head.j1 k (!t213) x212000 x212001 x212002 x212003 x212004)))
def fun_head.j1 : Nat → Bool → ByteArray → Int → Int → List Int → List (List (S42)) → Option (Int)
 | 0, _, _, _, _, _, _ => none
 | k + 1, x27, x212000, x212001, x212002, x212003, x212004 => if x27 = true then (some 11) else (if (x212004.length : Int) = 0 then (some 5) else (some 0))
end
def fun_head.f (k : Nat) (a0_0 : ByteArray) (a0_1 : Int) (a0_2 : Int) (l0_3 : List Int) (l0_4 : List (List (S42))) : Option (Int) := if a0_1 < 0 then (fun_head.j0 k (decide (a0_1 < 0)) a0_0 a0_1 a0_2 l0_3 l0_4) else (if a0_1 > 8 then (fun_head.j0 k (decide (a0_1 > 8)) a0_0 a0_1 a0_2 l0_3 l0_4) else (if a0_1 > (l0_3.length : Int) then (fun_head.j0 k (decide (a0_1 > (l0_3.length : Int))) a0_0 a0_1 a0_2 l0_3 l0_4) else (if (l0_3.length : Int) > 65536 then (fun_head.j0 k (decide ((l0_3.length : Int) > 65536)) a0_0 a0_1 a0_2 l0_3 l0_4) else (if (l0_4.length : Int) > 65536 then (fun_head.j0 k (decide ((l0_4.length : Int) > 65536)) a0_0 a0_1 a0_2 l0_3 l0_4) else ((fun_size.f k a0_0 a0_1 a0_2 l0_3 l0_4).bind fun t212 => (fun_head.j0 k (decide (t212 > 262144)) a0_0 a0_1 a0_2 l0_3 l0_4))))))
set_option maxHeartbeats 8000000 in
set_option maxRecDepth 100000 in
theorem fun_head.calls (k : Nat) (a0_0 : ByteArray) (a0_1 : Int) (a0_2 : Int) (A0_3 : Option Addr) (c0_3 : Nat) (l0_3 : List Int) (A0_4 : Option Addr) (c0_4 : Nat) (l0_4 : List (List (S42))) (r : Int) (w : World) (hr0_3 : Kd.C (Kd.int .i64) w A0_3 l0_3.length l0_3) (hc0_3 : l0_3.length ≤ c0_3) (hr0_4 : Kd.C (Kd.slice 42 k42) w A0_4 l0_4.length l0_4) (hc0_4 : l0_4.length ≤ c0_4) (h : fun_head.f k a0_0 a0_1 a0_2 l0_3 l0_4 = some r) :
  Calls Try.prog 49 #[.agg #[.string a0_0, .int .i64 a0_1, .int .i64 a0_2, .slice A0_3 l0_3.length c0_3, .slice A0_4 l0_4.length c0_4]] w fun e w' => e = .returned (.int .i64 r) ∧ Below w.heap.size w w' := by
 have hu39 := Try.underlying39
 have HR0_3 := Aside0.mk hr0_3
 have HC0_3 := Aside0.mk hc0_3
 clear hr0_3 hc0_3
 have HR0_4 := Aside0.mk hr0_4
 have HC0_4 := Aside0.mk hc0_4
 clear hr0_4 hc0_4
 have HB := Aside0.mk (Below.refl w.heap.size w)
 have H : (if a0_1 < 0 then (fun_head.j0 k (decide (a0_1 < 0)) a0_0 a0_1 a0_2 l0_3 l0_4) else (if a0_1 > 8 then (fun_head.j0 k (decide (a0_1 > 8)) a0_0 a0_1 a0_2 l0_3 l0_4) else (if a0_1 > (l0_3.length : Int) then (fun_head.j0 k (decide (a0_1 > (l0_3.length : Int))) a0_0 a0_1 a0_2 l0_3 l0_4) else (if (l0_3.length : Int) > 65536 then (fun_head.j0 k (decide ((l0_3.length : Int) > 65536)) a0_0 a0_1 a0_2 l0_3 l0_4) else (if (l0_4.length : Int) > 65536 then (fun_head.j0 k (decide ((l0_4.length : Int) > 65536)) a0_0 a0_1 a0_2 l0_3 l0_4) else ((fun_size.f k a0_0 a0_1 a0_2 l0_3 l0_4).bind fun t212 => (fun_head.j0 k (decide (t212 > 262144)) a0_0 a0_1 a0_2 l0_3 l0_4))))))) = some r := h
 clear h
 have HC2 := Aside0.mk H
 clear H
 go_enter Try.func49, Try.ntmps49
 go_upto_if 3 with (first | ((with_reducible refine gate_dst (N := 1) rfl ?_); refine box_event ?hg (N := 1) ?hd (cs := #[.string a0_0, .int .i64 a0_1, .int .i64 a0_2, .slice A0_3 l0_3.length c0_3, .slice A0_4 l0_4.length c0_4]) (t := 39) ?hr ?_; (case hd => rfl); (case hg => rfl); (case hr => first | (go_simp; done) | (go_simp; rfl)); intro gb211 hg w3 hbox hb; have n0_ := Aside0.mk (below_step (zB) hb); have n1_ := Aside0.mk (hbox); have n2_ := Aside0.mk (zH hg : w.heap.size ≤ gb211); have n3_ := Aside0.mk (zH hg : w.heap.size ≤ gb211); clear HB; have HB := n0_; have BK211 := n1_; have GW211 := n2_; have GE211 := n3_; clear n0_ n1_ n2_ n3_; clear hb hbox hg; obtain ⟨hcz4_0, hcz4_1, hcz4_2, hcz4_3, hcz4_4⟩ := zc5 BK211.out; obtain ⟨hfz4_0, hfz4_1, hfz4_2, hfz4_3, hfz4_4⟩ := zf5 BK211.out))
 (try simp only [Act.put, List.setIfInBounds_toArray, List.set_cons_zero, List.set_cons_succ])
 go_cut [3] (fun v3 wc => ∃ (kq : Nat) (x3_1 : Bool), v3 = .bool x3_1 ∧ Aside0 (fun_head.j0 kq x3_1 a0_0 a0_1 a0_2 l0_3 l0_4 = some r) ∧ Aside0 (kq ≤ k) ∧ Aside0 (wc.heap[gb211]? = some (.cells #[.string a0_0, .int .i64 a0_1, .int .i64 a0_2, (.slice A0_3 l0_3.length c0_3), (.slice A0_4 l0_4.length c0_4)] 39 (0, 0))) ∧ Aside0 (Below w.heap.size w wc))
 case first =>
  have H := HC2.out
  clear HC2
  by_cases c5 : a0_1 < 0
  ·rw [if_pos c5] at H
   have c5b0 : decide (a0_1 < 0) = true := decide_eq_true c5
   clear c5
   (first | rw [c5b0] | (simp only [i64_w, i32_w]; rw [c5b0]) | skip)
   have H' := Aside0.mk H
   clear H
   go_wp2
   go_meet
   case rel => exact ⟨_, (decide (a0_1 < 0)), zQ, H', ⟨by first | omega | exact Nat.le_refl _⟩, ⟨zK BK211.out⟩, ⟨zG⟩⟩
  ·rw [if_neg c5] at H
   have c5b0 : decide (a0_1 < 0) = false := decide_eq_false c5
   clear c5
   (first | rw [c5b0] | (simp only [i64_w, i32_w]; rw [c5b0]) | skip)
   by_cases c6 : a0_1 > 8
   ·rw [if_pos c6] at H
    have c6b0 : decide (8 < a0_1) = true := decide_eq_true c6
    clear c6
    have H' := Aside0.mk H
    clear H
    obtain ⟨hcz7_0, hcz7_1, hcz7_2, hcz7_3, hcz7_4⟩ := zc5 BK211.out
    obtain ⟨hfz7_0, hfz7_1, hfz7_2, hfz7_3, hfz7_4⟩ := zf5 BK211.out
    go_wp2
    go_meet
    case rel => exact ⟨_, (decide (a0_1 > 8)), zQ, H', ⟨by first | omega | exact Nat.le_refl _⟩, ⟨zK BK211.out⟩, ⟨zG⟩⟩
   ·rw [if_neg c6] at H
    have c6b0 : decide (8 < a0_1) = false := decide_eq_false c6
    clear c6
    by_cases c8 : a0_1 > (l0_3.length : Int)
    ·rw [if_pos c8] at H
     have c8b0 : decide ((l0_3.length : Int) < a0_1) = true := decide_eq_true c8
     clear c8
     have H' := Aside0.mk H
     clear H
     obtain ⟨hcz9_0, hcz9_1, hcz9_2, hcz9_3, hcz9_4⟩ := zc5 BK211.out
     obtain ⟨hfz9_0, hfz9_1, hfz9_2, hfz9_3, hfz9_4⟩ := zf5 BK211.out
     go_wp2
     go_meet
     case rel => exact ⟨_, (decide (a0_1 > (l0_3.length : Int))), zQ, H', ⟨by first | omega | exact Nat.le_refl _⟩, ⟨zK BK211.out⟩, ⟨zG⟩⟩
    ·rw [if_neg c8] at H
     have c8b0 : decide ((l0_3.length : Int) < a0_1) = false := decide_eq_false c8
     clear c8
     by_cases c10 : (l0_3.length : Int) > 65536
     ·rw [if_pos c10] at H
      have c10b0 : decide (65536 < (l0_3.length : Int)) = true := decide_eq_true c10
      have c10b1 : decide (65536 < l0_3.length) = true := decide_eq_true (by omega)
      clear c10
      have H' := Aside0.mk H
      clear H
      obtain ⟨hcz11_0, hcz11_1, hcz11_2, hcz11_3, hcz11_4⟩ := zc5 BK211.out
      obtain ⟨hfz11_0, hfz11_1, hfz11_2, hfz11_3, hfz11_4⟩ := zf5 BK211.out
      go_wp2
      go_meet
      case rel => exact ⟨_, (decide ((l0_3.length : Int) > 65536)), zQ, H', ⟨by first | omega | exact Nat.le_refl _⟩, ⟨zK BK211.out⟩, ⟨zG⟩⟩
     ·rw [if_neg c10] at H
      have c10b0 : decide (65536 < (l0_3.length : Int)) = false := decide_eq_false c10
      have c10b1 : decide (65536 < l0_3.length) = false := decide_eq_false (by omega)
      clear c10
      by_cases c12 : (l0_4.length : Int) > 65536
      ·rw [if_pos c12] at H
       have c12b0 : decide (65536 < (l0_4.length : Int)) = true := decide_eq_true c12
       have c12b1 : decide (65536 < l0_4.length) = true := decide_eq_true (by omega)
       clear c12
       have H' := Aside0.mk H
       clear H
       obtain ⟨hcz13_0, hcz13_1, hcz13_2, hcz13_3, hcz13_4⟩ := zc5 BK211.out
       obtain ⟨hfz13_0, hfz13_1, hfz13_2, hfz13_3, hfz13_4⟩ := zf5 BK211.out
       go_wp2
       go_meet
       case rel => exact ⟨_, (decide ((l0_4.length : Int) > 65536)), zQ, H', ⟨by first | omega | exact Nat.le_refl _⟩, ⟨zK BK211.out⟩, ⟨zG⟩⟩
      ·rw [if_neg c12] at H
       have c12b0 : decide (65536 < (l0_4.length : Int)) = false := decide_eq_false c12
       have c12b1 : decide (65536 < l0_4.length) = false := decide_eq_false (by omega)
       clear c12
       replace H := Option.bind_eq_some_iff.mp H
       obtain ⟨t212, A140, H⟩ := H
       replace H : (fun_head.j0 k (decide (t212 > 262144)) a0_0 a0_1 a0_2 l0_3 l0_4) = some r := H
       have A14 := Aside0.mk A140
       clear A140
       have H' := Aside0.mk H
       clear H
       obtain ⟨hcz15_0, hcz15_1, hcz15_2, hcz15_3, hcz15_4⟩ := zc5 BK211.out
       obtain ⟨hfz15_0, hfz15_1, hfz15_2, hfz15_3, hfz15_4⟩ := zf5 BK211.out
       go_wp2_with (first | ((with_reducible refine gate_callee (f := 30) rfl ?_); refine goesL_ (some 25) rfl rfl Try.func30 (by kernel_rfl) rfl #[.agg #[.string a0_0, .int .i64 a0_1, .int .i64 a0_2, .slice A0_3 l0_3.length c0_3, .slice A0_4 l0_4.length c0_4]] rfl zE ?_; (with_reducible refine (fun_size.calls k a0_0 a0_1 a0_2 _ _ l0_3 _ _ l0_4 t212 _ ?side1 ?side2 ?side3 ?side4 A14.out).mono ?_); (case side1 => exact zC (Kd.C_below HR0_3.out HB.out)); (case side2 => exact HC0_3.out); (case side3 => exact zC (Kd.C_below HR0_4.out HB.out)); (case side4 => exact HC0_4.out); rintro e w16 ⟨rfl, hb⟩; refine ⟨_, rfl, ?_⟩; have n0_ := Aside0.mk (blk_below (g := gb211) (o := .cells #[.string a0_0, .int .i64 a0_1, .int .i64 a0_2, .slice A0_3 l0_3.length c0_3, .slice A0_4 l0_4.length c0_4] 39 (0, 0)) (zK BK211.out) hb); have n1_ := Aside0.mk (below_step (zG) hb); clear BK211; clear HB; have BK211 := n0_; have HB := n1_; clear n0_ n1_; (try clear hb); (try clear hb2); (try clear hk); (try clear hi)))
       go_meet
       case rel => exact ⟨_, (decide (t212 > 262144)), zQ, H', ⟨by first | omega | exact Nat.le_refl _⟩, ⟨zK BK211.out⟩, ⟨zG⟩⟩
 case rest =>
  clear HC2
  (try clear c1); (try clear p2); (try clear c3); (try clear c4); (try clear c5); (try clear c5b0); (try clear c6); (try clear c6b0); (try clear c8); (try clear c8b0); (try clear c10); (try clear c10b0); (try clear c10b1); (try clear c12); (try clear c12b0); (try clear c12b1); (try clear hcz11_0 hcz11_1 hcz11_2 hcz11_3 hcz11_4); (try clear hcz13_0)
  (try clear hcz13_1 hcz13_2 hcz13_3 hcz13_4); (try clear hcz15_0 hcz15_1 hcz15_2 hcz15_3 hcz15_4); (try clear hcz4_0 hcz4_1 hcz4_2 hcz4_3 hcz4_4); (try clear hcz7_0 hcz7_1 hcz7_2 hcz7_3 hcz7_4); (try clear hcz9_0)
  (try clear hcz9_1 hcz9_2 hcz9_3 hcz9_4); (try clear hfz11_0 hfz11_1 hfz11_2 hfz11_3 hfz11_4); (try clear hfz13_0 hfz13_1 hfz13_2 hfz13_3 hfz13_4); (try clear hfz15_0 hfz15_1 hfz15_2 hfz15_3 hfz15_4); (try clear hfz4_0)
  (try clear hfz4_1 hfz4_2 hfz4_3 hfz4_4); (try clear hfz7_0 hfz7_1 hfz7_2 hfz7_3 hfz7_4); (try clear hfz9_0 hfz9_1 hfz9_2 hfz9_3 hfz9_4)
  obtain ⟨kq, x3_1, rfl, HA, HJ1, BK211, HB⟩ := hcut
  cases kq with
  | zero => exact absurd HA.out (by simp [fun_head.j0])
  | succ kj1 =>
   have H := HA.out
   clear HA
   simp only [fun_head.j0] at H
   by_cases c17 : x3_1 = true
   ·subst c17
    have H1 : (some 3) = some r := by rw [if_pos rfl] at H; exact H
    clear H
    have H := H1
    clear H1
    obtain rfl := Option.some.inj H
    go_wp2
    go_ret
    exact ⟨zV, zG⟩
   ·replace c17 := Bool.eq_false_iff.mpr c17
    subst c17
    have H1 : ((fun_kind.f a0_2).bind fun t213 => (if t213 = true then ((slices_ContainsFunc_int_int.f kj1 l0_3).bind fun t214 => (fun_head.j1 kj1 t214 a0_0 a0_1 a0_2 l0_3 l0_4)) else (fun_head.j1 kj1 (!t213) a0_0 a0_1 a0_2 l0_3 l0_4))) = some r := by rw [if_neg (show ¬ (false = true) by decide)] at H; exact H
    clear H
    have H := H1
    clear H1
    replace H := Option.bind_eq_some_iff.mp H
    obtain ⟨t213, A180, H⟩ := H
    replace H : (if t213 = true then ((slices_ContainsFunc_int_int.f kj1 l0_3).bind fun t214 => (fun_head.j1 kj1 t214 a0_0 a0_1 a0_2 l0_3 l0_4)) else (fun_head.j1 kj1 (!t213) a0_0 a0_1 a0_2 l0_3 l0_4)) = some r := H
    have A18 := Aside0.mk A180
    clear A180
    have HC19 := Aside0.mk H
    clear H
    obtain ⟨hcz20_0, hcz20_1, hcz20_2, hcz20_3, hcz20_4⟩ := zc5 BK211.out
    obtain ⟨hfz20_0, hfz20_1, hfz20_2, hfz20_3, hfz20_4⟩ := zf5 BK211.out
    go_upto_if 27 with (first | ((with_reducible refine gate_callee (f := 68) rfl ?_); refine goesL_ (some 30) rfl rfl Try.func68 (by kernel_rfl) rfl #[.int .i64 a0_2] rfl zE ?_; (with_reducible refine (fun_kind.calls a0_2 t213 _ A18.out).mono ?_); rintro e w' ⟨rfl, ⟨nd, rfl⟩⟩; refine ⟨_, rfl, ?_⟩))
    (try simp only [Act.put, List.setIfInBounds_toArray, List.set_cons_zero, List.set_cons_succ])
    go_cut [27] (fun v27 wc => ∃ (kq : Nat) (x27_18 : Bool), v27 = .bool x27_18 ∧ Aside0 (fun_head.j1 kq x27_18 a0_0 a0_1 a0_2 l0_3 l0_4 = some r) ∧ Aside0 (kq ≤ kj1) ∧ Aside0 (wc.heap[gb211]? = some (.cells #[.string a0_0, .int .i64 a0_1, .int .i64 a0_2, (.slice A0_3 l0_3.length c0_3), (.slice A0_4 l0_4.length c0_4)] 39 (0, 0))) ∧ Aside0 (Below w.heap.size w wc))
    case first =>
     have H := HC19.out
     clear HC19
     by_cases c21 : t213 = true
     ·subst c21
      have H1 : ((slices_ContainsFunc_int_int.f kj1 l0_3).bind fun t214 => (fun_head.j1 kj1 t214 a0_0 a0_1 a0_2 l0_3 l0_4)) = some r := by rw [if_pos rfl] at H; exact H
      clear H
      have H := H1
      clear H1
      replace H := Option.bind_eq_some_iff.mp H
      obtain ⟨t214, A220, H⟩ := H
      replace H : (fun_head.j1 kj1 t214 a0_0 a0_1 a0_2 l0_3 l0_4) = some r := H
      have A22 := Aside0.mk A220
      clear A220
      have H' := Aside0.mk H
      clear H
      obtain ⟨hcz23_0, hcz23_1, hcz23_2, hcz23_3, hcz23_4⟩ := zc5 BK211.out
      obtain ⟨hfz23_0, hfz23_1, hfz23_2, hfz23_3, hfz23_4⟩ := zf5 BK211.out
      go_wp2_with (first | (go_at_call 69; (with_reducible refine (slices_ContainsFunc_int_int.calls kj1 _ _ l0_3  t214 _ ?side1 ?side2 A22.out).mono ?_); (case side1 => exact zC (Kd.C_below HR0_3.out HB.out)); (case side2 => exact HC0_3.out); rintro e w' ⟨rfl, ⟨nd, rfl⟩⟩))
      go_meet
      case rel => exact ⟨_, (t214), zQ, H', ⟨by have := HJ1.out; first | omega | exact Nat.le_refl _⟩, ⟨zK BK211.out⟩, ⟨zG⟩⟩
     ·replace c21 := Bool.eq_false_iff.mpr c21
      subst c21
      have H1 : (fun_head.j1 kj1 (!false) a0_0 a0_1 a0_2 l0_3 l0_4) = some r := by rw [if_neg (show ¬ (false = true) by decide)] at H; exact H
      clear H
      have H := H1
      clear H1
      have H' := Aside0.mk H
      clear H
      go_wp2
      go_meet
      case rel => exact ⟨_, (!false), zQ, H', ⟨by have := HJ1.out; first | omega | exact Nat.le_refl _⟩, ⟨zK BK211.out⟩, ⟨zG⟩⟩
    case rest =>
     clear HC19
     (try clear c1); (try clear c2); (try clear p2); (try clear c3); (try clear c4); (try clear c5); (try clear c5b0); (try clear c6); (try clear c6b0); (try clear c8); (try clear c8b0); (try clear c10); (try clear c10b0); (try clear c10b1); (try clear c12); (try clear c12b0); (try clear c12b1); (try clear c17); (try clear c21); (try clear hcz11_0 hcz11_1 hcz11_2 hcz11_3)
     (try clear hcz11_4); (try clear hcz13_0 hcz13_1 hcz13_2 hcz13_3 hcz13_4); (try clear hcz15_0 hcz15_1 hcz15_2 hcz15_3 hcz15_4); (try clear hcz20_0 hcz20_1 hcz20_2 hcz20_3 hcz20_4); (try clear hcz23_0 hcz23_1 hcz23_2)
     (try clear hcz23_3 hcz23_4); (try clear hcz4_0 hcz4_1 hcz4_2 hcz4_3 hcz4_4); (try clear hcz7_0 hcz7_1 hcz7_2 hcz7_3 hcz7_4); (try clear hcz9_0 hcz9_1 hcz9_2 hcz9_3 hcz9_4); (try clear hfz11_0 hfz11_1 hfz11_2)
     (try clear hfz11_3 hfz11_4); (try clear hfz13_0 hfz13_1 hfz13_2 hfz13_3 hfz13_4); (try clear hfz15_0 hfz15_1 hfz15_2 hfz15_3 hfz15_4); (try clear hfz20_0 hfz20_1 hfz20_2 hfz20_3 hfz20_4); (try clear hfz23_0 hfz23_1)
     (try clear hfz23_2 hfz23_3 hfz23_4); (try clear hfz4_0 hfz4_1 hfz4_2 hfz4_3 hfz4_4); (try clear hfz7_0 hfz7_1 hfz7_2 hfz7_3 hfz7_4); (try clear hfz9_0 hfz9_1 hfz9_2 hfz9_3 hfz9_4); (try clear p2)
     obtain ⟨kq, x27_18, rfl, HA, HJ18, BK211, HB⟩ := hcut
     cases kq with
     | zero => exact absurd HA.out (by simp [fun_head.j1])
     | succ kj18 =>
      have H := HA.out
      clear HA
      simp only [fun_head.j1] at H
      by_cases c24 : x27_18 = true
      ·subst c24
       have H1 : (some 11) = some r := by rw [if_pos rfl] at H; exact H
       clear H
       have H := H1
       clear H1
       obtain rfl := Option.some.inj H
       go_wp2
       go_ret
       exact ⟨zV, zG⟩
      ·replace c24 := Bool.eq_false_iff.mpr c24
       subst c24
       have H1 : (if (l0_4.length : Int) = 0 then (some 5) else (some 0)) = some r := by rw [if_neg (show ¬ (false = true) by decide)] at H; exact H
       clear H
       have H := H1
       clear H1
       by_cases c25 : (l0_4.length : Int) = 0
       ·rw [if_pos c25] at H
        have c25b0 : ((l0_4.length : Int) == 0) = true := beq_iff_eq.mpr c25
        have c25b1 : ((l0_4.length : Int) != 0) = false := bne_eq_false_iff_eq.mpr c25
        clear c25
        obtain rfl := Option.some.inj H
        obtain ⟨hcz26_0, hcz26_1, hcz26_2, hcz26_3, hcz26_4⟩ := zc5 BK211.out
        obtain ⟨hfz26_0, hfz26_1, hfz26_2, hfz26_3, hfz26_4⟩ := zf5 BK211.out
        go_wp2
        go_ret
        exact ⟨zV, zG⟩
       ·rw [if_neg c25] at H
        have c25b0 : ((l0_4.length : Int) == 0) = false := beq_eq_false_iff_ne.mpr c25
        have c25b1 : ((l0_4.length : Int) != 0) = true := bne_iff_ne.mpr c25
        have c25b2 : ¬ (l0_4 = []) := fun h_ => c25 (by rw [h_]; rfl)
        obtain rfl := Option.some.inj H
        obtain ⟨hcz27_0, hcz27_1, hcz27_2, hcz27_3, hcz27_4⟩ := zc5 BK211.out
        obtain ⟨hfz27_0, hfz27_1, hfz27_2, hfz27_3, hfz27_4⟩ := zf5 BK211.out
        go_wp2
        go_ret
        exact ⟨zV, zG⟩
def balustraderef16_Preds.l0 : Nat → Int → Int → Int → ByteArray → Int → Int → List Int → List (List (S42)) → Option (Int)
 | 0, _, _, _, _, _, _, _, _ => none
 | k + 1, x1, x5, x6, x216000, x216001, x216002, x216003, x216004 => if x6 < (x216004.length : Int) then (if 0 ≤ x6 then (if ((rd_L5 x216004 x6).length : Int) > 0 then (if 0 ≤ (wrap64 (((rd_L5 x216004 x6).length : Int) - 1)) then (if (wrap64 (((rd_L5 x216004 x6).length : Int) - 1)) < ((rd_L5 x216004 x6).length : Int) then ((balustraderef15_Targets.f k ((rd_T42 (rd_L5 x216004 x6) (wrap64 (((rd_L5 x216004 x6).length : Int) - 1))).f0) ((rd_T42 (rd_L5 x216004 x6) (wrap64 (((rd_L5 x216004 x6).length : Int) - 1))).f1) ((rd_T42 (rd_L5 x216004 x6) (wrap64 (((rd_L5 x216004 x6).length : Int) - 1))).f2) ((rd_T42 (rd_L5 x216004 x6) (wrap64 (((rd_L5 x216004 x6).length : Int) - 1))).f3) ((rd_T42 (rd_L5 x216004 x6) (wrap64 (((rd_L5 x216004 x6).length : Int) - 1))).f4) ((rd_T42 (rd_L5 x216004 x6) (wrap64 (((rd_L5 x216004 x6).length : Int) - 1))).f5) ((rd_T42 (rd_L5 x216004 x6) (wrap64 (((rd_L5 x216004 x6).length : Int) - 1))).f6) ((rd_T42 (rd_L5 x216004 x6) (wrap64 (((rd_L5 x216004 x6).length : Int) - 1))).f7) ((rd_T42 (rd_L5 x216004 x6) (wrap64 (((rd_L5 x216004 x6).length : Int) - 1))).f8)).bind fun t218 => ((balustradebase_HasInt.f k t218 x1).bind fun t221 => (if t221 = true then (balustraderef16_Preds.l0 k x1 (wrap64 (x5 + 1)) (wrap64 (x6 + 1)) x216000 x216001 x216002 x216003 x216004) else (balustraderef16_Preds.l0 k x1 x5 (wrap64 (x6 + 1)) x216000 x216001 x216002 x216003 x216004)))) else (none)) else (none)) else (balustraderef16_Preds.l0 k x1 x5 (wrap64 (x6 + 1)) x216000 x216001 x216002 x216003 x216004)) else (none)) else (some x5)
def balustraderef16_Preds.f (k : Nat) (a0_0 : ByteArray) (a0_1 : Int) (a0_2 : Int) (l0_3 : List Int) (l0_4 : List (List (S42))) (a1 : Int) : Option (Int) := balustraderef16_Preds.l0 k a1 0 0 a0_0 a0_1 a0_2 l0_3 l0_4
set_option maxHeartbeats 8000000 in
set_option maxRecDepth 100000 in
theorem balustraderef16_Preds.calls (k : Nat) (a0_0 : ByteArray) (a0_1 : Int) (a0_2 : Int) (A0_3 : Option Addr) (c0_3 : Nat) (l0_3 : List Int) (A0_4 : Option Addr) (c0_4 : Nat) (l0_4 : List (List (S42))) (a1 : Int) (r : Int) (w : World) (hr0_3 : Kd.C (Kd.int .i64) w A0_3 l0_3.length l0_3) (hc0_3 : l0_3.length ≤ c0_3) (hr0_4 : Kd.C (Kd.slice 42 k42) w A0_4 l0_4.length l0_4) (hc0_4 : l0_4.length ≤ c0_4) (h : balustraderef16_Preds.f k a0_0 a0_1 a0_2 l0_3 l0_4 a1 = some r) :
  Calls Try.prog 82 #[.agg #[.string a0_0, .int .i64 a0_1, .int .i64 a0_2, .slice A0_3 l0_3.length c0_3, .slice A0_4 l0_4.length c0_4], .int .i64 a1] w fun e w' => e = .returned (.int .i64 r) ∧ Below w.heap.size w w' := by
 have hu39 := Try.underlying39
 have hu42 := Try.underlying42
 have HR0_3 := Aside0.mk hr0_3
 have HC0_3 := Aside0.mk hc0_3
 clear hr0_3 hc0_3
 have HR0_4 := Aside0.mk hr0_4
 have HC0_4 := Aside0.mk hc0_4
 clear hr0_4 hc0_4
 have HB := Aside0.mk (Below.refl w.heap.size w)
 have H : (balustraderef16_Preds.l0 k a1 0 0 a0_0 a0_1 a0_2 l0_3 l0_4) = some r := h
 clear h
 have H' := Aside0.mk H
 clear H
 go_enter Try.func82, Try.ntmps82
 go_wp2_with (first | ((with_reducible refine gate_dst (N := 2) rfl ?_); (try (refine gate_guard (by rfl) ?_; dsimp only)); refine box_event ?hg (N := 2) ?hd (cs := #[.string a0_0, .int .i64 a0_1, .int .i64 a0_2, .slice A0_3 l0_3.length c0_3, .slice A0_4 l0_4.length c0_4]) (t := 39) ?hr ?_; (case hd => rfl); (case hg => rfl); (case hr => first | (go_simp; done) | (go_simp; rfl)); intro gb215 hg w3 hbox hb; have n0_ := Aside0.mk (below_step (zB) hb); have n1_ := Aside0.mk (hbox); have n2_ := Aside0.mk (zH hg : w.heap.size ≤ gb215); have n3_ := Aside0.mk (zH hg : w.heap.size ≤ gb215); clear HB; have HB := n0_; have BK215 := n1_; have GW215 := n2_; have GE215 := n3_; clear n0_ n1_ n2_ n3_; clear hb hbox hg))
 go_loopg [5, 6] k (fun kq v5 v6 w' => ∃ (x5_1 : Int) (x6_1 : Int), v5 = .int .i64 x5_1 ∧ v6 = .int .i64 x6_1 ∧ Aside0 (balustraderef16_Preds.l0 kq a1 x5_1 x6_1 a0_0 a0_1 a0_2 l0_3 l0_4 = some r) ∧ Aside0 (kq ≤ k) ∧ Aside0 (w'.heap[gb215]? = some (.cells #[.string a0_0, .int .i64 a0_1, .int .i64 a0_2, (.slice A0_3 l0_3.length c0_3), (.slice A0_4 l0_4.length c0_4)] 39 (0, 0))) ∧ Aside0 (Below w.heap.size w w'))
 case atStart => exact ⟨(0), (0), zQ, zQ, H', ⟨Nat.le_refl _⟩, ⟨zK BK215.out⟩, ⟨zG⟩⟩
 case round =>
  clear H'
  try clear p2
  obtain ⟨x5_1, x6_1, rfl, rfl, HA, HK1, BK215, HB⟩ := hrel
  cases gk with
  | zero => exact absurd HA.out (by simp [balustraderef16_Preds.l0])
  | succ k1 =>
   have H := HA.out
   clear HA
   simp only [balustraderef16_Preds.l0] at H
   by_cases c4 : x6_1 < (l0_4.length : Int)
   ·rw [if_pos c4] at H
    have c4b0 : decide (x6_1 < (l0_4.length : Int)) = true := decide_eq_true c4
    clear c4
    by_cases c5 : 0 ≤ x6_1
    ·rw [if_pos c5] at H
     have c5b0 : decide (0 ≤ x6_1) = true := decide_eq_true c5
     clear c5
     by_cases c6 : ((rd_L5 l0_4 x6_1).length : Int) > 0
     ·rw [if_pos c6] at H
      have c6b0 : decide (0 < ((rd_L5 l0_4 x6_1).length : Int)) = true := decide_eq_true c6
      have c6b1 : decide (0 < (rd_L5 l0_4 x6_1).length) = true := decide_eq_true (by omega)
      clear c6
      obtain ⟨ji7, hji7⟩ : ∃ j_ : Int, (wrap64 (((rd_L5 l0_4 x6_1).length : Int) - 1)) = j_ := ⟨_, rfl⟩
      replace H : (if 0 ≤ (ji7) then (if (ji7) < ((rd_L5 l0_4 x6_1).length : Int) then ((balustraderef15_Targets.f k1 ((rd_T42 (rd_L5 l0_4 x6_1) (ji7)).f0) ((rd_T42 (rd_L5 l0_4 x6_1) (ji7)).f1) ((rd_T42 (rd_L5 l0_4 x6_1) (ji7)).f2) ((rd_T42 (rd_L5 l0_4 x6_1) (ji7)).f3) ((rd_T42 (rd_L5 l0_4 x6_1) (ji7)).f4) ((rd_T42 (rd_L5 l0_4 x6_1) (ji7)).f5) ((rd_T42 (rd_L5 l0_4 x6_1) (ji7)).f6) ((rd_T42 (rd_L5 l0_4 x6_1) (ji7)).f7) ((rd_T42 (rd_L5 l0_4 x6_1) (ji7)).f8)).bind fun t218 => ((balustradebase_HasInt.f k1 t218 a1).bind fun t221 => (if t221 = true then (balustraderef16_Preds.l0 k1 a1 (wrap64 (x5_1 + 1)) (wrap64 (x6_1 + 1)) a0_0 a0_1 a0_2 l0_3 l0_4) else (balustraderef16_Preds.l0 k1 a1 x5_1 (wrap64 (x6_1 + 1)) a0_0 a0_1 a0_2 l0_3 l0_4)))) else (none)) else (none)) = some r := by first | (rw [hji7] at H; exact H) | (simp only [hji7] at H ⊢; exact H)
      have hji7w : (IntKind.i64.wrap (((rd_L5 l0_4 x6_1).length : Int) - 1)) = ji7 := (i64_w _).trans hji7
      by_cases c8 : 0 ≤ (ji7)
      ·rw [if_pos c8] at H
       have c8b0 : decide (0 ≤ (ji7)) = true := decide_eq_true c8
       clear c8
       by_cases c9 : (ji7) < ((rd_L5 l0_4 x6_1).length : Int)
       ·rw [if_pos c9] at H
        have c9b0 : decide ((ji7) < ((rd_L5 l0_4 x6_1).length : Int)) = true := decide_eq_true c9
        clear c9
        replace H := Option.bind_eq_some_iff.mp H
        obtain ⟨t218, A100, H⟩ := H
        replace H : ((balustradebase_HasInt.f k1 t218 a1).bind fun t221 => (if t221 = true then (balustraderef16_Preds.l0 k1 a1 (wrap64 (x5_1 + 1)) (wrap64 (x6_1 + 1)) a0_0 a0_1 a0_2 l0_3 l0_4) else (balustraderef16_Preds.l0 k1 a1 x5_1 (wrap64 (x6_1 + 1)) a0_0 a0_1 a0_2 l0_3 l0_4))) = some r := H
        have A10 := Aside0.mk A100
        clear A100
        replace H := Option.bind_eq_some_iff.mp H
        obtain ⟨t221, A110, H⟩ := H
        replace H : (if t221 = true then (balustraderef16_Preds.l0 k1 a1 (wrap64 (x5_1 + 1)) (wrap64 (x6_1 + 1)) a0_0 a0_1 a0_2 l0_3 l0_4) else (balustraderef16_Preds.l0 k1 a1 x5_1 (wrap64 (x6_1 + 1)) a0_0 a0_1 a0_2 l0_3 l0_4)) = some r := H
        have A11 := Aside0.mk A110
        clear A110
        by_cases c12 : t221 = true
        ·subst c12
         have H1 : (balustraderef16_Preds.l0 k1 a1 (wrap64 (x5_1 + 1)) (wrap64 (x6_1 + 1)) a0_0 a0_1 a0_2 l0_3 l0_4) = some r := by rw [if_pos rfl] at H; exact H
         clear H
         have H := H1
         clear H1
         have H' := Aside0.mk H
         clear H
         obtain ⟨hcz13_0, hcz13_1, hcz13_2, hcz13_3, hcz13_4⟩ := zc5 BK215.out
         obtain ⟨hfz13_0, hfz13_1, hfz13_2, hfz13_3, hfz13_4⟩ := zf5 BK215.out
         have p216 : 0 ≤ (x6_1 : Int) := zO
         have q216 : x6_1 < (l0_4.length : Int) := zO
         obtain ⟨ad216, A216_0, c216_0, e216, hx216_0, hl216_0, hi216_0⟩ := at_L5 HR0_4.out x6_1 p216 q216
         cases e216
         replace hx216_0 := pw_cell_below HB.out hx216_0
         have HR216_0 := Aside0.mk hi216_0
         have HC216_0 := Aside0.mk hl216_0
         clear hi216_0 hl216_0
         replace p216 := eq_true p216
         replace q216 := eq_true q216
         have p217 : 0 ≤ ((ji7) : Int) := zO
         have q217 : (ji7) < ((rd_L5 l0_4 x6_1).length : Int) := zO
         obtain ⟨ad217, A217_8, c217_8, e217, hx217_0, hx217_1, hx217_2, hx217_3, hx217_4, hx217_5, hx217_6, hx217_7, hx217_8, hl217_8, hi217_8⟩ := at_T42 HR216_0.out (ji7) p217 q217
         cases e217
         replace hx217_0 := pw_cell_below HB.out hx217_0
         replace hx217_1 := pw_cell_below HB.out hx217_1
         replace hx217_2 := pw_cell_below HB.out hx217_2
         replace hx217_3 := pw_cell_below HB.out hx217_3
         replace hx217_4 := pw_cell_below HB.out hx217_4
         replace hx217_5 := pw_cell_below HB.out hx217_5
         replace hx217_6 := pw_cell_below HB.out hx217_6
         replace hx217_7 := pw_cell_below HB.out hx217_7
         replace hx217_8 := pw_cell_below HB.out hx217_8
         have HR217_8 := Aside0.mk hi217_8
         have HC217_8 := Aside0.mk hl217_8
         clear hi217_8 hl217_8
         replace p217 := eq_true p217
         replace q217 := eq_true q217
         go_wp2_with (first | (go_at_call 18; (with_reducible refine (balustraderef15_Targets.calls k1 ((rd_T42 (rd_L5 l0_4 x6_1) (ji7)).f0) ((rd_T42 (rd_L5 l0_4 x6_1) (ji7)).f1) ((rd_T42 (rd_L5 l0_4 x6_1) (ji7)).f2) ((rd_T42 (rd_L5 l0_4 x6_1) (ji7)).f3) ((rd_T42 (rd_L5 l0_4 x6_1) (ji7)).f4) ((rd_T42 (rd_L5 l0_4 x6_1) (ji7)).f5) ((rd_T42 (rd_L5 l0_4 x6_1) (ji7)).f6) ((rd_T42 (rd_L5 l0_4 x6_1) (ji7)).f7) _ _ ((rd_T42 (rd_L5 l0_4 x6_1) (ji7)).f8) t218 _ ?side1 ?side2 A10.out).mono ?_); (case side1 => exact zC (Kd.C_below HR217_8.out HB.out)); (case side2 => exact HC217_8.out); rintro e w14 ⟨v219, rfl, ho0, hb⟩; have n0_ := Aside0.mk (Kd.R_lower ho0 (below_size (zG))); have n1_ := Aside0.mk (blk_below (g := gb215) (o := .cells #[.string a0_0, .int .i64 a0_1, .int .i64 a0_2, .slice A0_3 l0_3.length c0_3, .slice (some ad216) l0_4.length c0_4] 39 (0, 0)) (zK BK215.out) hb); have n2_ := Aside0.mk (below_step (zG) hb); clear BK215; clear HB; have HO220 := n0_; have BK215 := n1_; have HB := n2_; clear n0_ n1_ n2_; (try clear hb); (try clear hb2); (try clear hk); (try clear hi); (try clear ho0); obtain ⟨Ao15, co15, eo15⟩ := Kd.R_slice HO220.out; subst eo15) | (go_at_call 65; (with_reducible refine (balustradebase_HasInt.calls k1 _ _ t218 a1 true _ ?side1 ?side2 A11.out).mono ?_); (case side1 => exact zC (Kd.R_reads' HO220.out).2.2); (case side2 => exact (Kd.R_reads' HO220.out).2.1); rintro e w' ⟨rfl, ⟨nd, rfl⟩⟩))
         go_roundg k1
         case measure => have := HK1.out; omega
         case rel => exact ⟨(wrap64 (x5_1 + 1)), (wrap64 (x6_1 + 1)), zQ, zQ, H', ⟨by have := HK1.out; omega⟩, ⟨zK BK215.out⟩, ⟨zG⟩⟩
        ·replace c12 := Bool.eq_false_iff.mpr c12
         subst c12
         have H1 : (balustraderef16_Preds.l0 k1 a1 x5_1 (wrap64 (x6_1 + 1)) a0_0 a0_1 a0_2 l0_3 l0_4) = some r := by rw [if_neg (show ¬ (false = true) by decide)] at H; exact H
         clear H
         have H := H1
         clear H1
         have H' := Aside0.mk H
         clear H
         obtain ⟨hcz16_0, hcz16_1, hcz16_2, hcz16_3, hcz16_4⟩ := zc5 BK215.out
         obtain ⟨hfz16_0, hfz16_1, hfz16_2, hfz16_3, hfz16_4⟩ := zf5 BK215.out
         have p216 : 0 ≤ (x6_1 : Int) := zO
         have q216 : x6_1 < (l0_4.length : Int) := zO
         obtain ⟨ad216, A216_0, c216_0, e216, hx216_0, hl216_0, hi216_0⟩ := at_L5 HR0_4.out x6_1 p216 q216
         cases e216
         replace hx216_0 := pw_cell_below HB.out hx216_0
         have HR216_0 := Aside0.mk hi216_0
         have HC216_0 := Aside0.mk hl216_0
         clear hi216_0 hl216_0
         replace p216 := eq_true p216
         replace q216 := eq_true q216
         have p217 : 0 ≤ ((ji7) : Int) := zO
         have q217 : (ji7) < ((rd_L5 l0_4 x6_1).length : Int) := zO
         obtain ⟨ad217, A217_8, c217_8, e217, hx217_0, hx217_1, hx217_2, hx217_3, hx217_4, hx217_5, hx217_6, hx217_7, hx217_8, hl217_8, hi217_8⟩ := at_T42 HR216_0.out (ji7) p217 q217
         cases e217
         replace hx217_0 := pw_cell_below HB.out hx217_0
         replace hx217_1 := pw_cell_below HB.out hx217_1
         replace hx217_2 := pw_cell_below HB.out hx217_2
         replace hx217_3 := pw_cell_below HB.out hx217_3
         replace hx217_4 := pw_cell_below HB.out hx217_4
         replace hx217_5 := pw_cell_below HB.out hx217_5
         replace hx217_6 := pw_cell_below HB.out hx217_6
         replace hx217_7 := pw_cell_below HB.out hx217_7
         replace hx217_8 := pw_cell_below HB.out hx217_8
         have HR217_8 := Aside0.mk hi217_8
         have HC217_8 := Aside0.mk hl217_8
         clear hi217_8 hl217_8
         replace p217 := eq_true p217
         replace q217 := eq_true q217
         go_wp2_with (first | (go_at_call 18; (with_reducible refine (balustraderef15_Targets.calls k1 ((rd_T42 (rd_L5 l0_4 x6_1) (ji7)).f0) ((rd_T42 (rd_L5 l0_4 x6_1) (ji7)).f1) ((rd_T42 (rd_L5 l0_4 x6_1) (ji7)).f2) ((rd_T42 (rd_L5 l0_4 x6_1) (ji7)).f3) ((rd_T42 (rd_L5 l0_4 x6_1) (ji7)).f4) ((rd_T42 (rd_L5 l0_4 x6_1) (ji7)).f5) ((rd_T42 (rd_L5 l0_4 x6_1) (ji7)).f6) ((rd_T42 (rd_L5 l0_4 x6_1) (ji7)).f7) _ _ ((rd_T42 (rd_L5 l0_4 x6_1) (ji7)).f8) t218 _ ?side1 ?side2 A10.out).mono ?_); (case side1 => exact zC (Kd.C_below HR217_8.out HB.out)); (case side2 => exact HC217_8.out); rintro e w17 ⟨v219, rfl, ho0, hb⟩; have n0_ := Aside0.mk (Kd.R_lower ho0 (below_size (zG))); have n1_ := Aside0.mk (blk_below (g := gb215) (o := .cells #[.string a0_0, .int .i64 a0_1, .int .i64 a0_2, .slice A0_3 l0_3.length c0_3, .slice (some ad216) l0_4.length c0_4] 39 (0, 0)) (zK BK215.out) hb); have n2_ := Aside0.mk (below_step (zG) hb); clear BK215; clear HB; have HO220 := n0_; have BK215 := n1_; have HB := n2_; clear n0_ n1_ n2_; (try clear hb); (try clear hb2); (try clear hk); (try clear hi); (try clear ho0); obtain ⟨Ao18, co18, eo18⟩ := Kd.R_slice HO220.out; subst eo18) | (go_at_call 65; (with_reducible refine (balustradebase_HasInt.calls k1 _ _ t218 a1 false _ ?side1 ?side2 A11.out).mono ?_); (case side1 => exact zC (Kd.R_reads' HO220.out).2.2); (case side2 => exact (Kd.R_reads' HO220.out).2.1); rintro e w' ⟨rfl, ⟨nd, rfl⟩⟩))
         go_roundg k1
         case measure => have := HK1.out; omega
         case rel => exact ⟨(x5_1), (wrap64 (x6_1 + 1)), zQ, zQ, H', ⟨by have := HK1.out; omega⟩, ⟨zK BK215.out⟩, ⟨zG⟩⟩
       ·rw [if_neg c9] at H
        exact absurd H (by simp)
      ·rw [if_neg c8] at H
       exact absurd H (by simp)
     ·rw [if_neg c6] at H
      have c6b0 : decide (0 < ((rd_L5 l0_4 x6_1).length : Int)) = false := decide_eq_false c6
      have c6b1 : decide (0 < (rd_L5 l0_4 x6_1).length) = false := decide_eq_false (by omega)
      clear c6
      have H' := Aside0.mk H
      clear H
      obtain ⟨hcz19_0, hcz19_1, hcz19_2, hcz19_3, hcz19_4⟩ := zc5 BK215.out
      obtain ⟨hfz19_0, hfz19_1, hfz19_2, hfz19_3, hfz19_4⟩ := zf5 BK215.out
      have p216 : 0 ≤ (x6_1 : Int) := zO
      have q216 : x6_1 < (l0_4.length : Int) := zO
      obtain ⟨ad216, A216_0, c216_0, e216, hx216_0, hl216_0, hi216_0⟩ := at_L5 HR0_4.out x6_1 p216 q216
      cases e216
      replace hx216_0 := pw_cell_below HB.out hx216_0
      have HR216_0 := Aside0.mk hi216_0
      have HC216_0 := Aside0.mk hl216_0
      clear hi216_0 hl216_0
      replace p216 := eq_true p216
      replace q216 := eq_true q216
      go_wp2
      go_roundg k1
      case measure => have := HK1.out; omega
      case rel => exact ⟨(x5_1), (wrap64 (x6_1 + 1)), zQ, zQ, H', ⟨by have := HK1.out; omega⟩, ⟨zK BK215.out⟩, ⟨zG⟩⟩
    ·rw [if_neg c5] at H
     exact absurd H (by simp)
   ·rw [if_neg c4] at H
    have c4b0 : decide (x6_1 < (l0_4.length : Int)) = false := decide_eq_false c4
    clear c4
    obtain rfl := Option.some.inj H
    obtain ⟨hcz20_0, hcz20_1, hcz20_2, hcz20_3, hcz20_4⟩ := zc5 BK215.out
    obtain ⟨hfz20_0, hfz20_1, hfz20_2, hfz20_3, hfz20_4⟩ := zf5 BK215.out
    go_wp2
    go_ret
    exact ⟨zV, zG⟩
end Go.Proofs.Ytgbpkbfghonllaa.P

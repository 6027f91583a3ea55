/- A part of it. -/
import Derived.Test.YtgbpkbfghonllaaFcZ
import Derived.Test.YtgbpkbfghonllaaFcP0
import Derived.Test.YtgbpkbfghonllaaFcP6
import Derived.Test.YtgbpkbfghonllaaFcP7
namespace Go.Proofs.Ytgbpkbfghonllaa.P
open Go.RowKit Go.Proofs.YtgbpkbfghonllaaW.PrintWords Go.Proofs.YtgbpkbfghonllaaW.PrintLast Go.Proofs.YtgbpkbfghonllaaW.PrintMore
attribute [local go_sem] max2_int min2_int max_two min_two max_three min_three max_four min_four   
set_option linter.unusedVariables false
set_option linter.unusedSimpArgs false
mutual
def instr_Right.j0 : Nat → Int → Bool → Int → Int → Int → Int → Int → Int → Int → Int → List Int → Option (Bool)
 | 0, _, _, _, _, _, _, _, _, _, _, _ => none
 | k + 1, x3, x17, x167000, x167001, x167002, x167003, x167004, x167005, x167006, x167007, x167008 => if x17 = true then (some false) else ((some (([(⟨1, x167001⟩ : S96), (⟨2, x167002⟩ : S96), (⟨4, x167003⟩ : S96), (⟨8, x167004⟩ : S96), (⟨256, x167007⟩ : S96)] : List (S96)) : List (S96))).bind fun y169 => (instr_Right.l0 k x3 y169 (y169.length : Int) 0 x167000 x167001 x167002 x167003 x167004 x167005 x167006 x167007 x167008))
def instr_Right.l0 : Nat → Int → List (S96) → Int → Int → Int → Int → Int → Int → Int → Int → Int → Int → List Int → Option (Bool)
 | 0, _, _, _, _, _, _, _, _, _, _, _, _, _ => none
 | k + 1, x3, x33, x34, x35, x167000, x167001, x167002, x167003, x167004, x167005, x167006, x167007, x167008 => if x35 < x34 then (if 0 ≤ x35 then (if x35 < (x33.length : Int) then (if ((rd_T96 x33 x35).f1) < 0 then (some false) else (if (Go.bits .and .i64 x3 ((rd_T96 x33 x35).f0)) = 0 then (if ((rd_T96 x33 x35).f1) = 0 then (instr_Right.l0 k x3 x33 x34 (wrap64 (x35 + 1)) x167000 x167001 x167002 x167003 x167004 x167005 x167006 x167007 x167008) else (some false)) else (instr_Right.l0 k x3 x33 x34 (wrap64 (x35 + 1)) x167000 x167001 x167002 x167003 x167004 x167005 x167006 x167007 x167008))) else (none)) else (none)) else (if (x167008.length : Int) > 0 then (if (Go.bits .and .i64 x3 512) = 0 then (some false) else (if (x167008.length : Int) = 0 then (if (Go.bits .and .i64 x3 1024) = 0 then (if x167000 = 39 then (if (x167008.length : Int) > 8 then (some false) else (some true)) else (some true)) else (some false)) else (if x167000 = 39 then (if (x167008.length : Int) > 8 then (some false) else ((slices_Min_int_int.f x167008).bind fun t174 => (some (decide (t174 ≥ 0))))) else ((slices_Min_int_int.f x167008).bind fun t175 => (some (decide (t175 ≥ 0))))))) else (if (x167008.length : Int) = 0 then (if (Go.bits .and .i64 x3 1024) = 0 then (if x167000 = 39 then (if (x167008.length : Int) > 8 then (some false) else (some true)) else (some true)) else (some false)) else (if x167000 = 39 then (if (x167008.length : Int) > 8 then (some false) else ((slices_Min_int_int.f x167008).bind fun t176 => (some (decide (t176 ≥ 0))))) else ((slices_Min_int_int.f x167008).bind fun t177 => (some (decide (t177 ≥ 0)))))))
end
def instr_Right.f (k : Nat) (a0_0 : Int) (a0_1 : Int) (a0_2 : Int) (a0_3 : Int) (a0_4 : Int) (a0_5 : Int) (a0_6 : Int) (a0_7 : Int) (l0_8 : List Int) : Option (Bool) := (instr_has.f a0_0).bind fun t167 => (if t167 = 0 then (instr_Right.j0 k t167 true a0_0 a0_1 a0_2 a0_3 a0_4 a0_5 a0_6 a0_7 l0_8) else ((instr_fields.f k a0_0 a0_1 a0_2 a0_3 a0_4 a0_5 a0_6 a0_7 l0_8 t167).bind fun t168 => (instr_Right.j0 k t167 (!t168) a0_0 a0_1 a0_2 a0_3 a0_4 a0_5 a0_6 a0_7 l0_8)))
set_option maxHeartbeats 8000000 in
set_option maxRecDepth 100000 in
theorem instr_Right.calls (k : Nat) (a0_0 : Int) (a0_1 : Int) (a0_2 : Int) (a0_3 : Int) (a0_4 : Int) (a0_5 : Int) (a0_6 : Int) (a0_7 : Int) (A0_8 : Option Addr) (c0_8 : Nat) (l0_8 : List Int) (r : Bool) (w : World) (hr0_8 : Kd.C (Kd.int .i64) w A0_8 l0_8.length l0_8) (hc0_8 : l0_8.length ≤ c0_8) (h : instr_Right.f k a0_0 a0_1 a0_2 a0_3 a0_4 a0_5 a0_6 a0_7 l0_8 = some r) :
  Calls Try.prog 71 #[.agg #[.int .i64 a0_0, .int .i64 a0_1, .int .i64 a0_2, .int .i64 a0_3, .int .i64 a0_4, .int .i64 a0_5, .int .i64 a0_6, .int .i64 a0_7, .slice A0_8 l0_8.length c0_8]] w fun e w' => e = .returned (.bool r) ∧ Below w.heap.size w w' := by
 have hu42 := Try.underlying42
 have hu96 := Try.underlying96
 have HR0_8 := Aside0.mk hr0_8
 have HC0_8 := Aside0.mk hc0_8
 clear hr0_8 hc0_8
 have HB := Aside0.mk (Below.refl w.heap.size w)
 have H : ((instr_has.f a0_0).bind fun t167 => (if t167 = 0 then (instr_Right.j0 k t167 true a0_0 a0_1 a0_2 a0_3 a0_4 a0_5 a0_6 a0_7 l0_8) else ((instr_fields.f k a0_0 a0_1 a0_2 a0_3 a0_4 a0_5 a0_6 a0_7 l0_8 t167).bind fun t168 => (instr_Right.j0 k t167 (!t168) a0_0 a0_1 a0_2 a0_3 a0_4 a0_5 a0_6 a0_7 l0_8)))) = some r := h
 clear h
 replace H := Option.bind_eq_some_iff.mp H
 obtain ⟨t167, A20, H⟩ := H
 replace H : (if t167 = 0 then (instr_Right.j0 k t167 true a0_0 a0_1 a0_2 a0_3 a0_4 a0_5 a0_6 a0_7 l0_8) else ((instr_fields.f k a0_0 a0_1 a0_2 a0_3 a0_4 a0_5 a0_6 a0_7 l0_8 t167).bind fun t168 => (instr_Right.j0 k t167 (!t168) a0_0 a0_1 a0_2 a0_3 a0_4 a0_5 a0_6 a0_7 l0_8))) = some r := H
 have A2 := Aside0.mk A20
 clear A20
 have HC3 := Aside0.mk H
 clear H
 go_enter Try.func71, Try.ntmps71
 go_upto_region 2 with (first | ((with_reducible refine gate_dst (N := 1) rfl ?_); refine box_event ?hg (N := 1) ?hd (cs := #[.int .i64 a0_0, .int .i64 a0_1, .int .i64 a0_2, .int .i64 a0_3, .int .i64 a0_4, .int .i64 a0_5, .int .i64 a0_6, .int .i64 a0_7, .slice A0_8 l0_8.length c0_8]) (t := 42) ?hr ?_; (case hd => rfl); (case hg => rfl); (case hr => first | (go_simp; done) | (go_simp; rfl)); intro gb166 hg w4 hbox hb; have n0_ := Aside0.mk (below_step (zB) hb); have n1_ := Aside0.mk (hbox); have n2_ := Aside0.mk (zH hg : w.heap.size ≤ gb166); have n3_ := Aside0.mk (zH hg : w.heap.size ≤ gb166); clear HB; have HB := n0_; have BK166 := n1_; have GW166 := n2_; have GE166 := n3_; clear n0_ n1_ n2_ n3_; clear hb hbox hg; obtain ⟨hcz5_0, hcz5_1, hcz5_2, hcz5_3, hcz5_4, hcz5_5, hcz5_6, hcz5_7, hcz5_8⟩ := zc9 BK166.out; obtain ⟨hfz5_0, hfz5_1, hfz5_2, hfz5_3, hfz5_4, hfz5_5, hfz5_6, hfz5_7, hfz5_8⟩ := zf9 BK166.out) | ((with_reducible refine gate_callee (f := 85) rfl ?_); refine goesL_ (some 9) rfl rfl Try.func85 (by kernel_rfl) rfl #[.int .i64 a0_0] rfl zE ?_; (with_reducible refine (instr_has.calls a0_0 t167 _ A2.out).mono ?_); rintro e w6 ⟨rfl, hb⟩; refine ⟨_, rfl, ?_⟩; have n0_ := Aside0.mk (blk_below (g := gb166) (o := .cells #[.int .i64 a0_0, .int .i64 a0_1, .int .i64 a0_2, .int .i64 a0_3, .int .i64 a0_4, .int .i64 a0_5, .int .i64 a0_6, .int .i64 a0_7, .slice A0_8 l0_8.length c0_8] 42 (0, 0)) (zK BK166.out) hb); have n1_ := Aside0.mk (below_step (zG) hb); clear BK166; clear HB; have BK166 := n0_; have HB := n1_; clear n0_ n1_; (try clear hb); (try clear hb2); (try clear hk); (try clear hi)))
 (try simp only [Act.put, List.setIfInBounds_toArray, List.set_cons_zero, List.set_cons_succ])
 go_cut [17] (fun v17 wc => ∃ (kq : Nat) (x17_2 : Bool), v17 = .bool x17_2 ∧ Aside0 (instr_Right.j0 kq t167 x17_2 a0_0 a0_1 a0_2 a0_3 a0_4 a0_5 a0_6 a0_7 l0_8 = some r) ∧ Aside0 (kq ≤ k) ∧ Aside0 (wc.heap[gb166]? = some (.cells #[.int .i64 a0_0, .int .i64 a0_1, .int .i64 a0_2, .int .i64 a0_3, .int .i64 a0_4, .int .i64 a0_5, .int .i64 a0_6, .int .i64 a0_7, (.slice A0_8 l0_8.length c0_8)] 42 (0, 0))) ∧ Aside0 (Below w.heap.size w wc))
 case first =>
  have H := HC3.out
  clear HC3
  by_cases c7 : t167 = 0
  ·rw [if_pos c7] at H
   have c7b0 : (t167 == 0) = true := beq_iff_eq.mpr c7
   have c7b1 : (t167 != 0) = false := bne_eq_false_iff_eq.mpr c7
   clear c7
   (first | rw [c7b0] | (simp only [i64_w, i32_w]; rw [c7b0]) | skip)
   have H' := Aside0.mk H
   clear H
   go_wp2
   go_meet
   case rel => exact ⟨_, (true), zQ, H', ⟨by first | omega | exact Nat.le_refl _⟩, ⟨zK BK166.out⟩, ⟨zG⟩⟩
  ·rw [if_neg c7] at H
   have c7b0 : (t167 == 0) = false := beq_eq_false_iff_ne.mpr c7
   have c7b1 : (t167 != 0) = true := bne_iff_ne.mpr c7
   (first | rw [c7b0] | (simp only [i64_w, i32_w]; rw [c7b0]) | skip)
   replace H := Option.bind_eq_some_iff.mp H
   obtain ⟨t168, A80, H⟩ := H
   replace H : (instr_Right.j0 k t167 (!t168) a0_0 a0_1 a0_2 a0_3 a0_4 a0_5 a0_6 a0_7 l0_8) = some r := H
   have A8 := Aside0.mk A80
   clear A80
   have H' := Aside0.mk H
   clear H
   obtain ⟨hcz9_0, hcz9_1, hcz9_2, hcz9_3, hcz9_4, hcz9_5, hcz9_6, hcz9_7, hcz9_8⟩ := zc9 BK166.out
   obtain ⟨hfz9_0, hfz9_1, hfz9_2, hfz9_3, hfz9_4, hfz9_5, hfz9_6, hfz9_7, hfz9_8⟩ := zf9 BK166.out
   go_wp2_with (first | (go_at_call 86; (with_reducible refine (instr_fields.calls k a0_0 a0_1 a0_2 a0_3 a0_4 a0_5 a0_6 a0_7 _ _ l0_8 t167 t168 _ ?side1 ?side2 A8.out).mono ?_); (case side1 => exact zC (Kd.C_below HR0_8.out HB.out)); (case side2 => exact HC0_8.out); rintro e w10 ⟨rfl, hb⟩; have n0_ := Aside0.mk (blk_below (g := gb166) (o := .cells #[.int .i64 a0_0, .int .i64 a0_1, .int .i64 a0_2, .int .i64 a0_3, .int .i64 a0_4, .int .i64 a0_5, .int .i64 a0_6, .int .i64 a0_7, .slice A0_8 l0_8.length c0_8] 42 (0, 0)) (zK BK166.out) hb); have n1_ := Aside0.mk (below_step (zG) hb); clear BK166; clear HB; have BK166 := n0_; have HB := n1_; clear n0_ n1_; (try clear hb); (try clear hb2); (try clear hk); (try clear hi)))
   go_meet
   case rel => exact ⟨_, (!t168), zQ, H', ⟨by first | omega | exact Nat.le_refl _⟩, ⟨zK BK166.out⟩, ⟨zG⟩⟩
 case rest =>
  clear HC3
  (try clear p2); (try clear c7); (try clear c7b0); (try clear c7b1); (try clear c8); (try clear hcz5_0 hcz5_1 hcz5_2 hcz5_3 hcz5_4 hcz5_5 hcz5_6 hcz5_7 hcz5_8); (try clear hcz9_0 hcz9_1 hcz9_2 hcz9_3 hcz9_4 hcz9_5 hcz9_6)
  (try clear hcz9_7 hcz9_8); (try clear hfz5_0 hfz5_1 hfz5_2 hfz5_3 hfz5_4 hfz5_5 hfz5_6 hfz5_7 hfz5_8); (try clear hfz9_0 hfz9_1 hfz9_2 hfz9_3 hfz9_4 hfz9_5 hfz9_6 hfz9_7 hfz9_8)
  obtain ⟨kq, x17_2, rfl, HA, HJ2, BK166, HB⟩ := hcut
  cases kq with
  | zero => exact absurd HA.out (by simp [instr_Right.j0])
  | succ kj2 =>
   have H := HA.out
   clear HA
   simp only [instr_Right.j0] at H
   by_cases c11 : x17_2 = true
   ·subst c11
    have H1 : (some false) = some r := by rw [if_pos rfl] at H; exact H
    clear H
    have H := H1
    clear H1
    obtain rfl := Option.some.inj H
    go_wp2
    go_ret
    exact ⟨zV, zG⟩
   ·replace c11 := Bool.eq_false_iff.mpr c11
    subst c11
    have H1 : ((some (([(⟨1, a0_1⟩ : S96), (⟨2, a0_2⟩ : S96), (⟨4, a0_3⟩ : S96), (⟨8, a0_4⟩ : S96), (⟨256, a0_7⟩ : S96)] : List (S96)) : List (S96))).bind fun y169 => (instr_Right.l0 kj2 t167 y169 (y169.length : Int) 0 a0_0 a0_1 a0_2 a0_3 a0_4 a0_5 a0_6 a0_7 l0_8)) = some r := by rw [if_neg (show ¬ (false = true) by decide)] at H; exact H
    clear H
    have H := H1
    clear H1
    obtain ⟨y169, hy169⟩ : ∃ y_ : List (S96), y_ = (([(⟨1, a0_1⟩ : S96), (⟨2, a0_2⟩ : S96), (⟨4, a0_3⟩ : S96), (⟨8, a0_4⟩ : S96), (⟨256, a0_7⟩ : S96)] : List (S96))) := ⟨_, rfl⟩
    replace H : (instr_Right.l0 kj2 t167 y169 (y169.length : Int) 0 a0_0 a0_1 a0_2 a0_3 a0_4 a0_5 a0_6 a0_7 l0_8) = some r := by first | (rw [hy169]; with_reducible exact H) | (have H2_ := (Option.bind_some _ _).symm.trans H; rw [hy169]; with_reducible exact H2_) | (have H2_ := (Option.bind_some _ _).symm.trans H; with_reducible exact H2_) | with_reducible exact H | (rw [hy169]; exact H) | exact H
    have Ny169 := Aside0.mk hy169
    clear hy169
    have H' := Aside0.mk H
    clear H
    obtain ⟨hcz12_0, hcz12_1, hcz12_2, hcz12_3, hcz12_4, hcz12_5, hcz12_6, hcz12_7, hcz12_8⟩ := zc9 BK166.out
    obtain ⟨hfz12_0, hfz12_1, hfz12_2, hfz12_3, hfz12_4, hfz12_5, hfz12_6, hfz12_7, hfz12_8⟩ := zf9 BK166.out
    go_wp2_with (first | ((with_reducible refine gate_dst (N := 33) rfl ?_); refine Kd.R_lit k96 _ 96 ?hg (N := 33) ?hd (xs := ([(⟨1, a0_1⟩ : S96), (⟨2, a0_2⟩ : S96), (⟨4, a0_3⟩ : S96), (⟨8, a0_4⟩ : S96), (⟨256, a0_7⟩ : S96)] : List (S96))) (inner := [.int .i64 1, .int .i64 a0_1, .int .i64 2, .int .i64 a0_2, .int .i64 4, .int .i64 a0_3, .int .i64 8, .int .i64 a0_4, .int .i64 256, .int .i64 a0_7]) (ok := fun _ => True) (okp := fun _ => True) ?hr ?hp (fun _ hk => hk) trivial (Below.refl _ _) (Nat.le_refl _) (by simp) ?_; (case hd => rfl); (case hg => rfl); (case hr => first | (go_simp; done) | (go_simp; rfl)); (case hp => exact (Reps.c2 (show Kd.M k96 _ _ _ (⟨1, a0_1⟩ : S96) [.int .i64 1, .int .i64 a0_1] from (k96_mkM _ _ _ (⟨1, a0_1⟩ : S96) )) (Reps.c2 (show Kd.M k96 _ _ _ (⟨2, a0_2⟩ : S96) [.int .i64 2, .int .i64 a0_2] from (k96_mkM _ _ _ (⟨2, a0_2⟩ : S96) )) (Reps.c2 (show Kd.M k96 _ _ _ (⟨4, a0_3⟩ : S96) [.int .i64 4, .int .i64 a0_3] from (k96_mkM _ _ _ (⟨4, a0_3⟩ : S96) )) (Reps.c2 (show Kd.M k96 _ _ _ (⟨8, a0_4⟩ : S96) [.int .i64 8, .int .i64 a0_4] from (k96_mkM _ _ _ (⟨8, a0_4⟩ : S96) )) (Reps.c2 (show Kd.M k96 _ _ _ (⟨256, a0_7⟩ : S96) [.int .i64 256, .int .i64 a0_7] from (k96_mkM _ _ _ (⟨256, a0_7⟩ : S96) )) (Reps.none _ _))))))); intro v170 w13 ho14 hb hg_ hnew_; clear hg_ hnew_; (first | rw [← Ny169.out] at ho14 | (simp only [Int.reduceToNat] at ho14; rw [← Ny169.out] at ho14)); have n0_ := Aside0.mk (Kd.R_lower ho14 (below_size (zG))); have n1_ := Aside0.mk (blk_below (g := gb166) (o := .cells #[.int .i64 a0_0, .int .i64 a0_1, .int .i64 a0_2, .int .i64 a0_3, .int .i64 a0_4, .int .i64 a0_5, .int .i64 a0_6, .int .i64 a0_7, .slice A0_8 l0_8.length c0_8] 42 (0, 0)) (zK BK166.out) hb); have n2_ := Aside0.mk (below_step (zG) hb); clear BK166; clear HB; have HO171 := n0_; have BK166 := n1_; have HB := n2_; clear n0_ n1_ n2_; clear hb ho14; obtain ⟨Ao15, co15, eo15⟩ := Kd.R_slice HO171.out; subst eo15))
    go_loopg [35] kj2 (fun kq v35 w' => ∃ (x35_2 : Int), v35 = .int .i64 x35_2 ∧ Aside0 (instr_Right.l0 kq t167 y169 (y169.length : Int) x35_2 a0_0 a0_1 a0_2 a0_3 a0_4 a0_5 a0_6 a0_7 l0_8 = some r) ∧ Aside0 (kq ≤ kj2) ∧ Aside0 (Kd.R k96 96 w' w.heap.size (fun _ => True) (.slice Ao15 y169.length co15) y169) ∧ Aside0 (w'.heap[gb166]? = some (.cells #[.int .i64 a0_0, .int .i64 a0_1, .int .i64 a0_2, .int .i64 a0_3, .int .i64 a0_4, .int .i64 a0_5, .int .i64 a0_6, .int .i64 a0_7, (.slice A0_8 l0_8.length c0_8)] 42 (0, 0))) ∧ Aside0 (Below w.heap.size w w'))
    case atStart => exact ⟨(0), zQ, H', ⟨Nat.le_refl _⟩, ⟨zR HO171.out⟩, ⟨zK BK166.out⟩, ⟨zG⟩⟩
    case round =>
     clear H'
     (try clear c1); (try clear c2); (try clear p2); (try clear c7); (try clear c7b0); (try clear c7b1); (try clear c8); (try clear c11); (try clear hcz12_0 hcz12_1 hcz12_2 hcz12_3 hcz12_4 hcz12_5 hcz12_6 hcz12_7 hcz12_8); (try clear hcz5_0 hcz5_1 hcz5_2 hcz5_3)
     (try clear hcz5_4 hcz5_5 hcz5_6 hcz5_7 hcz5_8); (try clear hcz9_0 hcz9_1 hcz9_2 hcz9_3 hcz9_4 hcz9_5 hcz9_6 hcz9_7 hcz9_8); (try clear hfz12_0 hfz12_1 hfz12_2 hfz12_3 hfz12_4 hfz12_5)
     (try clear hfz12_6 hfz12_7 hfz12_8); (try clear hfz5_0 hfz5_1 hfz5_2 hfz5_3 hfz5_4 hfz5_5 hfz5_6 hfz5_7 hfz5_8); (try clear hfz9_0 hfz9_1 hfz9_2 hfz9_3 hfz9_4 hfz9_5 hfz9_6 hfz9_7)
     (try clear hfz9_8); (try clear p2)
     obtain ⟨x35_2, rfl, HA, HK2, HO_33, BK166, HB⟩ := hrel
     cases gk with
     | zero => exact absurd HA.out (by simp [instr_Right.l0])
     | succ k2 =>
      have H := HA.out
      clear HA
      simp only [instr_Right.l0] at H
      by_cases c16 : x35_2 < (y169.length : Int)
      ·rw [if_pos c16] at H
       have c16b0 : decide (x35_2 < (y169.length : Int)) = true := decide_eq_true c16
       clear c16
       by_cases c17 : 0 ≤ x35_2
       ·rw [if_pos c17] at H
        have c17b0 : decide (0 ≤ x35_2) = true := decide_eq_true c17
        clear c17
        by_cases c18 : x35_2 < (y169.length : Int)
        ·rw [if_pos c18] at H
         have c18b0 : decide (x35_2 < (y169.length : Int)) = true := decide_eq_true c18
         clear c18
         by_cases c19 : ((rd_T96 y169 x35_2).f1) < 0
         ·rw [if_pos c19] at H
          have c19b0 : decide (((rd_T96 y169 x35_2).f1) < 0) = true := decide_eq_true c19
          clear c19
          obtain rfl := Option.some.inj H
          have p172 : 0 ≤ (x35_2 : Int) := zO
          have q172 : x35_2 < (y169.length : Int) := zO
          obtain ⟨ad172, e172, hx172_0, hx172_1⟩ := at_T96 (Kd.R_reads' HO_33.out).2.2 x35_2 p172 q172
          cases e172
          replace p172 := eq_true p172
          replace q172 := eq_true q172
          go_wp2_with (first | ((with_reducible refine gate_dst (N := 5) rfl ?_); refine box_event ?hg (N := 5) ?hd (cs := #[.int .i64 0, .int .i64 0]) (t := 96) ?hr ?_; (case hd => rfl); (case hg => rfl); (case hr => first | (go_simp; done) | (go_simp; rfl)); intro gb173 hg w20 hbox hb; have n0_ := Aside0.mk (Kd.R_below (Kd.R_elderB (zR HO_33.out) gb173 (Nat.le_of_eq hg.symm)) hb); have n1_ := Aside0.mk (blk_below (g := gb166) (o := .cells #[.int .i64 a0_0, .int .i64 a0_1, .int .i64 a0_2, .int .i64 a0_3, .int .i64 a0_4, .int .i64 a0_5, .int .i64 a0_6, .int .i64 a0_7, .slice A0_8 l0_8.length c0_8] 42 (0, 0)) (zK BK166.out) hb); have n2_ := Aside0.mk (below_step (zG) hb); have n3_ := Aside0.mk (hbox); have n4_ := Aside0.mk ((by rw [hg]; exact (below_size (zG)) : w.heap.size ≤ gb173)); have n5_ := Aside0.mk ((by rw [hg]; exact (below_size (zG)) : w.heap.size ≤ gb173)); have n6_ := Aside0.mk ((by rw [hg]; exact Nat.ne_of_lt (blk_lt (g := gb166) (o := .cells #[.int .i64 a0_0, .int .i64 a0_1, .int .i64 a0_2, .int .i64 a0_3, .int .i64 a0_4, .int .i64 a0_5, .int .i64 a0_6, .int .i64 a0_7, .slice A0_8 l0_8.length c0_8] 42 (0, 0)) (zK BK166.out)) : gb166 ≠ gb173)); have n7_ := Aside0.mk ((by rw [hg]; exact Nat.ne_of_gt (blk_lt (g := gb166) (o := .cells #[.int .i64 a0_0, .int .i64 a0_1, .int .i64 a0_2, .int .i64 a0_3, .int .i64 a0_4, .int .i64 a0_5, .int .i64 a0_6, .int .i64 a0_7, .slice A0_8 l0_8.length c0_8] 42 (0, 0)) (zK BK166.out)) : gb173 ≠ gb166)); clear HO_33; clear BK166; clear HB; have HO_33 := n0_; have BK166 := n1_; have HB := n2_; have BK173 := n3_; have GW173 := n4_; have GE173 := n5_; have NB166_173 := n6_; have NB173_166 := n7_; clear n0_ n1_ n2_ n3_ n4_ n5_ n6_ n7_; clear hb hbox hg; have hnb21 := NB173_166.out; have hnc21 := NB166_173.out; obtain ⟨hcz22_0, hcz22_1⟩ := zc2 BK173.out; obtain ⟨hfz22_0, hfz22_1⟩ := zf2 BK173.out))
          go_ret
          exact ⟨zV, zG⟩
         ·rw [if_neg c19] at H
          have c19b0 : decide (((rd_T96 y169 x35_2).f1) < 0) = false := decide_eq_false c19
          clear c19
          by_cases c23 : (Go.bits .and .i64 t167 ((rd_T96 y169 x35_2).f0)) = 0
          ·rw [if_pos c23] at H
           have c23b0 : ((Go.bits .and .i64 t167 ((rd_T96 y169 x35_2).f0)) == 0) = true := beq_iff_eq.mpr c23
           have c23b1 : ((Go.bits .and .i64 t167 ((rd_T96 y169 x35_2).f0)) != 0) = false := bne_eq_false_iff_eq.mpr c23
           clear c23
           by_cases c24 : ((rd_T96 y169 x35_2).f1) = 0
           ·rw [if_pos c24] at H
            have c24b0 : (((rd_T96 y169 x35_2).f1) == 0) = true := beq_iff_eq.mpr c24
            have c24b1 : (((rd_T96 y169 x35_2).f1) != 0) = false := bne_eq_false_iff_eq.mpr c24
            clear c24
            have H' := Aside0.mk H
            clear H
            have p172 : 0 ≤ (x35_2 : Int) := zO
            have q172 : x35_2 < (y169.length : Int) := zO
            obtain ⟨ad172, e172, hx172_0, hx172_1⟩ := at_T96 (Kd.R_reads' HO_33.out).2.2 x35_2 p172 q172
            cases e172
            replace p172 := eq_true p172
            replace q172 := eq_true q172
            go_wp2_with (first | ((with_reducible refine gate_dst (N := 5) rfl ?_); refine box_event ?hg (N := 5) ?hd (cs := #[.int .i64 0, .int .i64 0]) (t := 96) ?hr ?_; (case hd => rfl); (case hg => rfl); (case hr => first | (go_simp; done) | (go_simp; rfl)); intro gb173 hg w25 hbox hb; have n0_ := Aside0.mk (Kd.R_below (Kd.R_elderB (zR HO_33.out) gb173 (Nat.le_of_eq hg.symm)) hb); have n1_ := Aside0.mk (blk_below (g := gb166) (o := .cells #[.int .i64 a0_0, .int .i64 a0_1, .int .i64 a0_2, .int .i64 a0_3, .int .i64 a0_4, .int .i64 a0_5, .int .i64 a0_6, .int .i64 a0_7, .slice A0_8 l0_8.length c0_8] 42 (0, 0)) (zK BK166.out) hb); have n2_ := Aside0.mk (below_step (zG) hb); have n3_ := Aside0.mk (hbox); have n4_ := Aside0.mk ((by rw [hg]; exact (below_size (zG)) : w.heap.size ≤ gb173)); have n5_ := Aside0.mk ((by rw [hg]; exact (below_size (zG)) : w.heap.size ≤ gb173)); have n6_ := Aside0.mk ((by rw [hg]; exact Nat.ne_of_lt (blk_lt (g := gb166) (o := .cells #[.int .i64 a0_0, .int .i64 a0_1, .int .i64 a0_2, .int .i64 a0_3, .int .i64 a0_4, .int .i64 a0_5, .int .i64 a0_6, .int .i64 a0_7, .slice A0_8 l0_8.length c0_8] 42 (0, 0)) (zK BK166.out)) : gb166 ≠ gb173)); have n7_ := Aside0.mk ((by rw [hg]; exact Nat.ne_of_gt (blk_lt (g := gb166) (o := .cells #[.int .i64 a0_0, .int .i64 a0_1, .int .i64 a0_2, .int .i64 a0_3, .int .i64 a0_4, .int .i64 a0_5, .int .i64 a0_6, .int .i64 a0_7, .slice A0_8 l0_8.length c0_8] 42 (0, 0)) (zK BK166.out)) : gb173 ≠ gb166)); clear HO_33; clear BK166; clear HB; have HO_33 := n0_; have BK166 := n1_; have HB := n2_; have BK173 := n3_; have GW173 := n4_; have GE173 := n5_; have NB166_173 := n6_; have NB173_166 := n7_; clear n0_ n1_ n2_ n3_ n4_ n5_ n6_ n7_; clear hb hbox hg; have hnb26 := NB173_166.out; have hnc26 := NB166_173.out; obtain ⟨hcz27_0, hcz27_1⟩ := zc2 BK173.out; obtain ⟨hfz27_0, hfz27_1⟩ := zf2 BK173.out))
            go_roundg k2
            case measure => have := HJ2.out; have := HK2.out; omega
            case rel => exact ⟨(wrap64 (x35_2 + 1)), zQ, H', ⟨by have := HJ2.out; have := HK2.out; omega⟩, ⟨by (with_reducible repeat (first | apply Kd.R_alloc | apply Kd.R_drewN | apply Kd.R_drew)); exact Kd.R_mono (Kd.R_far (p := ⟨gb173, 1, none⟩) (Kd.R_far (p := ⟨gb173, 0, none⟩) (Kd.R_mono HO_33.out (fun k_ hk => (⟨hk, hk.2⟩ : _ ∧ k_ ≠ gb173))) (fun _ hk => hk.2) (.int .i64 ((rd_T96 y169 x35_2).f0))) (fun _ hk => hk.2) (.int .i64 ((rd_T96 y169 x35_2).f1))) (fun _ hk => trivial)⟩, ⟨by (with_reducible repeat (first | refine blk_drewN ?_ _ | refine blk_drew ?_ | refine blk_alloc ?_ _)); refine blk_far ?_ NB166_173.out _; (with_reducible repeat (first | refine blk_drewN ?_ _ | refine blk_drew ?_ | refine blk_alloc ?_ _)); refine blk_far ?_ NB166_173.out _; (with_reducible repeat (first | refine blk_drewN ?_ _ | refine blk_drew ?_ | refine blk_alloc ?_ _)); exact BK166.out⟩, ⟨zG⟩⟩
           ·rw [if_neg c24] at H
            have c24b0 : (((rd_T96 y169 x35_2).f1) == 0) = false := beq_eq_false_iff_ne.mpr c24
            have c24b1 : (((rd_T96 y169 x35_2).f1) != 0) = true := bne_iff_ne.mpr c24
            obtain rfl := Option.some.inj H
            have p172 : 0 ≤ (x35_2 : Int) := zO
            have q172 : x35_2 < (y169.length : Int) := zO
            obtain ⟨ad172, e172, hx172_0, hx172_1⟩ := at_T96 (Kd.R_reads' HO_33.out).2.2 x35_2 p172 q172
            cases e172
            replace p172 := eq_true p172
            replace q172 := eq_true q172
            go_wp2_with (first | ((with_reducible refine gate_dst (N := 5) rfl ?_); refine box_event ?hg (N := 5) ?hd (cs := #[.int .i64 0, .int .i64 0]) (t := 96) ?hr ?_; (case hd => rfl); (case hg => rfl); (case hr => first | (go_simp; done) | (go_simp; rfl)); intro gb173 hg w28 hbox hb; have n0_ := Aside0.mk (Kd.R_below (Kd.R_elderB (zR HO_33.out) gb173 (Nat.le_of_eq hg.symm)) hb); have n1_ := Aside0.mk (blk_below (g := gb166) (o := .cells #[.int .i64 a0_0, .int .i64 a0_1, .int .i64 a0_2, .int .i64 a0_3, .int .i64 a0_4, .int .i64 a0_5, .int .i64 a0_6, .int .i64 a0_7, .slice A0_8 l0_8.length c0_8] 42 (0, 0)) (zK BK166.out) hb); have n2_ := Aside0.mk (below_step (zG) hb); have n3_ := Aside0.mk (hbox); have n4_ := Aside0.mk ((by rw [hg]; exact (below_size (zG)) : w.heap.size ≤ gb173)); have n5_ := Aside0.mk ((by rw [hg]; exact (below_size (zG)) : w.heap.size ≤ gb173)); have n6_ := Aside0.mk ((by rw [hg]; exact Nat.ne_of_lt (blk_lt (g := gb166) (o := .cells #[.int .i64 a0_0, .int .i64 a0_1, .int .i64 a0_2, .int .i64 a0_3, .int .i64 a0_4, .int .i64 a0_5, .int .i64 a0_6, .int .i64 a0_7, .slice A0_8 l0_8.length c0_8] 42 (0, 0)) (zK BK166.out)) : gb166 ≠ gb173)); have n7_ := Aside0.mk ((by rw [hg]; exact Nat.ne_of_gt (blk_lt (g := gb166) (o := .cells #[.int .i64 a0_0, .int .i64 a0_1, .int .i64 a0_2, .int .i64 a0_3, .int .i64 a0_4, .int .i64 a0_5, .int .i64 a0_6, .int .i64 a0_7, .slice A0_8 l0_8.length c0_8] 42 (0, 0)) (zK BK166.out)) : gb173 ≠ gb166)); clear HO_33; clear BK166; clear HB; have HO_33 := n0_; have BK166 := n1_; have HB := n2_; have BK173 := n3_; have GW173 := n4_; have GE173 := n5_; have NB166_173 := n6_; have NB173_166 := n7_; clear n0_ n1_ n2_ n3_ n4_ n5_ n6_ n7_; clear hb hbox hg; have hnb29 := NB173_166.out; have hnc29 := NB166_173.out; obtain ⟨hcz30_0, hcz30_1⟩ := zc2 BK173.out; obtain ⟨hfz30_0, hfz30_1⟩ := zf2 BK173.out))
            go_ret
            exact ⟨zV, zG⟩
          ·rw [if_neg c23] at H
           have c23b0 : ((Go.bits .and .i64 t167 ((rd_T96 y169 x35_2).f0)) == 0) = false := beq_eq_false_iff_ne.mpr c23
           have c23b1 : ((Go.bits .and .i64 t167 ((rd_T96 y169 x35_2).f0)) != 0) = true := bne_iff_ne.mpr c23
           have H' := Aside0.mk H
           clear H
           have p172 : 0 ≤ (x35_2 : Int) := zO
           have q172 : x35_2 < (y169.length : Int) := zO
           obtain ⟨ad172, e172, hx172_0, hx172_1⟩ := at_T96 (Kd.R_reads' HO_33.out).2.2 x35_2 p172 q172
           cases e172
           replace p172 := eq_true p172
           replace q172 := eq_true q172
           go_wp2_with (first | ((with_reducible refine gate_dst (N := 5) rfl ?_); refine box_event ?hg (N := 5) ?hd (cs := #[.int .i64 0, .int .i64 0]) (t := 96) ?hr ?_; (case hd => rfl); (case hg => rfl); (case hr => first | (go_simp; done) | (go_simp; rfl)); intro gb173 hg w31 hbox hb; have n0_ := Aside0.mk (Kd.R_below (Kd.R_elderB (zR HO_33.out) gb173 (Nat.le_of_eq hg.symm)) hb); have n1_ := Aside0.mk (blk_below (g := gb166) (o := .cells #[.int .i64 a0_0, .int .i64 a0_1, .int .i64 a0_2, .int .i64 a0_3, .int .i64 a0_4, .int .i64 a0_5, .int .i64 a0_6, .int .i64 a0_7, .slice A0_8 l0_8.length c0_8] 42 (0, 0)) (zK BK166.out) hb); have n2_ := Aside0.mk (below_step (zG) hb); have n3_ := Aside0.mk (hbox); have n4_ := Aside0.mk ((by rw [hg]; exact (below_size (zG)) : w.heap.size ≤ gb173)); have n5_ := Aside0.mk ((by rw [hg]; exact (below_size (zG)) : w.heap.size ≤ gb173)); have n6_ := Aside0.mk ((by rw [hg]; exact Nat.ne_of_lt (blk_lt (g := gb166) (o := .cells #[.int .i64 a0_0, .int .i64 a0_1, .int .i64 a0_2, .int .i64 a0_3, .int .i64 a0_4, .int .i64 a0_5, .int .i64 a0_6, .int .i64 a0_7, .slice A0_8 l0_8.length c0_8] 42 (0, 0)) (zK BK166.out)) : gb166 ≠ gb173)); have n7_ := Aside0.mk ((by rw [hg]; exact Nat.ne_of_gt (blk_lt (g := gb166) (o := .cells #[.int .i64 a0_0, .int .i64 a0_1, .int .i64 a0_2, .int .i64 a0_3, .int .i64 a0_4, .int .i64 a0_5, .int .i64 a0_6, .int .i64 a0_7, .slice A0_8 l0_8.length c0_8] 42 (0, 0)) (zK BK166.out)) : gb173 ≠ gb166)); clear HO_33; clear BK166; clear HB; have HO_33 := n0_; have BK166 := n1_; have HB := n2_; have BK173 := n3_; have GW173 := n4_; have GE173 := n5_; have NB166_173 := n6_; have NB173_166 := n7_; clear n0_ n1_ n2_ n3_ n4_ n5_ n6_ n7_; clear hb hbox hg; have hnb32 := NB173_166.out; have hnc32 := NB166_173.out; obtain ⟨hcz33_0, hcz33_1⟩ := zc2 BK173.out; obtain ⟨hfz33_0, hfz33_1⟩ := zf2 BK173.out))
           go_roundg k2
           case measure => have := HJ2.out; have := HK2.out; omega
           case rel => exact ⟨(wrap64 (x35_2 + 1)), zQ, H', ⟨by have := HJ2.out; have := HK2.out; omega⟩, ⟨by (with_reducible repeat (first | apply Kd.R_alloc | apply Kd.R_drewN | apply Kd.R_drew)); exact Kd.R_mono (Kd.R_far (p := ⟨gb173, 1, none⟩) (Kd.R_far (p := ⟨gb173, 0, none⟩) (Kd.R_mono HO_33.out (fun k_ hk => (⟨hk, hk.2⟩ : _ ∧ k_ ≠ gb173))) (fun _ hk => hk.2) (.int .i64 ((rd_T96 y169 x35_2).f0))) (fun _ hk => hk.2) (.int .i64 ((rd_T96 y169 x35_2).f1))) (fun _ hk => trivial)⟩, ⟨by (with_reducible repeat (first | refine blk_drewN ?_ _ | refine blk_drew ?_ | refine blk_alloc ?_ _)); refine blk_far ?_ NB166_173.out _; (with_reducible repeat (first | refine blk_drewN ?_ _ | refine blk_drew ?_ | refine blk_alloc ?_ _)); refine blk_far ?_ NB166_173.out _; (with_reducible repeat (first | refine blk_drewN ?_ _ | refine blk_drew ?_ | refine blk_alloc ?_ _)); exact BK166.out⟩, ⟨zG⟩⟩
        ·rw [if_neg c18] at H
         exact absurd H (by simp)
       ·rw [if_neg c17] at H
        exact absurd H (by simp)
      ·rw [if_neg c16] at H
       have c16b0 : decide (x35_2 < (y169.length : Int)) = false := decide_eq_false c16
       clear c16
       by_cases c34 : (l0_8.length : Int) > 0
       ·rw [if_pos c34] at H
        have c34b0 : decide (0 < (l0_8.length : Int)) = true := decide_eq_true c34
        have c34b1 : decide (0 < l0_8.length) = true := decide_eq_true (by omega)
        clear c34
        by_cases c35 : (Go.bits .and .i64 t167 512) = 0
        ·rw [if_pos c35] at H
         have c35b0 : ((Go.bits .and .i64 t167 512) == 0) = true := beq_iff_eq.mpr c35
         have c35b1 : ((Go.bits .and .i64 t167 512) != 0) = false := bne_eq_false_iff_eq.mpr c35
         clear c35
         obtain rfl := Option.some.inj H
         obtain ⟨hcz36_0, hcz36_1, hcz36_2, hcz36_3, hcz36_4, hcz36_5, hcz36_6, hcz36_7, hcz36_8⟩ := zc9 BK166.out
         obtain ⟨hfz36_0, hfz36_1, hfz36_2, hfz36_3, hfz36_4, hfz36_5, hfz36_6, hfz36_7, hfz36_8⟩ := zf9 BK166.out
         go_wp2
         go_ret
         exact ⟨zV, zG⟩
        ·rw [if_neg c35] at H
         have c35b0 : ((Go.bits .and .i64 t167 512) == 0) = false := beq_eq_false_iff_ne.mpr c35
         have c35b1 : ((Go.bits .and .i64 t167 512) != 0) = true := bne_iff_ne.mpr c35
         by_cases c37 : (l0_8.length : Int) = 0
         ·rw [if_pos c37] at H
          have c37b0 : ((l0_8.length : Int) == 0) = true := beq_iff_eq.mpr c37
          have c37b1 : ((l0_8.length : Int) != 0) = false := bne_eq_false_iff_eq.mpr c37
          clear c37
          by_cases c38 : (Go.bits .and .i64 t167 1024) = 0
          ·rw [if_pos c38] at H
           have c38b0 : ((Go.bits .and .i64 t167 1024) == 0) = true := beq_iff_eq.mpr c38
           have c38b1 : ((Go.bits .and .i64 t167 1024) != 0) = false := bne_eq_false_iff_eq.mpr c38
           clear c38
           by_cases c39 : a0_0 = 39
           ·rw [if_pos c39] at H
            have c39b0 : (a0_0 == 39) = true := beq_iff_eq.mpr c39
            have c39b1 : (a0_0 != 39) = false := bne_eq_false_iff_eq.mpr c39
            clear c39
            by_cases c40 : (l0_8.length : Int) > 8
            ·rw [if_pos c40] at H
             have c40b0 : decide (8 < (l0_8.length : Int)) = true := decide_eq_true c40
             have c40b1 : decide (8 < l0_8.length) = true := decide_eq_true (by omega)
             clear c40
             obtain rfl := Option.some.inj H
             obtain ⟨hcz41_0, hcz41_1, hcz41_2, hcz41_3, hcz41_4, hcz41_5, hcz41_6, hcz41_7, hcz41_8⟩ := zc9 BK166.out
             obtain ⟨hfz41_0, hfz41_1, hfz41_2, hfz41_3, hfz41_4, hfz41_5, hfz41_6, hfz41_7, hfz41_8⟩ := zf9 BK166.out
             go_wp2
             go_ret
             exact ⟨zV, zG⟩
            ·rw [if_neg c40] at H
             have c40b0 : decide (8 < (l0_8.length : Int)) = false := decide_eq_false c40
             have c40b1 : decide (8 < l0_8.length) = false := decide_eq_false (by omega)
             clear c40
             obtain rfl := Option.some.inj H
             obtain ⟨hcz42_0, hcz42_1, hcz42_2, hcz42_3, hcz42_4, hcz42_5, hcz42_6, hcz42_7, hcz42_8⟩ := zc9 BK166.out
             obtain ⟨hfz42_0, hfz42_1, hfz42_2, hfz42_3, hfz42_4, hfz42_5, hfz42_6, hfz42_7, hfz42_8⟩ := zf9 BK166.out
             go_wp2
             go_ret
             exact ⟨zV, zG⟩
           ·rw [if_neg c39] at H
            have c39b0 : (a0_0 == 39) = false := beq_eq_false_iff_ne.mpr c39
            have c39b1 : (a0_0 != 39) = true := bne_iff_ne.mpr c39
            obtain rfl := Option.some.inj H
            obtain ⟨hcz43_0, hcz43_1, hcz43_2, hcz43_3, hcz43_4, hcz43_5, hcz43_6, hcz43_7, hcz43_8⟩ := zc9 BK166.out
            obtain ⟨hfz43_0, hfz43_1, hfz43_2, hfz43_3, hfz43_4, hfz43_5, hfz43_6, hfz43_7, hfz43_8⟩ := zf9 BK166.out
            go_wp2
            go_ret
            exact ⟨zV, zG⟩
          ·rw [if_neg c38] at H
           have c38b0 : ((Go.bits .and .i64 t167 1024) == 0) = false := beq_eq_false_iff_ne.mpr c38
           have c38b1 : ((Go.bits .and .i64 t167 1024) != 0) = true := bne_iff_ne.mpr c38
           obtain rfl := Option.some.inj H
           obtain ⟨hcz44_0, hcz44_1, hcz44_2, hcz44_3, hcz44_4, hcz44_5, hcz44_6, hcz44_7, hcz44_8⟩ := zc9 BK166.out
           obtain ⟨hfz44_0, hfz44_1, hfz44_2, hfz44_3, hfz44_4, hfz44_5, hfz44_6, hfz44_7, hfz44_8⟩ := zf9 BK166.out
           go_wp2
           go_ret
           exact ⟨zV, zG⟩
         ·rw [if_neg c37] at H
          have c37b0 : ((l0_8.length : Int) == 0) = false := beq_eq_false_iff_ne.mpr c37
          have c37b1 : ((l0_8.length : Int) != 0) = true := bne_iff_ne.mpr c37
          have c37b2 : ¬ (l0_8 = []) := fun h_ => c37 (by rw [h_]; rfl)
          by_cases c45 : a0_0 = 39
          ·rw [if_pos c45] at H
           have c45b0 : (a0_0 == 39) = true := beq_iff_eq.mpr c45
           have c45b1 : (a0_0 != 39) = false := bne_eq_false_iff_eq.mpr c45
           clear c45
           by_cases c46 : (l0_8.length : Int) > 8
           ·rw [if_pos c46] at H
            have c46b0 : decide (8 < (l0_8.length : Int)) = true := decide_eq_true c46
            have c46b1 : decide (8 < l0_8.length) = true := decide_eq_true (by omega)
            clear c46
            obtain rfl := Option.some.inj H
            obtain ⟨hcz47_0, hcz47_1, hcz47_2, hcz47_3, hcz47_4, hcz47_5, hcz47_6, hcz47_7, hcz47_8⟩ := zc9 BK166.out
            obtain ⟨hfz47_0, hfz47_1, hfz47_2, hfz47_3, hfz47_4, hfz47_5, hfz47_6, hfz47_7, hfz47_8⟩ := zf9 BK166.out
            go_wp2
            go_ret
            exact ⟨zV, zG⟩
           ·rw [if_neg c46] at H
            have c46b0 : decide (8 < (l0_8.length : Int)) = false := decide_eq_false c46
            have c46b1 : decide (8 < l0_8.length) = false := decide_eq_false (by omega)
            clear c46
            replace H := Option.bind_eq_some_iff.mp H
            obtain ⟨t174, A480, H⟩ := H
            replace H : (some (decide (t174 ≥ 0))) = some r := H
            have A48 := Aside0.mk A480
            clear A480
            obtain rfl := Option.some.inj H
            obtain ⟨hcz49_0, hcz49_1, hcz49_2, hcz49_3, hcz49_4, hcz49_5, hcz49_6, hcz49_7, hcz49_8⟩ := zc9 BK166.out
            obtain ⟨hfz49_0, hfz49_1, hfz49_2, hfz49_3, hfz49_4, hfz49_5, hfz49_6, hfz49_7, hfz49_8⟩ := zf9 BK166.out
            go_wp2_with (first | (go_at_call 87; (with_reducible refine (slices_Min_int_int.calls _ _ l0_8 t174 _ ?side1 ?side2 A48.out).mono ?_); (case side1 => exact zC (Kd.C_below HR0_8.out HB.out)); (case side2 => exact HC0_8.out); rintro e w' ⟨rfl, ⟨nd, rfl⟩⟩))
            go_ret
            exact ⟨zV, zG⟩
          ·rw [if_neg c45] at H
           have c45b0 : (a0_0 == 39) = false := beq_eq_false_iff_ne.mpr c45
           have c45b1 : (a0_0 != 39) = true := bne_iff_ne.mpr c45
           replace H := Option.bind_eq_some_iff.mp H
           obtain ⟨t175, A500, H⟩ := H
           replace H : (some (decide (t175 ≥ 0))) = some r := H
           have A50 := Aside0.mk A500
           clear A500
           obtain rfl := Option.some.inj H
           obtain ⟨hcz51_0, hcz51_1, hcz51_2, hcz51_3, hcz51_4, hcz51_5, hcz51_6, hcz51_7, hcz51_8⟩ := zc9 BK166.out
           obtain ⟨hfz51_0, hfz51_1, hfz51_2, hfz51_3, hfz51_4, hfz51_5, hfz51_6, hfz51_7, hfz51_8⟩ := zf9 BK166.out
           go_wp2_with (first | (go_at_call 87; (with_reducible refine (slices_Min_int_int.calls _ _ l0_8 t175 _ ?side1 ?side2 A50.out).mono ?_); (case side1 => exact zC (Kd.C_below HR0_8.out HB.out)); (case side2 => exact HC0_8.out); rintro e w' ⟨rfl, ⟨nd, rfl⟩⟩))
           go_ret
           exact ⟨zV, zG⟩
       ·rw [if_neg c34] at H
        have c34b0 : decide (0 < (l0_8.length : Int)) = false := decide_eq_false c34
        have c34b1 : decide (0 < l0_8.length) = false := decide_eq_false (by omega)
        clear c34
        by_cases c52 : (l0_8.length : Int) = 0
        ·rw [if_pos c52] at H
         have c52b0 : ((l0_8.length : Int) == 0) = true := beq_iff_eq.mpr c52
         have c52b1 : ((l0_8.length : Int) != 0) = false := bne_eq_false_iff_eq.mpr c52
         clear c52
         by_cases c53 : (Go.bits .and .i64 t167 1024) = 0
         ·rw [if_pos c53] at H
          have c53b0 : ((Go.bits .and .i64 t167 1024) == 0) = true := beq_iff_eq.mpr c53
          have c53b1 : ((Go.bits .and .i64 t167 1024) != 0) = false := bne_eq_false_iff_eq.mpr c53
          clear c53
          by_cases c54 : a0_0 = 39
          ·rw [if_pos c54] at H
           have c54b0 : (a0_0 == 39) = true := beq_iff_eq.mpr c54
           have c54b1 : (a0_0 != 39) = false := bne_eq_false_iff_eq.mpr c54
           clear c54
           by_cases c55 : (l0_8.length : Int) > 8
           ·rw [if_pos c55] at H
            have c55b0 : decide (8 < (l0_8.length : Int)) = true := decide_eq_true c55
            have c55b1 : decide (8 < l0_8.length) = true := decide_eq_true (by omega)
            clear c55
            obtain rfl := Option.some.inj H
            obtain ⟨hcz56_0, hcz56_1, hcz56_2, hcz56_3, hcz56_4, hcz56_5, hcz56_6, hcz56_7, hcz56_8⟩ := zc9 BK166.out
            obtain ⟨hfz56_0, hfz56_1, hfz56_2, hfz56_3, hfz56_4, hfz56_5, hfz56_6, hfz56_7, hfz56_8⟩ := zf9 BK166.out
            go_wp2
            go_ret
            exact ⟨zV, zG⟩
           ·rw [if_neg c55] at H
            have c55b0 : decide (8 < (l0_8.length : Int)) = false := decide_eq_false c55
            have c55b1 : decide (8 < l0_8.length) = false := decide_eq_false (by omega)
            clear c55
            obtain rfl := Option.some.inj H
            obtain ⟨hcz57_0, hcz57_1, hcz57_2, hcz57_3, hcz57_4, hcz57_5, hcz57_6, hcz57_7, hcz57_8⟩ := zc9 BK166.out
            obtain ⟨hfz57_0, hfz57_1, hfz57_2, hfz57_3, hfz57_4, hfz57_5, hfz57_6, hfz57_7, hfz57_8⟩ := zf9 BK166.out
            go_wp2
            go_ret
            exact ⟨zV, zG⟩
          ·rw [if_neg c54] at H
           have c54b0 : (a0_0 == 39) = false := beq_eq_false_iff_ne.mpr c54
           have c54b1 : (a0_0 != 39) = true := bne_iff_ne.mpr c54
           obtain rfl := Option.some.inj H
           obtain ⟨hcz58_0, hcz58_1, hcz58_2, hcz58_3, hcz58_4, hcz58_5, hcz58_6, hcz58_7, hcz58_8⟩ := zc9 BK166.out
           obtain ⟨hfz58_0, hfz58_1, hfz58_2, hfz58_3, hfz58_4, hfz58_5, hfz58_6, hfz58_7, hfz58_8⟩ := zf9 BK166.out
           go_wp2
           go_ret
           exact ⟨zV, zG⟩
         ·rw [if_neg c53] at H
          have c53b0 : ((Go.bits .and .i64 t167 1024) == 0) = false := beq_eq_false_iff_ne.mpr c53
          have c53b1 : ((Go.bits .and .i64 t167 1024) != 0) = true := bne_iff_ne.mpr c53
          obtain rfl := Option.some.inj H
          obtain ⟨hcz59_0, hcz59_1, hcz59_2, hcz59_3, hcz59_4, hcz59_5, hcz59_6, hcz59_7, hcz59_8⟩ := zc9 BK166.out
          obtain ⟨hfz59_0, hfz59_1, hfz59_2, hfz59_3, hfz59_4, hfz59_5, hfz59_6, hfz59_7, hfz59_8⟩ := zf9 BK166.out
          go_wp2
          go_ret
          exact ⟨zV, zG⟩
        ·rw [if_neg c52] at H
         have c52b0 : ((l0_8.length : Int) == 0) = false := beq_eq_false_iff_ne.mpr c52
         have c52b1 : ((l0_8.length : Int) != 0) = true := bne_iff_ne.mpr c52
         have c52b2 : ¬ (l0_8 = []) := fun h_ => c52 (by rw [h_]; rfl)
         by_cases c60 : a0_0 = 39
         ·rw [if_pos c60] at H
          have c60b0 : (a0_0 == 39) = true := beq_iff_eq.mpr c60
          have c60b1 : (a0_0 != 39) = false := bne_eq_false_iff_eq.mpr c60
          clear c60
          by_cases c61 : (l0_8.length : Int) > 8
          ·rw [if_pos c61] at H
           have c61b0 : decide (8 < (l0_8.length : Int)) = true := decide_eq_true c61
           have c61b1 : decide (8 < l0_8.length) = true := decide_eq_true (by omega)
           clear c61
           obtain rfl := Option.some.inj H
           obtain ⟨hcz62_0, hcz62_1, hcz62_2, hcz62_3, hcz62_4, hcz62_5, hcz62_6, hcz62_7, hcz62_8⟩ := zc9 BK166.out
           obtain ⟨hfz62_0, hfz62_1, hfz62_2, hfz62_3, hfz62_4, hfz62_5, hfz62_6, hfz62_7, hfz62_8⟩ := zf9 BK166.out
           go_wp2
           go_ret
           exact ⟨zV, zG⟩
          ·rw [if_neg c61] at H
           have c61b0 : decide (8 < (l0_8.length : Int)) = false := decide_eq_false c61
           have c61b1 : decide (8 < l0_8.length) = false := decide_eq_false (by omega)
           clear c61
           replace H := Option.bind_eq_some_iff.mp H
           obtain ⟨t176, A630, H⟩ := H
           replace H : (some (decide (t176 ≥ 0))) = some r := H
           have A63 := Aside0.mk A630
           clear A630
           obtain rfl := Option.some.inj H
           obtain ⟨hcz64_0, hcz64_1, hcz64_2, hcz64_3, hcz64_4, hcz64_5, hcz64_6, hcz64_7, hcz64_8⟩ := zc9 BK166.out
           obtain ⟨hfz64_0, hfz64_1, hfz64_2, hfz64_3, hfz64_4, hfz64_5, hfz64_6, hfz64_7, hfz64_8⟩ := zf9 BK166.out
           go_wp2_with (first | (go_at_call 87; (with_reducible refine (slices_Min_int_int.calls _ _ l0_8 t176 _ ?side1 ?side2 A63.out).mono ?_); (case side1 => exact zC (Kd.C_below HR0_8.out HB.out)); (case side2 => exact HC0_8.out); rintro e w' ⟨rfl, ⟨nd, rfl⟩⟩))
           go_ret
           exact ⟨zV, zG⟩
         ·rw [if_neg c60] at H
          have c60b0 : (a0_0 == 39) = false := beq_eq_false_iff_ne.mpr c60
          have c60b1 : (a0_0 != 39) = true := bne_iff_ne.mpr c60
          replace H := Option.bind_eq_some_iff.mp H
          obtain ⟨t177, A650, H⟩ := H
          replace H : (some (decide (t177 ≥ 0))) = some r := H
          have A65 := Aside0.mk A650
          clear A650
          obtain rfl := Option.some.inj H
          obtain ⟨hcz66_0, hcz66_1, hcz66_2, hcz66_3, hcz66_4, hcz66_5, hcz66_6, hcz66_7, hcz66_8⟩ := zc9 BK166.out
          obtain ⟨hfz66_0, hfz66_1, hfz66_2, hfz66_3, hfz66_4, hfz66_5, hfz66_6, hfz66_7, hfz66_8⟩ := zf9 BK166.out
          go_wp2_with (first | (go_at_call 87; (with_reducible refine (slices_Min_int_int.calls _ _ l0_8 t177 _ ?side1 ?side2 A65.out).mono ?_); (case side1 => exact zC (Kd.C_below HR0_8.out HB.out)); (case side2 => exact HC0_8.out); rintro e w' ⟨rfl, ⟨nd, rfl⟩⟩))
          go_ret
          exact ⟨zV, zG⟩
def instr_Ends.f (a0 : Int) : Option (Bool) := if a0 ≥ 41 then (some (decide (a0 ≤ 43))) else (some false)
set_option maxHeartbeats 8000000 in
set_option maxRecDepth 100000 in
theorem instr_Ends.calls (a0 : Int) (r : Bool) (w : World) (h : instr_Ends.f a0 = some r) :
  Calls Try.prog 72 #[.int .i64 a0] w fun e w' => e = .returned (.bool r) ∧ Drawn0 w w' := by
 have H : (if a0 ≥ 41 then (some (decide (a0 ≤ 43))) else (some false)) = some r := h
 clear h
 by_cases c2 : a0 ≥ 41
 ·rw [if_pos c2] at H
  have c2b0 : decide (41 ≤ a0) = true := decide_eq_true c2
  clear c2
  obtain rfl := Option.some.inj H
  go_enter Try.func72, Try.ntmps72
  go_wp2
  go_ret
  exact ⟨zQ, zD⟩
 ·rw [if_neg c2] at H
  have c2b0 : decide (41 ≤ a0) = false := decide_eq_false c2
  clear c2
  obtain rfl := Option.some.inj H
  go_enter Try.func72, Try.ntmps72
  go_wp2
  go_ret
  exact ⟨zQ, zD⟩
end Go.Proofs.Ytgbpkbfghonllaa.P

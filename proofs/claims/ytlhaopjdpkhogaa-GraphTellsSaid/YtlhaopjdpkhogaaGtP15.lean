/- A text of this claim, what is not used left out. -/
import Derived.Test.YtlhaopjdpkhogaaGtP0
import Derived.Test.YtlhaopjdpkhogaaGtP4
import Derived.Test.YtlhaopjdpkhogaaGtP13
import Derived.Test.YtlhaopjdpkhogaaGtP14
namespace Go.Proofs.Ytlhaopjdpkhogaa.P
open Go.RowKit Go.Proofs.YtlhaopjdpkhogaaW.PrintWords Go.Proofs.YtlhaopjdpkhogaaW.PrintLast Go.Proofs.YtlhaopjdpkhogaaW.PrintMore
attribute [local go_sem] max2_int min2_int max_two min_two max_three min_three max_four min_four   
set_option linter.unusedVariables false
set_option linter.unusedSimpArgs false
def slices_Reverse_int_int.l0 : Nat → List Int → Int → Int → Option (List Int)
 | 0, _, _, _ => none
 | k + 1, x0, x2, x3 => if x2 < x3 then (if 0 ≤ x3 then (if x3 < (x0.length : Int) then (if 0 ≤ x2 then (if x2 < (x0.length : Int) then (slices_Reverse_int_int.l0 k ((x0.set (x2 : Int).toNat (rd x0 x3)).set (x3 : Int).toNat (rd x0 x2)) (wrap64 (x2 + 1)) (wrap64 (x3 - 1))) else (none)) else (none)) else (none)) else (none)) else (some x0)
def slices_Reverse_int_int.f (k : Nat) (l0 : List Int) : Option (List Int) := slices_Reverse_int_int.l0 k l0 0 (wrap64 ((l0.length : Int) - 1))
theorem slices_Reverse_int_int.mono_l : ∀ k, (∀ y0 y1 y2, LeO (slices_Reverse_int_int.l0 k y0 y1 y2) (slices_Reverse_int_int.l0 (k + 1) y0 y1 y2))
 | 0 => fun _ _ _ r h => by simp [slices_Reverse_int_int.l0] at h
 | k + 1 => by
  have ih0 := slices_Reverse_int_int.mono_l k
  ·intro y0 y1 y2
   unfold slices_Reverse_int_int.l0
   repeat' first
   | (with_reducible exact ih0 _ _ _)
   | (with_reducible exact LeO.refl _)
   | (with_reducible exact LeO.none _)
   | (with_reducible refine LeO.ite ?_ ?_)
   | (with_reducible refine LeO.bind ?_ (fun _ => ?_))
   | exact ih0 _ _ _
   | exact LeO.none _
   | refine LeO.ite ?_ ?_
   | refine LeO.bind ?_ (fun _ => ?_)
theorem slices_Reverse_int_int.mono : ∀ a0 k, LeO (slices_Reverse_int_int.f k a0) (slices_Reverse_int_int.f (k + 1) a0) := by
 intro a0 k
 have ih0 := slices_Reverse_int_int.mono_l k
 unfold slices_Reverse_int_int.f
 repeat' first
   | (with_reducible exact ih0 _ _ _)
   | (with_reducible exact LeO.refl _)
   | (with_reducible exact LeO.none _)
   | (with_reducible refine LeO.ite ?_ ?_)
   | (with_reducible refine LeO.bind ?_ (fun _ => ?_))
   | exact ih0 _ _ _
   | exact LeO.none _
   | refine LeO.ite ?_ ?_
   | refine LeO.bind ?_ (fun _ => ?_)
def slices_Reverse_int_int.T3 : Bool × List (List Nat × List Nat) := (true, [([], []), ([], []), ([], []), ([], []), ([], []), ([], []), ([4, 5], [4, 5]), ([6], [6]), ([], []), ([], []), ([8, 9], [8, 9]), ([10], [10]), ([0, 1, 0, 1, 4, 5, 6, 7, 11], [0, 1]), ([12, 7, 0, 1, 4, 5, 6, 7, 11], [7, 12]), ([2, 3, 0, 1, 2, 3, 4, 5, 6, 7, 8, 9, 10, 11, 12, 13], [2, 3]), ([14, 11, 13, 0, 1, 2, 3, 4, 5, 6, 7, 8, 9, 10, 11, 12, 13], [11, 14])])
def slices_Reverse_int_int.B3 : List Nat := [0, 0, 0, 0, 0, 0, 48, 112, 0, 0, 768, 1792, 4083, 8179, 16383, 32767]
theorem slices_Reverse_int_int.tab3 : rtab .any (opsOf Try.f57 3) = slices_Reverse_int_int.T3 := by kernel_rfl
theorem slices_Reverse_int_int.bits3 : waitsOk slices_Reverse_int_int.T3.2 slices_Reverse_int_int.B3 = true := by kernel_rfl
set_option maxHeartbeats 8000000 in
set_option maxRecDepth 100000 in
theorem slices_Reverse_int_int.calls (k : Nat) (P0_ : Nat → Prop) (u9000_ : Value) (l0 : List Int) (r : List Int) (w0 w : World) (hB : Below w0.heap.size w0 w) (ho0 : Kd.R (Kd.int .i64) 3 w w0.heap.size P0_ u9000_ l0) (h : slices_Reverse_int_int.f k l0 = some r) :
  Calls Try.prog 57 #[u9000_] w fun e w' => e = .returned (.tuple #[]) ∧ Kd.R (Kd.int .i64) 3 w' w0.heap.size (fun k_ => (P0_ k_ ∨ w.heap.size ≤ k_)) u9000_ r ∧ Below w0.heap.size w0 w' ∧ Kept w w' (fun k_ => P0_ k_) := by
 have HO0 := Aside0.mk (show Kd.R (Kd.int .i64) 3 w w0.heap.size (fun k_ => (P0_ k_ ∨ w.heap.size ≤ k_)) u9000_ l0 from Kd.R_mono ho0 (fun k_ hk => (.inl hk)))
 have HK := Aside0.mk (Kept.refl w (fun k_ => P0_ k_))
 have HW0 := Aside0.mk hB.size
 have HB := Aside0.mk hB
 clear hB
 have H : (slices_Reverse_int_int.l0 k l0 0 (wrap64 ((l0.length : Int) - 1))) = some r := h
 clear h
 have H' := Aside0.mk H
 clear H
 obtain ⟨Ao2, co2, eo2⟩ := Kd.R_slice HO0.out
 subst eo2
 go_enter Try.func57, Try.ntmps57
 go_wp2
 go_loopg [2, 3] k (fun kq v2 v3 w' => ∃ (x0_1 : List Int) (x2_1 : Int) (x3_1 : Int), v2 = .int .i64 x2_1 ∧ v3 = .int .i64 x3_1 ∧ Aside0 (slices_Reverse_int_int.l0 kq x0_1 x2_1 x3_1 = some r) ∧ Aside0 (kq ≤ k) ∧ Aside0 (Kd.R (Kd.int .i64) 3 w' w0.heap.size (fun k_ => (P0_ k_ ∨ w.heap.size ≤ k_)) (.slice Ao2 l0.length co2) x0_1) ∧ Aside0 (Kept w w' (fun k_ => P0_ k_)) ∧ Aside0 (Below w0.heap.size w0 w'))
 case atStart => exact ⟨(l0), (0), (wrap64 ((l0.length : Int) - 1)), (by first | rfl | (simp; done) | (simp [*]; done)), (by first | rfl | (simp; done) | (simp [*]; done)), H', ⟨Nat.le_refl _⟩, ⟨zR HO0.out⟩, ⟨by repeat (first | (with_reducible first | exact HK.out | apply Kept.alloc | apply Kept.drewN | apply Kept.drew) | exact HK.out)⟩, ⟨zB⟩⟩
 case round =>
  clear H'
  try clear p2
  obtain ⟨x0_1, x2_1, x3_1, rfl, rfl, HA, HK1, HO_0, HK, HB⟩ := hrel
  have hl0_1 := (Kd.R_reads' HO_0.out).1
  rw [hl0_1] at HO_0
  (try simp only [hl0_1])
  cases gk with
  | zero => exact absurd HA.out (by simp [slices_Reverse_int_int.l0])
  | succ k1 =>
   have H := HA.out
   clear HA
   simp only [slices_Reverse_int_int.l0] at H
   by_cases c3 : x2_1 < x3_1
   ·rw [if_pos c3] at H
    have c3b0 : decide (x2_1 < x3_1) = true := decide_eq_true c3
    (try (have c3b0h := c3b0; simp only [hl0_1] at c3b0h))
    clear c3
    by_cases c4 : 0 ≤ x3_1
    ·rw [if_pos c4] at H
     have c4b0 : decide (0 ≤ x3_1) = true := decide_eq_true c4
     (try (have c4b0h := c4b0; simp only [hl0_1] at c4b0h))
     clear c4
     by_cases c5 : x3_1 < (x0_1.length : Int)
     ·rw [if_pos c5] at H
      have c5b0 : decide (x3_1 < (x0_1.length : Int)) = true := decide_eq_true c5
      (try (have c5b0h := c5b0; simp only [hl0_1] at c5b0h))
      clear c5
      by_cases c6 : 0 ≤ x2_1
      ·rw [if_pos c6] at H
       have c6b0 : decide (0 ≤ x2_1) = true := decide_eq_true c6
       (try (have c6b0h := c6b0; simp only [hl0_1] at c6b0h))
       clear c6
       by_cases c7 : x2_1 < (x0_1.length : Int)
       ·rw [if_pos c7] at H
        have c7b0 : decide (x2_1 < (x0_1.length : Int)) = true := decide_eq_true c7
        (try (have c7b0h := c7b0; simp only [hl0_1] at c7b0h))
        clear c7
        obtain ⟨y283, hy283⟩ : ∃ y_ : List Int, y_ = (x0_1.set (x2_1 : Int).toNat (rd x0_1 x3_1)) := ⟨_, rfl⟩
        replace H : (slices_Reverse_int_int.l0 k1 (y283.set (x3_1 : Int).toNat (rd x0_1 x2_1)) (wrap64 (x2_1 + 1)) (wrap64 (x3_1 - 1))) = some r := by first | (rw [hy283]; with_reducible exact H) | (have H2_ := (Option.bind_some _ _).symm.trans H; rw [hy283]; with_reducible exact H2_) | (have H2_ := (Option.bind_some _ _).symm.trans H; with_reducible exact H2_) | with_reducible exact H | (rw [hy283]; exact H) | exact H
        have Ny283 := Aside0.mk hy283
        clear hy283
        obtain ⟨y284, hy284⟩ : ∃ y_ : List Int, y_ = (y283.set (x3_1 : Int).toNat (rd x0_1 x2_1)) := ⟨_, rfl⟩
        replace H : (slices_Reverse_int_int.l0 k1 y284 (wrap64 (x2_1 + 1)) (wrap64 (x3_1 - 1))) = some r := by first | (rw [hy284]; with_reducible exact H) | (have H2_ := (Option.bind_some _ _).symm.trans H; rw [hy284]; with_reducible exact H2_) | (have H2_ := (Option.bind_some _ _).symm.trans H; with_reducible exact H2_) | with_reducible exact H | (rw [hy284]; exact H) | exact H
        have Ny284 := Aside0.mk hy284
        clear hy284
        have H' := Aside0.mk H
        clear H
        try go_wp2
        have n0_ := Aside0.mk (Kd.R_drew HO_0.out)
        have n1_ := Aside0.mk (Kept.drew HK.out)
        have n2_ := Aside0.mk (below_drew1 HB.out)
        clear HO_0
        clear HK
        clear HB
        have HO_0 := n0_
        have HK := n1_
        have HB := n2_
        clear n0_ n1_ n2_
        have p281 : 0 ≤ (x3_1 : Int) := of_decide_eq_true (by first | (with_reducible assumption) | assumption)
        have q281 : x3_1 < (x0_1.length : Int) := of_decide_eq_true (by first | (with_reducible assumption) | assumption)
        obtain ⟨ad281, e281, hx281_0⟩ := Kd.at_int (Kd.R_reads' HO_0.out).2.2 x3_1 p281 q281
        cases e281
        replace p281 := eq_true p281
        replace q281 := eq_true q281
        have p282 : 0 ≤ (x2_1 : Int) := of_decide_eq_true (by first | (with_reducible assumption) | assumption)
        have q282 : x2_1 < (x0_1.length : Int) := of_decide_eq_true (by first | (with_reducible assumption) | assumption)
        obtain ⟨ad282, e282, hx282_0⟩ := Kd.at_int (Kd.R_reads' HO_0.out).2.2 x2_1 p282 q282
        obtain rfl : ad281 = ad282 := (by injection e282)
        replace p282 := eq_true p282
        replace q282 := eq_true q282
        have p8 : 0 ≤ (x2_1 : Int) := of_decide_eq_true (by first | (with_reducible assumption) | assumption)
        have q8 : (x2_1 : Int) < ((x0_1.length : Int) : Int) := of_decide_eq_true (by first | (with_reducible assumption) | assumption)
        obtain ⟨go8, co8, eo8, gb8, gl8, cl8, HG8⟩ := Kd.R_form HO_0.out (by omega)
        (first | cases eo8 | (injection eo8 with ea_ en_ ec_; (first | subst ea_ | (injection ea_ with ea_; subst ea_)); subst ec_; clear en_))
        have GB8 := Aside0.mk gb8
        have GG8 := Aside0.mk HG8
        clear gb8 gl8 HG8
        have HMgo8 := Aside0.mk (show (P0_ go8 ∨ w.heap.size ≤ go8) from (HO_0.out.1 _ rfl))
        (first | simp only [add_plain] at hx281_0 | skip)
        (first | simp only [add_plain] at hx282_0 | skip)
        obtain ⟨hx8_0, hf8_0⟩ := Kd.R_celln 0 HO_0.out (x2_1 : Int) p8 q8
        replace p8 := eq_true p8
        replace q8 := eq_true q8
        have HP11 := Kd.R_putn HO_0.out (x2_1 : Int) (rd x0_1 x3_1)
        rw [← Ny283.out] at HP11
        have HQ11 := Aside0.mk HP11
        clear HP11
        have p9 : 0 ≤ (x3_1 : Int) := of_decide_eq_true (by first | (with_reducible assumption) | assumption)
        have q9 : (x3_1 : Int) < ((x0_1.length : Int) : Int) := of_decide_eq_true (by first | (with_reducible assumption) | assumption)
        obtain ⟨hx9_0, hf9_0⟩ := Kd.R_celln 0 HQ11.out (x3_1 : Int) p9 q9
        replace p9 := eq_true p9
        replace q9 := eq_true q9
        have HP12 := Kd.R_putn HQ11.out (x3_1 : Int) (rd x0_1 x2_1)
        rw [← Ny284.out] at HP12
        have HQ12 := Aside0.mk HP12
        clear HP12
        refine start_ (n := 16) (S := fun w' => w'.cell? ⟨go8, (x3_1).toNat, none⟩ = some (.int .i64 (rd x0_1 x3_1)) ∧ w'.cell? ⟨go8, (x2_1).toNat, none⟩ = some (.int .i64 (rd x0_1 x2_1))) (ds := [13, 15]) #[false, false, false, false, false, false, false, false, false, false, false, false, false, false, false, false] (by kernel_rfl) rfl rfl ⟨hx281_0, hx282_0⟩ (fun hHeld => ?_); refine with_tabW slices_Reverse_int_int.tab3 slices_Reverse_int_int.bits3 (fun HT_ HW_ => ?_)
        generalize wr.drew = w10 at HO_0 HK HB GG8 HQ11 HQ12 hf8_0 hf9_0 hx281_0 hx282_0 hx8_0 hx9_0 hHeld ⊢
        refine pure_ (i := 0) (N := some 14) (v := ?_) (a' := ?_) #[true, false, false, false, false, false, false, false, false, false, false, false, false, false, false, false] rfl rfl (any_of HT_.out (by kernel_rfl)) (fun _ _ _ h => h) (Or.inl ⟨by rfl, ?_⟩) ?_ ?_
        rotate_left
        ·intro w'
         go_simp
         with_reducible rfl
        rotate_left
        ·simp only [Act.put, List.setIfInBounds_toArray, List.set_cons_zero, List.set_cons_succ, i64_w, i32_w]
         rfl
        refine pure_ (i := 1) (N := some 15) (v := ?_) (a' := ?_) #[true, true, false, false, false, false, false, false, false, false, false, false, false, false, false, false] rfl rfl (any_of HT_.out (by kernel_rfl)) (fun _ _ _ h => h) (Or.inl ⟨by rfl, ?_⟩) ?_ ?_
        rotate_left
        ·intro w'
         go_simp
         with_reducible rfl
        rotate_left
        ·simp only [Act.put, List.setIfInBounds_toArray, List.set_cons_zero, List.set_cons_succ, i64_w, i32_w]
         rfl
        refine pure_ (i := 2) (N := some 16) (v := ?_) (a' := ?_) #[true, true, true, false, false, false, false, false, false, false, false, false, false, false, false, false] rfl rfl (any_of HT_.out (by kernel_rfl)) (fun _ _ _ h => h) (Or.inl ⟨by rfl, ?_⟩) ?_ ?_
        rotate_left
        ·intro w'
         go_simp
         with_reducible rfl
        rotate_left
        ·simp only [Act.put, List.setIfInBounds_toArray, List.set_cons_zero, List.set_cons_succ, i64_w, i32_w]
         rfl
        refine pure_ (i := 3) (N := some 17) (v := ?_) (a' := ?_) #[true, true, true, true, false, false, false, false, false, false, false, false, false, false, false, false] rfl rfl (any_of HT_.out (by kernel_rfl)) (fun _ _ _ h => h) (Or.inl ⟨by rfl, ?_⟩) ?_ ?_
        rotate_left
        ·intro w'
         go_simp
         with_reducible rfl
        rotate_left
        ·simp only [Act.put, List.setIfInBounds_toArray, List.set_cons_zero, List.set_cons_succ, i64_w, i32_w]
         rfl
        refine pure_ (i := 4) (N := some 18) (v := ?_) (a' := ?_) #[true, true, true, true, true, false, false, false, false, false, false, false, false, false, false, false] rfl rfl (any_of HT_.out (by kernel_rfl)) (fun _ _ _ h => h) (Or.inl ⟨by rfl, ?_⟩) ?_ ?_
        rotate_left
        ·intro w'
         go_simp
         with_reducible rfl
        rotate_left
        ·simp only [Act.put, List.setIfInBounds_toArray, List.set_cons_zero, List.set_cons_succ, i64_w, i32_w]
         rfl
        refine pure_ (i := 5) (N := some 19) (v := ?_) (a' := ?_) #[true, true, true, true, true, true, false, false, false, false, false, false, false, false, false, false] rfl rfl (any_of HT_.out (by kernel_rfl)) (fun _ _ _ h => h) (Or.inl ⟨by rfl, ?_⟩) ?_ ?_
        rotate_left
        ·intro w'
         go_simp
         with_reducible rfl
        rotate_left
        ·simp only [Act.put, List.setIfInBounds_toArray, List.set_cons_zero, List.set_cons_succ, i64_w, i32_w]
         rfl
        refine pure_ (i := 6) (N := some 20) (v := ?_) (a' := ?_) #[true, true, true, true, true, true, true, false, false, false, false, false, false, false, false, false] rfl rfl (any_of HT_.out (by kernel_rfl)) (fun _ _ _ h => h) (Or.inl ⟨by rfl, ?_⟩) ?_ ?_
        rotate_left
        ·intro w'
         go_simp
         with_reducible rfl
        rotate_left
        ·simp only [Act.put, List.setIfInBounds_toArray, List.set_cons_zero, List.set_cons_succ, i64_w, i32_w]
         rfl
        refine pure_ (i := 8) (N := some 22) (v := ?_) (a' := ?_) #[true, true, true, true, true, true, true, false, true, false, false, false, false, false, false, false] rfl rfl (any_of HT_.out (by kernel_rfl)) (fun _ _ _ h => h) (Or.inl ⟨by rfl, ?_⟩) ?_ ?_
        rotate_left
        ·intro w'
         go_simp
         with_reducible rfl
        rotate_left
        ·simp only [Act.put, List.setIfInBounds_toArray, List.set_cons_zero, List.set_cons_succ, i64_w, i32_w]
         rfl
        refine pure_ (i := 9) (N := some 23) (v := ?_) (a' := ?_) #[true, true, true, true, true, true, true, false, true, true, false, false, false, false, false, false] rfl rfl (any_of HT_.out (by kernel_rfl)) (fun _ _ _ h => h) (Or.inl ⟨by rfl, ?_⟩) ?_ ?_
        rotate_left
        ·intro w'
         go_simp
         with_reducible rfl
        rotate_left
        ·simp only [Act.put, List.setIfInBounds_toArray, List.set_cons_zero, List.set_cons_succ, i64_w, i32_w]
         rfl
        refine pure_ (i := 10) (N := some 24) (v := ?_) (a' := ?_) #[true, true, true, true, true, true, true, false, true, true, true, false, false, false, false, false] rfl rfl (any_of HT_.out (by kernel_rfl)) (fun _ _ _ h => h) (Or.inl ⟨by rfl, ?_⟩) ?_ ?_
        rotate_left
        ·intro w'
         go_simp
         with_reducible rfl
        rotate_left
        ·simp only [Act.put, List.setIfInBounds_toArray, List.set_cons_zero, List.set_cons_succ, i64_w, i32_w]
         rfl
        refine take_ (i := 7) (N := some 21) (v := ?_) (a' := ?_) #[true, true, true, true, true, true, true, true, true, true, true, false, false, false, false, false] rfl rfl (take_ofW HT_.out HW_.out (by kernel_rfl)) (fun _ _ _ h => h) (Or.inl ⟨by rfl, ?_⟩) hHeld ?_ ?_
        rotate_left
        ·rintro w' ⟨s0, s1⟩
         go_simp
         with_reducible rfl
        rotate_left
        ·simp only [Act.put, List.setIfInBounds_toArray, List.set_cons_zero, List.set_cons_succ, i64_w, i32_w]
         rfl
        refine take_ (i := 11) (N := some 25) (v := ?_) (a' := ?_) #[true, true, true, true, true, true, true, true, true, true, true, true, false, false, false, false] rfl rfl (take_ofW HT_.out HW_.out (by kernel_rfl)) (fun _ _ _ h => h) (Or.inl ⟨by rfl, ?_⟩) hHeld ?_ ?_
        rotate_left
        ·rintro w' ⟨s0, s1⟩
         go_simp
         with_reducible rfl
        rotate_left
        ·simp only [Act.put, List.setIfInBounds_toArray, List.set_cons_zero, List.set_cons_succ, i64_w, i32_w]
         rfl
        refine pure_ (i := 12) (N := some 26) (v := ?_) (a' := ?_) #[true, true, true, true, true, true, true, true, true, true, true, true, true, false, false, false] rfl rfl (any_of HT_.out (by kernel_rfl)) (fun _ _ _ h => h) (Or.inl ⟨by rfl, ?_⟩) ?_ ?_
        rotate_left
        ·intro w'
         go_simp
         with_reducible rfl
        rotate_left
        ·simp only [Act.put, List.setIfInBounds_toArray, List.set_cons_zero, List.set_cons_succ, i64_w, i32_w]
         rfl
        refine last_ (i := 13) (N := none) #[true, true, true, true, true, true, true, true, true, true, true, true, true, true, false, false] rfl rfl (one_of HT_.out (by kernel_rfl)) (by decide) (fun K hK => ?_)
        refine skip_ (w1 := ?_) (by rfl) rfl ?_ ?_
        rotate_left
        ·go_simp
         rfl
        refine hK.out _ _ ?_
        clear hK K
        refine pure_ (i := 14) (N := some 27) (v := ?_) (a' := ?_) #[true, true, true, true, true, true, true, true, true, true, true, true, true, true, true, false] rfl rfl (any_of HT_.out (by kernel_rfl)) (fun _ _ _ h => h) (Or.inl ⟨by rfl, ?_⟩) ?_ ?_
        rotate_left
        ·intro w'
         go_simp
         with_reducible rfl
        rotate_left
        ·simp only [Act.put, List.setIfInBounds_toArray, List.set_cons_zero, List.set_cons_succ, i64_w, i32_w]
         rfl
        refine last_ (i := 15) (N := none) #[true, true, true, true, true, true, true, true, true, true, true, true, true, true, true, true] rfl rfl (one_of HT_.out (by kernel_rfl)) (by decide) (fun K hK => ?_)
        refine skip_ (w1 := ?_) (by rfl) rfl ?_ ?_
        rotate_left
        ·go_simp
         rfl
        refine hK.out _ _ ?_
        clear hK K
        refine done_ (done_of HT_.out (by kernel_rfl)) ?_
        try go_wp2
        (try simp only [← hl0_1])
        go_roundg k1
        case measure => have := HK1.out; omega
        case rel => exact ⟨(y284), (wrap64 (x2_1 + 1)), (wrap64 (x3_1 - 1)), (by first | rfl | (simp; done) | (simp [*]; done)), (by first | rfl | (simp; done) | (simp [*]; done)), H', ⟨by have := HK1.out; omega⟩, ⟨by (try simp only [hl0_1]); (with_reducible repeat (first | apply Kd.R_alloc | apply Kd.R_drewN | apply Kd.R_drew)); exact HQ12.out⟩, ⟨by repeat (first | (with_reducible first | exact HK.out | apply Kept.alloc | apply Kept.drewN | apply Kept.drew | refine Kept.setCell ?_ HMgo8.out _ | refine Kept.setCell ?_ HMgo8.out _) | exact HK.out)⟩, ⟨by repeat (first | (with_reducible first | exact HB.out | apply below_alloc | apply pw_below_drewN | apply below_drew1 | refine below_set ?_ GB8.out | refine below_set ?_ GB8.out) | exact HB.out)⟩⟩
       ·rw [if_neg c7] at H
        exact absurd H (by simp)
      ·rw [if_neg c6] at H
       exact absurd H (by simp)
     ·rw [if_neg c5] at H
      exact absurd H (by simp)
    ·rw [if_neg c4] at H
     exact absurd H (by simp)
   ·rw [if_neg c3] at H
    have c3b0 : decide (x2_1 < x3_1) = false := decide_eq_false c3
    (try (have c3b0h := c3b0; simp only [hl0_1] at c3b0h))
    clear c3
    obtain rfl := Option.some.inj H
    go_wp2
    first | go_end0 | ((try simp only [Exit.inBlock, Exit.then]); refine bodyPost_ret (results_none rfl _ _ _) rfl ?_)
    exact ⟨by first | rfl | (simp [errW_none, errW_some] <;> rfl) | (simp [*, errW_none, errW_some] <;> rfl), (by first | exact (zR HO_0.out) | (simp only [hl0_1]; exact (zR HO_0.out))), zB, by repeat (first | (with_reducible first | exact HK.out | apply Kept.alloc | apply Kept.drewN | apply Kept.drew) | exact HK.out)⟩
def GtJ (Bo N : Nat) (l : List Int) (W : World) : Prop := (∃ v, W.heap[Bo]? = some (.cells #[v] 22 (0, 0)) ∧ W.ownsRow N 3 1 v l.length (l.map (Value.int .i64))) ∧ N ≤ W.heap.size + 6 ∧ (l ≠ [] → N ≤ W.heap.size)
theorem gt_info3 : (Try.prog.info? 3).map (fun i => (i.zero, i.size, i.bytes)) = some (some (.int .i64 0), 1, 8) := by kernel_rfl
set_option maxHeartbeats 4000000 in
theorem gt_leftO (n0 Bo g N : Nat) (w0 Wc : World) (hBo : n0 ≤ Bo) (hBs : Bo < Wc.heap.size) (hgB : g ≠ Bo) (hN : Wc.heap.size = N) (hnN : n0 ≤ N) (hgN : g < N) (l : List Int) (k : Int) (W : World) (hl : l.length + 1 ≤ 1099511627776) (hI : GtInv n0 w0 Wc g Bo W) (hJ : GtJ Bo N l W) :
  Calls Try.prog 56 #[.int .i64 k, .pointer (some ⟨Bo, 0, none⟩)] W fun e W' => e = .returned (.tuple #[]) ∧ GtInv n0 w0 Wc g Bo W' ∧ W'.heap[g]? = W.heap[g]? ∧ GtJ Bo N (l ++ [k]) W' := by
 obtain ⟨i0, hi, hz0, hz1, hz2⟩ := info_parts gt_info3
 obtain ⟨⟨v, hv, hrow⟩, _, _⟩ := hJ
 have hNW : N ≤ W.heap.size := by rw [← hN]; exact hI.2.1
 have hne := own_ne hrow hv (by decide)
 have c0 : W.cell? ⟨Bo, 0, none⟩ = some v := blk_cell hv 0
 have HI := Aside0.mk hI
 have HV := Aside0.mk hv
 have HR := Aside0.mk hrow
 have HNW := Aside0.mk hNW
 have HN := Aside0.mk hN
 have HNE := Aside0.mk hne
 clear hI hv hrow hNW hN hne
 go_enter Try.func56, Try.ntmps56
 go_wp2_with (at_builtin; refine wpList_append_own _ rfl _ _ 22 rfl N 3 i0 (.int .i64 0) 1 8 Try.underlying22 hi hz0 hz1 hz2 rfl (by decide) _ _ _ rfl (HR.out.alloc _) ⟨W.heap.size, 0, none⟩ 1 1 [.int .i64 k] rfl rfl (cell_one_new _ _ _) (by simp [Value.oneCell']) (by unfold maxLen; omega) (by omega) (by simp; have := HNW.out; omega) ?_; intro v' w1 hown' hgrow _; obtain ⟨g', cap', rfl⟩ := ownsRow_succ hown'; have hb1 := blk_grown (blk_alloc HV.out (.cells #[.int .i64 k] 3)) hgrow HNE.out; have hc1 : w1.cell? ⟨Bo, 0, none⟩ = some v := blk_cell hb1 0; have hf1 : w1.frozen? ⟨Bo, 0, none⟩ = false := blk_frozen hb1 0; have HO := Aside0.mk hown'; have HG := Aside0.mk hgrow; have HB1 := Aside0.mk hb1; clear hown' hgrow hb1)
 go_end0
 have hrow := HR.out
 have hrb : ∀ j, v.ownBlock = some j → N ≤ j := fun j hj => own_base hrow j hj
 have hs1 : W.heap.size + 1 ≤ w1.heap.size := by have := HG.out.size; simpa using this
 have hsame : ∀ j, j < W.heap.size → j < N → j ≠ Bo → (w1.setCell ⟨Bo, 0, none⟩ (.slice (some ⟨g', 0, none⟩) (l.length + 1) cap')).heap[j]? = W.heap[j]? := fun j h1 h2 h3 => by
  rw [Below.heap_setCell _ _ _ j h3, HG.out.block j (by simp; omega) (fun e => by have := hrb j e.symm; omega)]
  exact Below.heap_alloc W _ j h1
 refine ⟨rfl, ⟨?_, ?_, fun j hj hS => ?_⟩, hsame g (by have := HNW.out; omega) hgN hgB, ⟨⟨.slice (some ⟨g', 0, none⟩) (l.length + 1) cap', ?_, ?_⟩, ?_, fun _ => ?_⟩⟩
 ·refine ((HI.out.1.trans (((Below.refl n0 W).alloc (by have := HNW.out; omega) _).grown HG.out (by simp; have := HNW.out; omega) (fun j e => by have := hrb j e; omega)))).setCell (p := ⟨Bo, 0, none⟩) hBo _
 ·have := HI.out.2.1; simp; omega
 ·have hW : W.heap.size ≥ Wc.heap.size := HI.out.2.1
  rw [hsame j (by omega) (by have := HN.out; omega) (fun e => hS (.inr e))]
  exact HI.out.2.2 j hj hS
 ·exact blk_set HB1.out 0 (.slice (some ⟨g', 0, none⟩) (l.length + 1) cap')
 ·have := own_setCell HO.out (p := ⟨Bo, 0, none⟩) (own_ne HO.out HB1.out (by decide)) (.slice (some ⟨g', 0, none⟩) (l.length + 1) cap')
  simpa using this
 ·simp; have := HNW.out; omega
 ·simp; have := HNW.out; omega
def graph_Order.f (k : Nat) (a0_0 : ByteArray) (a0_1 : Int) (a0_2 : Int) (l0_3 : List Int) (l0_4 : List (List (S24))) : Option (List Int) := (graph_Succs.f k a0_0 a0_1 a0_2 l0_3 l0_4).bind fun s => (if gtOk s = true then (slices_Reverse_int_int.f k (gtAll s (-1)).2) else none)
theorem graph_Order.mono : ∀ a0 a1 a2 a3 a4 k, LeO (graph_Order.f k a0 a1 a2 a3 a4) (graph_Order.f (k + 1) a0 a1 a2 a3 a4) := by
 intro a0 a1 a2 a3 a4 k
 unfold graph_Order.f
 exact LeO.bind (graph_Succs.mono _ _ _ _ _ _) (fun _ => LeO.ite (slices_Reverse_int_int.mono _ _) (LeO.refl _))
theorem GtJ.alloc {Bo N : Nat} {l : List Int} {W : World} (h : GtJ Bo N l W) (o : Obj) : GtJ Bo N l (W.alloc o) := by
 obtain ⟨⟨v, hv, hr⟩, h1, h2⟩ := h
 exact ⟨⟨v, blk_alloc hv o, hr.alloc o⟩, by rw [World.size_alloc]; omega, fun hl => by rw [World.size_alloc]; have := h2 hl; omega⟩
theorem GtJ.set {Bo N g : Nat} {l : List Int} {W : World} {seen : List Bool} (h : GtJ Bo N l W) (hg : GtAt g seen W) (hne : Bo ≠ g) (i : Nat) (b : Bool) : GtJ Bo N l (W.setCell ⟨g, i, none⟩ (.bool b)) := by
 obtain ⟨⟨v, hv, hr⟩, h1, h2⟩ := h
 exact ⟨⟨v, blk_far hv (p := ⟨g, i, none⟩) hne _, own_setCell hr (p := ⟨g, i, none⟩) (own_ne hr hg (by decide)) _⟩, by simpa using h1, fun hl => by simpa using h2 hl⟩
set_option maxHeartbeats 8000000 in
set_option maxRecDepth 100000 in
theorem graph_Order.calls (k : Nat) (a0_0 : ByteArray) (a0_1 : Int) (a0_2 : Int) (A0_3 : Option Addr) (c0_3 : Nat) (l0_3 : List Int) (A0_4 : Option Addr) (c0_4 : Nat) (l0_4 : List (List (S24))) (r : List Int) (w : World) (hr0_3 : Kd.C (Kd.int .i64) w A0_3 l0_3.length l0_3) (hc0_3 : l0_3.length ≤ c0_3) (hr0_4 : Kd.C (Kd.slice 24 k24) w A0_4 l0_4.length l0_4) (hc0_4 : l0_4.length ≤ c0_4) (h : graph_Order.f k a0_0 a0_1 a0_2 l0_3 l0_4 = some r) :
  Calls Try.prog 37 #[.agg #[.string a0_0, .int .i64 a0_1, .int .i64 a0_2, .slice A0_3 l0_3.length c0_3, .slice A0_4 l0_4.length c0_4]] w fun e w' => ∃ v0_ : Value, e = .returned (v0_) ∧ Kd.R (Kd.int .i64) 3 w' w.heap.size (fun _ => True) v0_ r ∧ Below w.heap.size w w' := by
 have hu35 := Try.underlying35
 unfold graph_Order.f at h
 obtain ⟨s, hs, h⟩ := Option.bind_eq_some_iff.mp h
 by_cases hok : gtOk s = true
 rotate_left
 ·rw [if_neg hok] at h; cases h
 rw [if_pos hok] at h
 obtain ⟨hls, hval⟩ := gtOk_out hok
 have hb0 := below_alloc (below_alloc (Below.refl w.heap.size w) (.cells #[.string a0_0, .int .i64 a0_1, .int .i64 a0_2, .slice A0_3 l0_3.length c0_3, .slice A0_4 l0_4.length c0_4] 35)) (.cells #[.slice none 0 0] 22)
 have bo := blk_new (w.alloc (.cells #[.string a0_0, .int .i64 a0_1, .int .i64 a0_2, .slice A0_3 l0_3.length c0_3, .slice A0_4 l0_4.length c0_4] 35)) (.cells #[.slice none 0 0] 22)
 rw [World.size_alloc] at bo
 have HR3 := Aside0.mk (Kd.C_below hr0_3 hb0)
 have HR4 := Aside0.mk (Kd.C_below hr0_4 hb0)
 have HC3 := Aside0.mk (hc0_3)
 have HC4 := Aside0.mk (hc0_4)
 have HB := Aside0.mk (hb0)
 have HS := Aside0.mk (hs)
 have HLS := Aside0.mk (hls)
 have HVAL := Aside0.mk (hval)
 have BO := Aside0.mk (bo)
 have HRV := Aside0.mk (h)
 have HZ0 : Aside0 (((w.alloc (.cells #[.string a0_0, .int .i64 a0_1, .int .i64 a0_2, .slice A0_3 l0_3.length c0_3, .slice A0_4 l0_4.length c0_4] 35)).alloc (.cells #[.slice none 0 0] 22)).heap.size = w.heap.size + 1 + 1) := ⟨by simp⟩
 clear hr0_3 hr0_4 hc0_3 hc0_4 hb0 hs hls hval hok h bo
 go_enter Try.func37, Try.ntmps37
 go_wp2_with (first | (go_at_call 31; ((with_reducible refine (graph_Succs.calls k a0_0 a0_1 a0_2 A0_3 c0_3 l0_3 A0_4 c0_4 l0_4 s _ HR3.out HC3.out HR4.out HC4.out HS.out).mono ?_); rintro e w' ⟨v_, rfl, hS_, hb⟩; obtain ⟨As, cs, rfl⟩ := Kd.S_slice hS_; have HSS := Aside0.mk hS_; have HB2 := Aside0.mk (below_step HB.out hb); have HB3 := Aside0.mk hb; have HBO := Aside0.mk (blk_below BO.out hb); have HZ1 : Aside0 (w.heap.size + 1 + 1 ≤ w'.heap.size) := ⟨by have := hb.size; have := HZ0.out; omega⟩; clear hS_ hb)))
 have hth := gt_through_o s (-1) w.heap.size w w' (w.heap.size + 1) As cs (GtJ (w.heap.size + 1) (w'.heap.size + 6)) HVAL.out HLS.out HB2.out HB2.out.size (by have := HZ1.out; omega) (Kd.F_mono (gt_F_of_S HSS.out) (fun k_ hk_ => by have := hk_.2.1; have := HZ0.out; omega)) ⟨⟨_, HBO.out, World.ownsRow_nil _ _ _ _⟩, Nat.le_refl _, fun hl => absurd rfl hl⟩ (fun l W o hj => hj.alloc o) (fun l W g i b seen hg hG hj => hj.set hG (by have := HZ1.out; omega) i b) (fun Wc g hg hgW hz l k_ W hl hI hJ => gt_leftO w.heap.size (w.heap.size + 1) g (w'.heap.size + 6) w Wc (by omega) (by have := HZ1.out; omega) (by have := HZ1.out; omega) hz (by have := HZ1.out; omega) (by omega) l k_ W (by have := HLS.out; omega) hI hJ)
 refine hth.mono ?_
 rintro e w2 ⟨g, rfl, hG, hJ, hg, hB5⟩
 obtain ⟨⟨v, hv, hrow⟩, _, _⟩ := hJ
 have c9 : w2.cell? ⟨w.heap.size + 1, 0, none⟩ = some v := blk_cell hv 0
 have HV := Aside0.mk hv
 have HROW := Aside0.mk hrow
 have HB5 := Aside0.mk hB5
 clear hG hg hB5 hv hrow
 clear hth
 go_wp2_with (fail)
 have hown : Kd.R (Kd.int .i64) 3 w2 w.heap.size (fun k_ => v.ownBlock = some k_) v (gtAll s (-1)).2 := Kd.R_of_own (by simpa [encs] using own_weaken HROW.out (show w.heap.size ≤ w'.heap.size + 6 by have := HZ1.out; omega)) (fun k_ hk_ => hk_)
 have hrv := slices_Reverse_int_int.calls k (fun k_ => v.ownBlock = some k_) v _ r w w2 HB5.out hown HRV.out
 refine hrv.mono ?_
 rintro e w3 ⟨rfl, hR, hb, hk⟩
 have c8 : w3.cell? ⟨w.heap.size + 1, 0, none⟩ = some v := blk_cell (blk_kept HV.out hk (fun e => own_ne HROW.out HV.out (by decide) e.symm)) 0
 have HRR := Aside0.mk hR
 have HB6 := Aside0.mk hb
 clear hR hb hk hrv hown
 go_wp2
 go_ret
 exact ⟨_, rfl, Kd.R_mono HRR.out (fun _ _ => trivial), HB6.out⟩
def balustradelaw17_three.f  : Option (ByteArray × Int × Int × List Int × (List (List (S24)))) := some ((⟨#[]⟩ : ByteArray), 0, 0, ([] : List Int), (([(([(⟨42, 0, 0, 0, 0, 2, 1, 0, ([] : List Int)⟩ : S24)] : List (S24))), (([(⟨43, 0, 0, 0, 0, 0, 0, 0, ([] : List Int)⟩ : S24)] : List (S24))), (([(⟨41, 0, 0, 0, 0, 1, 0, 0, ([] : List Int)⟩ : S24)] : List (S24)))] : List (List (S24)))))
set_option maxHeartbeats 8000000 in
set_option maxRecDepth 100000 in
theorem balustradelaw17_three.calls  (r1 : ByteArray) (r2 : Int) (r3 : Int) (r4 : List Int) (r5 : List (List (S24))) (w : World) (h : balustradelaw17_three.f  = some (r1, r2, r3, r4, r5)) :
  Calls Try.prog 53 #[] w fun e w' => ∃ v3_ v4_ : Value, e = .returned (.agg #[.string r1, .int .i64 r2, .int .i64 r3, v3_, v4_]) ∧ Kd.R (Kd.int .i64) 3 w' w.heap.size (fun k_ => (w.heap.size ≤ k_)) v3_ r4 ∧ Kd.N (Kd.slice 24 k24) 61 w' w.heap.size (fun k_ => (w.heap.size ≤ k_) ∧ some k_ ≠ (v3_ : Value).ownBlock) v4_ r5 ∧ Below w.heap.size w w' := by
 have hu35 := Try.underlying35
 have hu24 := Try.underlying24
 have HB := Aside0.mk (Below.refl w.heap.size w)
 have H : (some ((⟨#[]⟩ : ByteArray), 0, 0, ([] : List Int), (([(([(⟨42, 0, 0, 0, 0, 2, 1, 0, ([] : List Int)⟩ : S24)] : List (S24))), (([(⟨43, 0, 0, 0, 0, 0, 0, 0, ([] : List Int)⟩ : S24)] : List (S24))), (([(⟨41, 0, 0, 0, 0, 1, 0, 0, ([] : List Int)⟩ : S24)] : List (S24)))] : List (List (S24)))))) = some (r1, r2, r3, r4, r5) := h
 clear h
 obtain ⟨y286, hy286⟩ : ∃ y_ : List (S24), y_ = (([(⟨42, 0, 0, 0, 0, 2, 1, 0, ([] : List Int)⟩ : S24)] : List (S24))) := ⟨_, rfl⟩
 replace H : (some ((⟨#[]⟩ : ByteArray), 0, 0, ([] : List Int), (([y286, (([(⟨43, 0, 0, 0, 0, 0, 0, 0, ([] : List Int)⟩ : S24)] : List (S24))), (([(⟨41, 0, 0, 0, 0, 1, 0, 0, ([] : List Int)⟩ : S24)] : List (S24)))] : List (List (S24)))))) = some (r1, r2, r3, r4, r5) := by first | (rw [hy286]; with_reducible exact H) | (have H2_ := (Option.bind_some _ _).symm.trans H; rw [hy286]; with_reducible exact H2_) | (have H2_ := (Option.bind_some _ _).symm.trans H; with_reducible exact H2_) | with_reducible exact H | (rw [hy286]; exact H) | exact H
 have Ny286 := Aside0.mk hy286
 clear hy286
 obtain ⟨y289, hy289⟩ : ∃ y_ : List (S24), y_ = (([(⟨43, 0, 0, 0, 0, 0, 0, 0, ([] : List Int)⟩ : S24)] : List (S24))) := ⟨_, rfl⟩
 replace H : (some ((⟨#[]⟩ : ByteArray), 0, 0, ([] : List Int), (([y286, y289, (([(⟨41, 0, 0, 0, 0, 1, 0, 0, ([] : List Int)⟩ : S24)] : List (S24)))] : List (List (S24)))))) = some (r1, r2, r3, r4, r5) := by first | (rw [hy289]; with_reducible exact H) | (have H2_ := (Option.bind_some _ _).symm.trans H; rw [hy289]; with_reducible exact H2_) | (have H2_ := (Option.bind_some _ _).symm.trans H; with_reducible exact H2_) | with_reducible exact H | (rw [hy289]; exact H) | exact H
 have Ny289 := Aside0.mk hy289
 clear hy289
 obtain ⟨y292, hy292⟩ : ∃ y_ : List (S24), y_ = (([(⟨41, 0, 0, 0, 0, 1, 0, 0, ([] : List Int)⟩ : S24)] : List (S24))) := ⟨_, rfl⟩
 replace H : (some ((⟨#[]⟩ : ByteArray), 0, 0, ([] : List Int), (([y286, y289, y292] : List (List (S24)))))) = some (r1, r2, r3, r4, r5) := by first | (rw [hy292]; with_reducible exact H) | (have H2_ := (Option.bind_some _ _).symm.trans H; rw [hy292]; with_reducible exact H2_) | (have H2_ := (Option.bind_some _ _).symm.trans H; with_reducible exact H2_) | with_reducible exact H | (rw [hy292]; exact H) | exact H
 have Ny292 := Aside0.mk hy292
 clear hy292
 obtain ⟨y295, hy295⟩ : ∃ y_ : List (List (S24)), y_ = (([y286, y289, y292] : List (List (S24)))) := ⟨_, rfl⟩
 replace H : (some ((⟨#[]⟩ : ByteArray), 0, 0, ([] : List Int), y295)) = some (r1, r2, r3, r4, r5) := by first | (rw [hy295]; with_reducible exact H) | (have H2_ := (Option.bind_some _ _).symm.trans H; rw [hy295]; with_reducible exact H2_) | (have H2_ := (Option.bind_some _ _).symm.trans H; with_reducible exact H2_) | with_reducible exact H | (rw [hy295]; exact H) | exact H
 have Ny295 := Aside0.mk hy295
 clear hy295
 simp only [Option.some.injEq, Prod.mk.injEq] at H
 obtain ⟨rfl, rfl, rfl, rfl, rfl⟩ := H
 go_enter Try.func53, Try.ntmps53
 go_wp2_with (first | ((with_reducible refine gate_dst (N := 0) rfl ?_); refine box_event ?hg (N := 0) ?hd (cs := #[.string (⟨#[]⟩ : ByteArray), .int .i64 0, .int .i64 0, .slice none 0 0, .slice none 0 0]) (t := 35) ?hr ?_; (case hd => rfl); (case hg => rfl); (case hr => first | (go_simp; done) | (go_simp; rfl)); intro gb285 hg w1 hbox hb; have n0_ := Aside0.mk (below_step (zB) hb); have n1_ := Aside0.mk (hbox); have n2_ := Aside0.mk ((by rw [hg]; exact (below_size (zB)) : w.heap.size ≤ gb285)); have n3_ := Aside0.mk ((by rw [hg]; exact (below_size (zB)) : w.heap.size ≤ gb285)); clear HB; have HB := n0_; have BK285 := n1_; have GW285 := n2_; have GE285 := n3_; clear n0_ n1_ n2_ n3_; clear hb hbox hg) | ((with_reducible refine gate_dst (N := 2) rfl ?_); refine Kd.N_lit k24 _ 24 ?hg (N' := 2) ?hd (xs := ([(⟨42, 0, 0, 0, 0, 2, 1, 0, ([] : List Int)⟩ : S24)] : List (S24))) (inner := [.int .i64 42, .int .i64 0, .int .i64 0, .int .i64 0, .int .i64 0, .int .i64 2, .int .i64 1, .int .i64 0, .slice none 0 0]) (ok := (fun k_ => (w.heap.size ≤ k_) ∧ k_ ≠ gb285)) (okp := (fun k_ => (w.heap.size ≤ k_) ∧ k_ ≠ gb285)) ?hr ?hp (fun _ hk => hk) ((show ∀ k_, w1.heap.size ≤ k_ → (fun k_ => (w.heap.size ≤ k_) ∧ k_ ≠ gb285) k_ from fun k_ hk => ⟨(Nat.le_trans (below_size (by repeat (first | (with_reducible first | exact HB.out | apply below_alloc | apply pw_below_drewN | apply below_drew1 | refine below_set ?_ GE285.out) | exact HB.out))) hk), Kd.freshB (g := gb285) (o := .cells #[.string (⟨#[]⟩ : ByteArray), .int .i64 0, .int .i64 0, .slice none 0 0, .slice none 0 0] 35 (0, 0)) (by (with_reducible repeat (first | refine blk_drewN ?_ _ | refine blk_drew ?_ | refine blk_alloc ?_ _)); exact BK285.out) k_ hk⟩) _ (Nat.le_refl _)) (Below.refl _ _) (Nat.le_refl _) (by simp) ?_; (case hd => rfl); (case hg => rfl); (case hr => first | (go_simp; done) | (go_simp; rfl)); (case hp => exact (Reps.c9 (show Kd.FK k24 _ _ (⟨42, 0, 0, 0, 0, 2, 1, 0, ([] : List Int)⟩ : S24) [.int .i64 42, .int .i64 0, .int .i64 0, .int .i64 0, .int .i64 0, .int .i64 2, .int .i64 1, .int .i64 0, .slice none 0 0] from (k24_mkF _ _ (⟨42, 0, 0, 0, 0, 2, 1, 0, ([] : List Int)⟩ : S24) (Nat.le_refl _) (Kd.F_nil _ _ _))) (Reps.none _ _))); intro v287 w2 ho3 hb hg_ hnew_; clear hg_ hnew_; (first | rw [← Ny286.out] at ho3 | (simp only [Int.reduceToNat] at ho3; rw [← Ny286.out] at ho3)); have n0_ := Aside0.mk (Kd.N_lower ho3 (below_size (by repeat (first | (with_reducible first | exact HB.out | apply below_alloc | apply pw_below_drewN | apply below_drew1 | refine below_set ?_ GE285.out) | exact HB.out)))); have n1_ := Aside0.mk (blk_below (g := gb285) (o := .cells #[.string (⟨#[]⟩ : ByteArray), .int .i64 0, .int .i64 0, .slice none 0 0, .slice none 0 0] 35 (0, 0)) (by (with_reducible repeat (first | refine blk_drewN ?_ _ | refine blk_drew ?_ | refine blk_alloc ?_ _)); exact BK285.out) hb); have n2_ := Aside0.mk (below_step (by repeat (first | (with_reducible first | exact HB.out | apply below_alloc | apply pw_below_drewN | apply below_drew1 | refine below_set ?_ GE285.out) | exact HB.out)) hb); clear BK285; clear HB; have HO288 := n0_; have BK285 := n1_; have HB := n2_; clear n0_ n1_ n2_; clear hb ho3) | ((with_reducible refine gate_dst (N := 4) rfl ?_); refine Kd.N_lit k24 _ 24 ?hg (N' := 4) ?hd (xs := ([(⟨43, 0, 0, 0, 0, 0, 0, 0, ([] : List Int)⟩ : S24)] : List (S24))) (inner := [.int .i64 43, .int .i64 0, .int .i64 0, .int .i64 0, .int .i64 0, .int .i64 0, .int .i64 0, .int .i64 0, .slice none 0 0]) (ok := (fun k_ => (w.heap.size ≤ k_) ∧ some k_ ≠ (v287 : Value).ownBlock ∧ k_ ≠ gb285)) (okp := (fun k_ => (w.heap.size ≤ k_) ∧ some k_ ≠ (v287 : Value).ownBlock ∧ k_ ≠ gb285)) ?hr ?hp (fun _ hk => hk) ((show ∀ k_, w2.heap.size ≤ k_ → (fun k_ => (w.heap.size ≤ k_) ∧ some k_ ≠ (v287 : Value).ownBlock ∧ k_ ≠ gb285) k_ from fun k_ hk => ⟨(Nat.le_trans (below_size (by repeat (first | (with_reducible first | exact HB.out | apply below_alloc | apply pw_below_drewN | apply below_drew1 | refine below_set ?_ GE285.out) | exact HB.out))) hk), Kd.fresh' (Kd.N_lt (by (with_reducible repeat (first | apply Kd.N_alloc | apply Kd.N_drewN | apply Kd.N_drew)); exact HO288.out)) k_ hk, Kd.freshB (g := gb285) (o := .cells #[.string (⟨#[]⟩ : ByteArray), .int .i64 0, .int .i64 0, .slice none 0 0, .slice none 0 0] 35 (0, 0)) (by (with_reducible repeat (first | refine blk_drewN ?_ _ | refine blk_drew ?_ | refine blk_alloc ?_ _)); exact BK285.out) k_ hk⟩) _ (Nat.le_refl _)) (Below.refl _ _) (Nat.le_refl _) (by simp) ?_; (case hd => rfl); (case hg => rfl); (case hr => first | (go_simp; done) | (go_simp; rfl)); (case hp => exact (Reps.c9 (show Kd.FK k24 _ _ (⟨43, 0, 0, 0, 0, 0, 0, 0, ([] : List Int)⟩ : S24) [.int .i64 43, .int .i64 0, .int .i64 0, .int .i64 0, .int .i64 0, .int .i64 0, .int .i64 0, .int .i64 0, .slice none 0 0] from (k24_mkF _ _ (⟨43, 0, 0, 0, 0, 0, 0, 0, ([] : List Int)⟩ : S24) (Nat.le_refl _) (Kd.F_nil _ _ _))) (Reps.none _ _))); intro v290 w4 ho5 hb hg_ hnew_; clear hg_ hnew_; (first | rw [← Ny289.out] at ho5 | (simp only [Int.reduceToNat] at ho5; rw [← Ny289.out] at ho5)); have n0_ := Aside0.mk (Kd.N_elder' (by (with_reducible repeat (first | apply Kd.N_alloc | apply Kd.N_drewN | apply Kd.N_drew)); exact HO288.out) (Kd.N_base ho5) hb); have n1_ := Aside0.mk (Kd.N_lower ho5 (below_size (by repeat (first | (with_reducible first | exact HB.out | apply below_alloc | apply pw_below_drewN | apply below_drew1 | refine below_set ?_ GE285.out) | exact HB.out)))); have n2_ := Aside0.mk (blk_below (g := gb285) (o := .cells #[.string (⟨#[]⟩ : ByteArray), .int .i64 0, .int .i64 0, .slice none 0 0, .slice none 0 0] 35 (0, 0)) (by (with_reducible repeat (first | refine blk_drewN ?_ _ | refine blk_drew ?_ | refine blk_alloc ?_ _)); exact BK285.out) hb); have n3_ := Aside0.mk (below_step (by repeat (first | (with_reducible first | exact HB.out | apply below_alloc | apply pw_below_drewN | apply below_drew1 | refine below_set ?_ GE285.out) | exact HB.out)) hb); clear HO288; clear BK285; clear HB; have HO288 := n0_; have HO291 := n1_; have BK285 := n2_; have HB := n3_; clear n0_ n1_ n2_ n3_; clear hb ho5) | ((with_reducible refine gate_dst (N := 6) rfl ?_); refine Kd.N_lit k24 _ 24 ?hg (N' := 6) ?hd (xs := ([(⟨41, 0, 0, 0, 0, 1, 0, 0, ([] : List Int)⟩ : S24)] : List (S24))) (inner := [.int .i64 41, .int .i64 0, .int .i64 0, .int .i64 0, .int .i64 0, .int .i64 1, .int .i64 0, .int .i64 0, .slice none 0 0]) (ok := (fun k_ => (w.heap.size ≤ k_) ∧ some k_ ≠ (v287 : Value).ownBlock ∧ some k_ ≠ (v290 : Value).ownBlock ∧ k_ ≠ gb285)) (okp := (fun k_ => (w.heap.size ≤ k_) ∧ some k_ ≠ (v287 : Value).ownBlock ∧ some k_ ≠ (v290 : Value).ownBlock ∧ k_ ≠ gb285)) ?hr ?hp (fun _ hk => hk) ((show ∀ k_, w4.heap.size ≤ k_ → (fun k_ => (w.heap.size ≤ k_) ∧ some k_ ≠ (v287 : Value).ownBlock ∧ some k_ ≠ (v290 : Value).ownBlock ∧ k_ ≠ gb285) k_ from fun k_ hk => ⟨(Nat.le_trans (below_size (by repeat (first | (with_reducible first | exact HB.out | apply below_alloc | apply pw_below_drewN | apply below_drew1 | refine below_set ?_ GE285.out) | exact HB.out))) hk), Kd.fresh' (Kd.N_lt (by (with_reducible repeat (first | apply Kd.N_alloc | apply Kd.N_drewN | apply Kd.N_drew)); exact HO288.out)) k_ hk, Kd.fresh' (Kd.N_lt (by (with_reducible repeat (first | apply Kd.N_alloc | apply Kd.N_drewN | apply Kd.N_drew)); exact HO291.out)) k_ hk, Kd.freshB (g := gb285) (o := .cells #[.string (⟨#[]⟩ : ByteArray), .int .i64 0, .int .i64 0, .slice none 0 0, .slice none 0 0] 35 (0, 0)) (by (with_reducible repeat (first | refine blk_drewN ?_ _ | refine blk_drew ?_ | refine blk_alloc ?_ _)); exact BK285.out) k_ hk⟩) _ (Nat.le_refl _)) (Below.refl _ _) (Nat.le_refl _) (by simp) ?_; (case hd => rfl); (case hg => rfl); (case hr => first | (go_simp; done) | (go_simp; rfl)); (case hp => exact (Reps.c9 (show Kd.FK k24 _ _ (⟨41, 0, 0, 0, 0, 1, 0, 0, ([] : List Int)⟩ : S24) [.int .i64 41, .int .i64 0, .int .i64 0, .int .i64 0, .int .i64 0, .int .i64 1, .int .i64 0, .int .i64 0, .slice none 0 0] from (k24_mkF _ _ (⟨41, 0, 0, 0, 0, 1, 0, 0, ([] : List Int)⟩ : S24) (Nat.le_refl _) (Kd.F_nil _ _ _))) (Reps.none _ _))); intro v293 w6 ho7 hb hg_ hnew_; clear hg_ hnew_; (first | rw [← Ny292.out] at ho7 | (simp only [Int.reduceToNat] at ho7; rw [← Ny292.out] at ho7)); have n0_ := Aside0.mk (Kd.N_elder' (by (with_reducible repeat (first | apply Kd.N_alloc | apply Kd.N_drewN | apply Kd.N_drew)); exact HO288.out) (Kd.N_base ho7) hb); have n1_ := Aside0.mk (Kd.N_elder' (by (with_reducible repeat (first | apply Kd.N_alloc | apply Kd.N_drewN | apply Kd.N_drew)); exact HO291.out) (Kd.N_base ho7) hb); have n2_ := Aside0.mk (Kd.N_lower ho7 (below_size (by repeat (first | (with_reducible first | exact HB.out | apply below_alloc | apply pw_below_drewN | apply below_drew1 | refine below_set ?_ GE285.out) | exact HB.out)))); have n3_ := Aside0.mk (blk_below (g := gb285) (o := .cells #[.string (⟨#[]⟩ : ByteArray), .int .i64 0, .int .i64 0, .slice none 0 0, .slice none 0 0] 35 (0, 0)) (by (with_reducible repeat (first | refine blk_drewN ?_ _ | refine blk_drew ?_ | refine blk_alloc ?_ _)); exact BK285.out) hb); have n4_ := Aside0.mk (below_step (by repeat (first | (with_reducible first | exact HB.out | apply below_alloc | apply pw_below_drewN | apply below_drew1 | refine below_set ?_ GE285.out) | exact HB.out)) hb); clear HO288; clear HO291; clear BK285; clear HB; have HO288 := n0_; have HO291 := n1_; have HO294 := n2_; have BK285 := n3_; have HB := n4_; clear n0_ n1_ n2_ n3_ n4_; clear hb ho7; obtain ⟨Ao8, co8, eo8⟩ := Kd.N_slice HO288.out; subst eo8; obtain ⟨Ao9, co9, eo9⟩ := Kd.N_slice HO291.out; subst eo9; obtain ⟨Ao10, co10, eo10⟩ := Kd.N_slice HO294.out; subst eo10) | ((with_reducible refine gate_dst (N := 7) rfl ?_); refine Kd.N_lit (Kd.slice 24 k24) _ 61 ?hg (N' := 7) ?hd (xs := ([y286, y289, y292] : List (List (S24)))) (inner := [.slice Ao8 y286.length co8, .slice Ao9 y289.length co9, .slice Ao10 y292.length co10]) (ok := (fun k_ => (w.heap.size ≤ k_) ∧ k_ ≠ gb285)) (okp := (fun k_ => (w.heap.size ≤ k_) ∧ k_ ≠ gb285)) ?hr ?hp (fun _ hk => hk) ((show ∀ k_, w6.heap.size ≤ k_ → (fun k_ => (w.heap.size ≤ k_) ∧ k_ ≠ gb285) k_ from fun k_ hk => ⟨(Nat.le_trans (below_size (by repeat (first | (with_reducible first | exact HB.out | apply below_alloc | apply pw_below_drewN | apply below_drew1 | refine below_set ?_ GE285.out) | exact HB.out))) hk), Kd.freshB (g := gb285) (o := .cells #[.string (⟨#[]⟩ : ByteArray), .int .i64 0, .int .i64 0, .slice none 0 0, .slice none 0 0] 35 (0, 0)) (by (with_reducible repeat (first | refine blk_drewN ?_ _ | refine blk_drew ?_ | refine blk_alloc ?_ _)); exact BK285.out) k_ hk⟩) _ (Nat.le_refl _)) (Below.refl _ _) (Nat.le_refl _) (by simp) ?_; (case hd => rfl); (case hg => rfl); (case hr => first | (go_simp; done) | (go_simp; rfl)); (case hp => exact (Reps.one (show Kd.FK (Kd.slice 24 k24) _ _ y286 [.slice Ao8 y286.length co8] from (Kd.FK_slice_mk (Kd.N_reads' (Kd.N_mono (ok' := (fun k_ => (w.heap.size ≤ k_) ∧ k_ ≠ gb285)) (HO288.out) (fun k_ hk => ⟨hk.1.1.1, hk.1.1.2⟩))).2.1 (Kd.N_F (Kd.N_mono (ok' := (fun k_ => (w.heap.size ≤ k_) ∧ k_ ≠ gb285)) (HO288.out) (fun k_ hk => ⟨hk.1.1.1, hk.1.1.2⟩))))) (Reps.one (show Kd.FK (Kd.slice 24 k24) _ _ y289 [.slice Ao9 y289.length co9] from (Kd.FK_slice_mk (Kd.N_reads' (Kd.N_mono (ok' := (fun k_ => (w.heap.size ≤ k_) ∧ k_ ≠ gb285)) (HO291.out) (fun k_ hk => ⟨hk.1.1, hk.1.2.2⟩))).2.1 (Kd.N_F (Kd.N_mono (ok' := (fun k_ => (w.heap.size ≤ k_) ∧ k_ ≠ gb285)) (HO291.out) (fun k_ hk => ⟨hk.1.1, hk.1.2.2⟩))))) (Reps.one (show Kd.FK (Kd.slice 24 k24) _ _ y292 [.slice Ao10 y292.length co10] from (Kd.FK_slice_mk (Kd.N_reads' (Kd.N_mono (ok' := (fun k_ => (w.heap.size ≤ k_) ∧ k_ ≠ gb285)) (HO294.out) (fun k_ hk => ⟨hk.1, hk.2.2.2⟩))).2.1 (Kd.N_F (Kd.N_mono (ok' := (fun k_ => (w.heap.size ≤ k_) ∧ k_ ≠ gb285)) (HO294.out) (fun k_ hk => ⟨hk.1, hk.2.2.2⟩))))) (Reps.none _ _))))); intro v296 w11 ho12 hb hg_ hnew_; clear hg_ hnew_; (first | rw [← Ny295.out] at ho12 | (simp only [Int.reduceToNat] at ho12; rw [← Ny295.out] at ho12)); have n0_ := Aside0.mk (Kd.N_lower ho12 (below_size (by repeat (first | (with_reducible first | exact HB.out | apply below_alloc | apply pw_below_drewN | apply below_drew1 | refine below_set ?_ GE285.out) | exact HB.out)))); have n1_ := Aside0.mk (blk_below (g := gb285) (o := .cells #[.string (⟨#[]⟩ : ByteArray), .int .i64 0, .int .i64 0, .slice none 0 0, .slice none 0 0] 35 (0, 0)) (by (with_reducible repeat (first | refine blk_drewN ?_ _ | refine blk_drew ?_ | refine blk_alloc ?_ _)); exact BK285.out) hb); have n2_ := Aside0.mk (below_step (by repeat (first | (with_reducible first | exact HB.out | apply below_alloc | apply pw_below_drewN | apply below_drew1 | refine below_set ?_ GE285.out) | exact HB.out)) hb); clear BK285; clear HB; clear HO288; clear HO291; clear HO294; have HO297 := n0_; have BK285 := n1_; have HB := n2_; clear n0_ n1_ n2_; clear hb ho12; obtain ⟨Ao13, co13, eo13⟩ := Kd.N_slice HO297.out; subst eo13; have hcz14_0 : w11.cell? ⟨gb285, 0, none⟩ = some (.string (⟨#[]⟩ : ByteArray)) := (blk_cell BK285.out 0).trans rfl; have hcz14_1 : w11.cell? ⟨gb285, 1, none⟩ = some (.int .i64 0) := (blk_cell BK285.out 1).trans rfl; have hcz14_2 : w11.cell? ⟨gb285, 2, none⟩ = some (.int .i64 0) := (blk_cell BK285.out 2).trans rfl; have hcz14_3 : w11.cell? ⟨gb285, 3, none⟩ = some (.slice none 0 0) := (blk_cell BK285.out 3).trans rfl; have hcz14_4 : w11.cell? ⟨gb285, 4, none⟩ = some (.slice none 0 0) := (blk_cell BK285.out 4).trans rfl; have hfz14_0 := blk_frozen BK285.out 0; have hfz14_1 := blk_frozen BK285.out 1; have hfz14_2 := blk_frozen BK285.out 2; have hfz14_3 := blk_frozen BK285.out 3; have hfz14_4 := blk_frozen BK285.out 4))
 refine bodyPost_ret (results_cell_row rfl _ _ gb285 35 #[.string (⟨#[]⟩ : ByteArray), .int .i64 0, .int .i64 0, .slice none 0 0, .slice Ao13 y295.length co13] (0, 0) _ rfl (by (with_reducible repeat (first | refine blk_drewN ?_ _ | refine blk_drew ?_ | refine blk_alloc ?_ _)); refine blk_put (cs := #[.string (⟨#[]⟩ : ByteArray), .int .i64 0, .int .i64 0, .slice none 0 0, .slice none 0 0]) ?_ 4 _ rfl; (with_reducible repeat (first | refine blk_drewN ?_ _ | refine blk_drew ?_ | refine blk_alloc ?_ _)); refine blk_put (cs := #[.string (⟨#[]⟩ : ByteArray), .int .i64 0, .int .i64 0, .slice none 0 0, .slice none 0 0]) ?_ 3 _ rfl; (with_reducible repeat (first | refine blk_drewN ?_ _ | refine blk_drew ?_ | refine blk_alloc ?_ _)); refine blk_put (cs := #[.string (⟨#[]⟩ : ByteArray), .int .i64 0, .int .i64 0, .slice none 0 0, .slice none 0 0]) ?_ 2 _ rfl; (with_reducible repeat (first | refine blk_drewN ?_ _ | refine blk_drew ?_ | refine blk_alloc ?_ _)); refine blk_put (cs := #[.string (⟨#[]⟩ : ByteArray), .int .i64 0, .int .i64 0, .slice none 0 0, .slice none 0 0]) ?_ 1 _ rfl; (with_reducible repeat (first | refine blk_drewN ?_ _ | refine blk_drew ?_ | refine blk_alloc ?_ _)); refine blk_put (cs := #[.string (⟨#[]⟩ : ByteArray), .int .i64 0, .int .i64 0, .slice none 0 0, .slice none 0 0]) ?_ 0 _ rfl; (with_reducible repeat (first | refine blk_drewN ?_ _ | refine blk_drew ?_ | refine blk_alloc ?_ _)); exact BK285.out) Try.underlying35 rfl (by kernel_rfl)) rfl ?_
 exact ⟨_, _, by first | rfl | (simp [errW_none, errW_some] <;> rfl) | (simp [*, errW_none, errW_some] <;> rfl), by first | exact Kd.R_nil _ _ _ _ _ | exact Kd.N_nil _ _ _ _ _ | exact Kd.V_nil _ _ _ _ _ | exact Kd.Q_nil _ _ _ _ _ | exact Kd.S_nil _ _ _ _ _, by (with_reducible repeat (first | apply Kd.N_alloc | apply Kd.N_drewN | apply Kd.N_drew)); exact Kd.N_mono (Kd.N_far (p := ⟨gb285, 4, none⟩) (Kd.N_far (p := ⟨gb285, 3, none⟩) (Kd.N_far (p := ⟨gb285, 2, none⟩) (Kd.N_far (p := ⟨gb285, 1, none⟩) (Kd.N_far (p := ⟨gb285, 0, none⟩) (Kd.N_mono HO297.out (fun k_ hk => (⟨hk, hk.2⟩ : _ ∧ k_ ≠ gb285))) (fun _ hk => hk.2) (.string (⟨#[]⟩ : ByteArray))) (fun _ hk => hk.2) (.int .i64 0)) (fun _ hk => hk.2) (.int .i64 0)) (fun _ hk => hk.2) (.slice none 0 0)) (fun _ hk => hk.2) (.slice Ao13 y295.length co13)) (fun _ hk => ⟨hk.1.1, (by simp [Value.ownBlock])⟩), by repeat (first | (with_reducible first | exact HB.out | apply below_alloc | apply pw_below_drewN | apply below_drew1 | refine below_set ?_ GE285.out) | exact HB.out)⟩
def balustradelaw17_works.f (k : Nat)  : Option (Bool) := (balustradelaw17_three.f).bind fun bt298 => ((graph_Order.f k bt298.1 bt298.2.1 bt298.2.2.1 bt298.2.2.2.1 bt298.2.2.2.2).bind fun t307 => ((balustradebase_SameInts.f k t307 (([0, 2, 1] : List Int))).bind fun t313 => (if t313 = true then ((balustradelaw17_three.f).bind fun bt314 => ((graph_Preds.f k bt314.1 bt314.2.1 bt314.2.2.1 bt314.2.2.2.1 bt314.2.2.2.2).bind fun t323 => ((balustradebase_SameLists.f k t323 (([(([] : List Int)), (([0, 2] : List Int)), (([0] : List Int))] : List (List Int)))).bind fun t338 => (some t338)))) else (some false))))
theorem balustradelaw17_works.mono : ∀ k, LeO (balustradelaw17_works.f k ) (balustradelaw17_works.f (k + 1) ) := by
 intro  k
 unfold balustradelaw17_works.f
 repeat' first
   | (with_reducible exact balustradebase_SameInts.mono _ _ _)
   | (with_reducible exact balustradebase_SameLists.mono _ _ _)
   | (with_reducible exact graph_Order.mono _ _ _ _ _ _)
   | (with_reducible exact graph_Preds.mono _ _ _ _ _ _)
   | (with_reducible exact LeO.refl _)
   | (with_reducible exact LeO.none _)
   | (with_reducible refine LeO.ite ?_ ?_)
   | (with_reducible refine LeO.bind ?_ (fun _ => ?_))
   | exact balustradebase_SameInts.mono _ _ _
   | exact balustradebase_SameLists.mono _ _ _
   | exact graph_Order.mono _ _ _ _ _ _
   | exact graph_Preds.mono _ _ _ _ _ _
   | exact LeO.none _
   | refine LeO.ite ?_ ?_
   | refine LeO.bind ?_ (fun _ => ?_)
set_option maxHeartbeats 8000000 in
set_option maxRecDepth 100000 in
theorem balustradelaw17_works.calls (k : Nat)  (r : Bool) (w : World) (h : balustradelaw17_works.f k  = some r) :
  Calls Try.prog 26 #[] w fun e w' => e = .returned (.bool r) ∧ Below w.heap.size w w' := by
 have HB := Aside0.mk (Below.refl w.heap.size w)
 have H : ((balustradelaw17_three.f).bind fun bt298 => ((graph_Order.f k bt298.1 bt298.2.1 bt298.2.2.1 bt298.2.2.2.1 bt298.2.2.2.2).bind fun t307 => ((balustradebase_SameInts.f k t307 (([0, 2, 1] : List Int))).bind fun t313 => (if t313 = true then ((balustradelaw17_three.f).bind fun bt314 => ((graph_Preds.f k bt314.1 bt314.2.1 bt314.2.2.1 bt314.2.2.2.1 bt314.2.2.2.2).bind fun t323 => ((balustradebase_SameLists.f k t323 (([(([] : List Int)), (([0, 2] : List Int)), (([0] : List Int))] : List (List Int)))).bind fun t338 => (some t338)))) else (some false))))) = some r := h
 clear h
 replace H := Option.bind_eq_some_iff.mp H
 obtain ⟨⟨t298, t299, t300, t301, t304⟩, A10, H⟩ := H
 replace H : ((graph_Order.f k t298 t299 t300 t301 t304).bind fun t307 => ((balustradebase_SameInts.f k t307 (([0, 2, 1] : List Int))).bind fun t313 => (if t313 = true then ((balustradelaw17_three.f).bind fun bt314 => ((graph_Preds.f k bt314.1 bt314.2.1 bt314.2.2.1 bt314.2.2.2.1 bt314.2.2.2.2).bind fun t323 => ((balustradebase_SameLists.f k t323 (([(([] : List Int)), (([0, 2] : List Int)), (([0] : List Int))] : List (List Int)))).bind fun t338 => (some t338)))) else (some false)))) = some r := H
 have A1 := Aside0.mk A10
 clear A10
 replace H := Option.bind_eq_some_iff.mp H
 obtain ⟨t307, A20, H⟩ := H
 replace H : ((balustradebase_SameInts.f k t307 (([0, 2, 1] : List Int))).bind fun t313 => (if t313 = true then ((balustradelaw17_three.f).bind fun bt314 => ((graph_Preds.f k bt314.1 bt314.2.1 bt314.2.2.1 bt314.2.2.2.1 bt314.2.2.2.2).bind fun t323 => ((balustradebase_SameLists.f k t323 (([(([] : List Int)), (([0, 2] : List Int)), (([0] : List Int))] : List (List Int)))).bind fun t338 => (some t338)))) else (some false))) = some r := H
 have A2 := Aside0.mk A20
 clear A20
 obtain ⟨y310, hy310⟩ : ∃ y_ : List Int, y_ = (([0, 2, 1] : List Int)) := ⟨_, rfl⟩
 replace H : ((balustradebase_SameInts.f k t307 y310).bind fun t313 => (if t313 = true then ((balustradelaw17_three.f).bind fun bt314 => ((graph_Preds.f k bt314.1 bt314.2.1 bt314.2.2.1 bt314.2.2.2.1 bt314.2.2.2.2).bind fun t323 => ((balustradebase_SameLists.f k t323 (([(([] : List Int)), (([0, 2] : List Int)), (([0] : List Int))] : List (List Int)))).bind fun t338 => (some t338)))) else (some false))) = some r := by first | (rw [hy310]; with_reducible exact H) | (have H2_ := (Option.bind_some _ _).symm.trans H; rw [hy310]; with_reducible exact H2_) | (have H2_ := (Option.bind_some _ _).symm.trans H; with_reducible exact H2_) | with_reducible exact H | (rw [hy310]; exact H) | exact H
 have Ny310 := Aside0.mk hy310
 clear hy310
 replace H := Option.bind_eq_some_iff.mp H
 obtain ⟨t313, A30, H⟩ := H
 replace H : (if t313 = true then ((balustradelaw17_three.f).bind fun bt314 => ((graph_Preds.f k bt314.1 bt314.2.1 bt314.2.2.1 bt314.2.2.2.1 bt314.2.2.2.2).bind fun t323 => ((balustradebase_SameLists.f k t323 (([(([] : List Int)), (([0, 2] : List Int)), (([0] : List Int))] : List (List Int)))).bind fun t338 => (some t338)))) else (some false)) = some r := H
 have A3 := Aside0.mk A30
 clear A30
 by_cases c4 : t313 = true
 ·subst c4
  have H1 : ((balustradelaw17_three.f).bind fun bt314 => ((graph_Preds.f k bt314.1 bt314.2.1 bt314.2.2.1 bt314.2.2.2.1 bt314.2.2.2.2).bind fun t323 => ((balustradebase_SameLists.f k t323 (([(([] : List Int)), (([0, 2] : List Int)), (([0] : List Int))] : List (List Int)))).bind fun t338 => (some t338)))) = some r := by rw [if_pos rfl] at H; exact H
  clear H
  have H := H1
  clear H1
  replace H := Option.bind_eq_some_iff.mp H
  obtain ⟨⟨t314, t315, t316, t317, t320⟩, A50, H⟩ := H
  replace H : ((graph_Preds.f k t314 t315 t316 t317 t320).bind fun t323 => ((balustradebase_SameLists.f k t323 (([(([] : List Int)), (([0, 2] : List Int)), (([0] : List Int))] : List (List Int)))).bind fun t338 => (some t338))) = some r := H
  have A5 := Aside0.mk A50
  clear A50
  replace H := Option.bind_eq_some_iff.mp H
  obtain ⟨t323, A60, H⟩ := H
  replace H : ((balustradebase_SameLists.f k t323 (([(([] : List Int)), (([0, 2] : List Int)), (([0] : List Int))] : List (List Int)))).bind fun t338 => (some t338)) = some r := H
  have A6 := Aside0.mk A60
  clear A60
  obtain ⟨y326, hy326⟩ : ∃ y_ : List Int, y_ = (([] : List Int)) := ⟨_, rfl⟩
  replace H : ((balustradebase_SameLists.f k t323 (([y326, (([0, 2] : List Int)), (([0] : List Int))] : List (List Int)))).bind fun t338 => (some t338)) = some r := by first | (rw [hy326]; with_reducible exact H) | (have H2_ := (Option.bind_some _ _).symm.trans H; rw [hy326]; with_reducible exact H2_) | (have H2_ := (Option.bind_some _ _).symm.trans H; with_reducible exact H2_) | with_reducible exact H | (rw [hy326]; exact H) | exact H
  have Ny326 := Aside0.mk hy326
  clear hy326
  obtain ⟨y329, hy329⟩ : ∃ y_ : List Int, y_ = (([0, 2] : List Int)) := ⟨_, rfl⟩
  replace H : ((balustradebase_SameLists.f k t323 (([y326, y329, (([0] : List Int))] : List (List Int)))).bind fun t338 => (some t338)) = some r := by first | (rw [hy329]; with_reducible exact H) | (have H2_ := (Option.bind_some _ _).symm.trans H; rw [hy329]; with_reducible exact H2_) | (have H2_ := (Option.bind_some _ _).symm.trans H; with_reducible exact H2_) | with_reducible exact H | (rw [hy329]; exact H) | exact H
  have Ny329 := Aside0.mk hy329
  clear hy329
  obtain ⟨y332, hy332⟩ : ∃ y_ : List Int, y_ = (([0] : List Int)) := ⟨_, rfl⟩
  replace H : ((balustradebase_SameLists.f k t323 (([y326, y329, y332] : List (List Int)))).bind fun t338 => (some t338)) = some r := by first | (rw [hy332]; with_reducible exact H) | (have H2_ := (Option.bind_some _ _).symm.trans H; rw [hy332]; with_reducible exact H2_) | (have H2_ := (Option.bind_some _ _).symm.trans H; with_reducible exact H2_) | with_reducible exact H | (rw [hy332]; exact H) | exact H
  have Ny332 := Aside0.mk hy332
  clear hy332
  obtain ⟨y335, hy335⟩ : ∃ y_ : List (List Int), y_ = (([y326, y329, y332] : List (List Int))) := ⟨_, rfl⟩
  replace H : ((balustradebase_SameLists.f k t323 y335).bind fun t338 => (some t338)) = some r := by first | (rw [hy335]; with_reducible exact H) | (have H2_ := (Option.bind_some _ _).symm.trans H; rw [hy335]; with_reducible exact H2_) | (have H2_ := (Option.bind_some _ _).symm.trans H; with_reducible exact H2_) | with_reducible exact H | (rw [hy335]; exact H) | exact H
  have Ny335 := Aside0.mk hy335
  clear hy335
  replace H := Option.bind_eq_some_iff.mp H
  obtain ⟨t338, A70, H⟩ := H
  replace H : (some t338) = some r := H
  have A7 := Aside0.mk A70
  clear A70
  obtain rfl := Option.some.inj H
  go_enter Try.func26, Try.ntmps26
  go_wp2_with (first | ((with_reducible refine gate_callee (f := 53) rfl ?_); refine goesL_ (some 1) rfl rfl Try.func53 (by kernel_rfl) rfl #[] rfl zE ?_; (with_reducible refine (balustradelaw17_three.calls  t298 t299 t300 t301 t304 _ A1.out).mono ?_); rintro e w8 ⟨v302, v305, rfl, ho0, ho1, hb⟩; refine ⟨_, rfl, ?_⟩; have n0_ := Aside0.mk (Kd.R_lower (Kd.R_mono (ok' := fun k_ => True) ho0 (fun _ hk_ => trivial)) (below_size (zB))); have n1_ := Aside0.mk (Kd.N_lower (Kd.N_mono (ok' := fun k_ => some k_ ≠ (v302 : Value).ownBlock) ho1 (fun k_ hk_ => hk_.2)) (below_size (zB))); have n2_ := Aside0.mk (below_step (zB) hb); clear HB; have HO303 := n0_; have HO306 := n1_; have HB := n2_; clear n0_ n1_ n2_; (try clear hb); (try clear hb2); (try clear hk); (try clear hi); (try clear ho0); (try clear ho1); obtain ⟨Ao9, co9, eo9⟩ := Kd.R_slice HO303.out; subst eo9; obtain ⟨Ao10, co10, eo10⟩ := Kd.N_slice HO306.out; subst eo10) | ((with_reducible refine gate_callee (f := 37) rfl ?_); refine goesL_ (some 2) rfl rfl Try.func37 (by kernel_rfl) rfl #[.agg #[.string t298, .int .i64 t299, .int .i64 t300, .slice Ao9 t301.length co9, .slice Ao10 t304.length co10]] rfl zE ?_; (with_reducible refine (graph_Order.calls k t298 t299 t300 _ _ t301 _ _ t304 t307 _ ?side1 ?side2 ?side3 ?side4 A2.out).mono ?_); (case side1 => exact zC (Kd.R_reads' HO303.out).2.2); (case side2 => exact (Kd.R_reads' HO303.out).2.1); (case side3 => exact zC (Kd.N_reads' HO306.out).2.2); (case side4 => exact (Kd.N_reads' HO306.out).2.1); rintro e w11 ⟨v308, rfl, ho0, hb⟩; refine ⟨_, rfl, ?_⟩; have n0_ := Aside0.mk (Kd.R_elder' (zR HO303.out) (Kd.R_base ho0) hb); have n1_ := Aside0.mk (Kd.N_elder' (by (with_reducible repeat (first | apply Kd.N_alloc | apply Kd.N_drewN | apply Kd.N_drew)); exact HO306.out) (Kd.R_base ho0) hb); have n2_ := Aside0.mk (Kd.R_lower (Kd.R_new' ho0 (Kd.R_lt (zR HO303.out))) (below_size (zB))); have n3_ := Aside0.mk (below_step (zB) hb); clear HO303; clear HO306; clear HB; have HO303 := n0_; have HO306 := n1_; have HO309 := n2_; have HB := n3_; clear n0_ n1_ n2_ n3_; (try clear hb); (try clear hb2); (try clear hk); (try clear hi); (try clear ho0)) | ((with_reducible refine gate_dst (N := 3) rfl ?_); (try (refine gate_guard (by rfl) ?_; dsimp only)); refine Kd.R_lit (Kd.int .i64) _ 3 ?hg (N := 3) ?hd (xs := ([0, 2, 1] : List Int)) (inner := [.int .i64 0, .int .i64 2, .int .i64 1]) (ok := fun _ => True) (okp := fun _ => True) ?hr ?hp (fun _ hk => hk) trivial (Below.refl _ _) (Nat.le_refl _) (by simp) ?_; (case hd => rfl); (case hg => rfl); (case hr => first | (go_simp; done) | (go_simp; rfl)); (case hp => exact (Reps.one (show Kd.M (Kd.int .i64) _ _ _ 0 [.int .i64 0] from rfl) (Reps.one (show Kd.M (Kd.int .i64) _ _ _ 2 [.int .i64 2] from rfl) (Reps.one (show Kd.M (Kd.int .i64) _ _ _ 1 [.int .i64 1] from rfl) (Reps.none _ _))))); intro v311 w12 ho13 hb hg_ hnew_; clear hg_ hnew_; (first | rw [← Ny310.out] at ho13 | (simp only [Int.reduceToNat] at ho13; rw [← Ny310.out] at ho13)); have n0_ := Aside0.mk (Kd.R_elder' (zR HO303.out) (Kd.R_base ho13) hb); have n1_ := Aside0.mk (Kd.N_elder' (by (with_reducible repeat (first | apply Kd.N_alloc | apply Kd.N_drewN | apply Kd.N_drew)); exact HO306.out) (Kd.R_base ho13) hb); have n2_ := Aside0.mk (Kd.R_elder' (zR HO309.out) (Kd.R_base ho13) hb); have n3_ := Aside0.mk (Kd.R_lower (Kd.R_new' (Kd.R_new' ho13 (Kd.R_lt (zR HO303.out))) (Kd.R_lt (zR HO309.out))) (below_size (zB))); have n4_ := Aside0.mk (below_step (zB) hb); clear HO303; clear HO306; clear HO309; clear HB; have HO303 := n0_; have HO306 := n1_; have HO309 := n2_; have HO312 := n3_; have HB := n4_; clear n0_ n1_ n2_ n3_ n4_; clear hb ho13; obtain ⟨Ao14, co14, eo14⟩ := Kd.R_slice HO309.out; subst eo14; obtain ⟨Ao15, co15, eo15⟩ := Kd.R_slice HO312.out; subst eo15) | ((with_reducible refine gate_callee (f := 14) rfl ?_); refine goesL_ (some 4) rfl rfl Try.func14 (by kernel_rfl) rfl #[.slice Ao14 t307.length co14, .slice Ao15 y310.length co15] rfl zE ?_; (with_reducible refine (balustradebase_SameInts.calls k _ _ t307 _ _ y310 true _ ?side1 ?side2 ?side3 ?side4 A3.out).mono ?_); (case side1 => exact zC (Kd.R_reads' HO309.out).2.2); (case side2 => exact (Kd.R_reads' HO309.out).2.1); (case side3 => exact zC (Kd.R_reads' HO312.out).2.2); (case side4 => exact (Kd.R_reads' HO312.out).2.1); rintro e w' ⟨rfl, ⟨nd, rfl⟩⟩; refine ⟨_, rfl, ?_⟩) | (go_at_call 53; (with_reducible refine (balustradelaw17_three.calls  t314 t315 t316 t317 t320 _ A5.out).mono ?_); rintro e w16 ⟨v318, v321, rfl, ho0, ho1, hb⟩; have n0_ := Aside0.mk (Kd.R_elder' (zR HO303.out) (Kd.R_base ho0) hb); have n1_ := Aside0.mk (Kd.N_mono (Kd.N_told (Kd.N_told (Kd.N_old (by (with_reducible repeat (first | apply Kd.N_alloc | apply Kd.N_drewN | apply Kd.N_drew)); exact HO306.out) hb) (Kd.R_base ho0)) (by first | exact Kd.N_base ho1 | exact Kd.R_base (Kd.S_R ho1))) (fun _ h_ => h_.1)); have n2_ := Aside0.mk (Kd.R_elder' (zR HO309.out) (Kd.R_base ho0) hb); have n3_ := Aside0.mk (Kd.R_elder' (zR HO312.out) (Kd.R_base ho0) hb); have n4_ := Aside0.mk (Kd.R_lower (Kd.R_new' (Kd.R_new' (Kd.R_new' (Kd.R_mono (ok' := fun k_ => True) ho0 (fun _ hk_ => trivial)) (Kd.R_lt (zR HO303.out))) (Kd.R_lt (zR HO309.out))) (Kd.R_lt (zR HO312.out))) (below_size (zB))); have n5_ := Aside0.mk (Kd.N_lower (Kd.N_mono (ok' := fun k_ => some k_ ≠ (v318 : Value).ownBlock ∧ some k_ ≠ (.slice Ao9 t301.length co9 : Value).ownBlock ∧ some k_ ≠ (.slice Ao10 t304.length co10 : Value).ownBlock ∧ some k_ ≠ (.slice Ao14 t307.length co14 : Value).ownBlock ∧ some k_ ≠ (.slice Ao15 y310.length co15 : Value).ownBlock) ho1 (fun k_ hk_ => ⟨hk_.2, (Kd.fresh' (Kd.R_lt (zR HO303.out)) k_ hk_.1), (Kd.fresh' (Kd.N_lt (by (with_reducible repeat (first | apply Kd.N_alloc | apply Kd.N_drewN | apply Kd.N_drew)); exact HO306.out)) k_ hk_.1), (Kd.fresh' (Kd.R_lt (zR HO309.out)) k_ hk_.1), (Kd.fresh' (Kd.R_lt (zR HO312.out)) k_ hk_.1)⟩)) (below_size (zB))); have n6_ := Aside0.mk (below_step (zB) hb); clear HO303; clear HO306; clear HO309; clear HO312; clear HB; have HO303 := n0_; have HO306 := n1_; have HO309 := n2_; have HO312 := n3_; have HO319 := n4_; have HO322 := n5_; have HB := n6_; clear n0_ n1_ n2_ n3_ n4_ n5_ n6_; (try clear hb); (try clear hb2); (try clear hk); (try clear hi); (try clear ho0); (try clear ho1); obtain ⟨Ao17, co17, eo17⟩ := Kd.R_slice HO319.out; subst eo17; obtain ⟨Ao18, co18, eo18⟩ := Kd.N_slice HO322.out; subst eo18) | (go_at_call 33; (with_reducible refine (graph_Preds.calls k t314 t315 t316 _ _ t317 _ _ t320 t323 _ ?side1 ?side2 ?side3 ?side4 A6.out).mono ?_); (case side1 => exact zC (Kd.R_reads' HO319.out).2.2); (case side2 => exact (Kd.R_reads' HO319.out).2.1); (case side3 => exact zC (Kd.N_reads' HO322.out).2.2); (case side4 => exact (Kd.N_reads' HO322.out).2.1); rintro e w19 ⟨v324, rfl, ho0, hb⟩; have n0_ := Aside0.mk (Kd.R_below (zR HO303.out) hb); have n1_ := Aside0.mk (Kd.N_elder' (by (with_reducible repeat (first | apply Kd.N_alloc | apply Kd.N_drewN | apply Kd.N_drew)); exact HO306.out) (by first | exact Kd.N_base ho0 | exact Kd.R_base (Kd.S_R ho0)) hb); have n2_ := Aside0.mk (Kd.R_below (zR HO309.out) hb); have n3_ := Aside0.mk (Kd.R_below (zR HO312.out) hb); have n4_ := Aside0.mk (Kd.R_below (zR HO319.out) hb); have n5_ := Aside0.mk (Kd.N_elder' (by (with_reducible repeat (first | apply Kd.N_alloc | apply Kd.N_drewN | apply Kd.N_drew)); exact HO322.out) (by first | exact Kd.N_base ho0 | exact Kd.R_base (Kd.S_R ho0)) hb); have n6_ := Aside0.mk (Kd.N_lower (Kd.N_mono (ok' := fun k_ => some k_ ≠ (.slice Ao9 t301.length co9 : Value).ownBlock ∧ some k_ ≠ (.slice Ao10 t304.length co10 : Value).ownBlock ∧ some k_ ≠ (.slice Ao14 t307.length co14 : Value).ownBlock ∧ some k_ ≠ (.slice Ao15 y310.length co15 : Value).ownBlock ∧ some k_ ≠ (.slice Ao17 t317.length co17 : Value).ownBlock ∧ some k_ ≠ (.slice Ao18 t320.length co18 : Value).ownBlock) (Kd.S_N (Kd.S_bound ho0)) (fun k_ hk_ => ⟨(Kd.fresh' (Kd.R_lt (zR HO303.out)) k_ hk_.2.1), (Kd.fresh' (Kd.N_lt (by (with_reducible repeat (first | apply Kd.N_alloc | apply Kd.N_drewN | apply Kd.N_drew)); exact HO306.out)) k_ hk_.2.1), (Kd.fresh' (Kd.R_lt (zR HO309.out)) k_ hk_.2.1), (Kd.fresh' (Kd.R_lt (zR HO312.out)) k_ hk_.2.1), (Kd.fresh' (Kd.R_lt (zR HO319.out)) k_ hk_.2.1), (Kd.fresh' (Kd.N_lt (by (with_reducible repeat (first | apply Kd.N_alloc | apply Kd.N_drewN | apply Kd.N_drew)); exact HO322.out)) k_ hk_.2.1)⟩)) (below_size (zB))); have n7_ := Aside0.mk (below_step (zB) hb); clear HO303; clear HO306; clear HO309; clear HO312; clear HO319; clear HO322; clear HB; have HO303 := n0_; have HO306 := n1_; have HO309 := n2_; have HO312 := n3_; have HO319 := n4_; have HO322 := n5_; have HO325 := n6_; have HB := n7_; clear n0_ n1_ n2_ n3_ n4_ n5_ n6_ n7_; (try clear hb); (try clear hb2); (try clear hk); (try clear hi); (try clear ho0)) | ((with_reducible refine gate_dst (N := 8) rfl ?_); (try (refine gate_guard (by rfl) ?_; dsimp only)); refine Kd.R_lit (Kd.int .i64) _ 3 ?hg (N := 8) ?hd (xs := ([] : List Int)) (inner := []) (ok := fun _ => True) (okp := fun _ => True) ?hr ?hp (fun _ hk => hk) trivial (Below.refl _ _) (Nat.le_refl _) (by simp) ?_; (case hd => rfl); (case hg => rfl); (case hr => first | (go_simp; done) | (go_simp; rfl)); (case hp => exact (Reps.none _ _)); intro v327 w20 ho21 hb hg_ hnew_; clear hg_ hnew_; (first | rw [← Ny326.out] at ho21 | (simp only [Int.reduceToNat] at ho21; rw [← Ny326.out] at ho21)); have n0_ := Aside0.mk (Kd.R_elder' (zR HO303.out) (Kd.R_base ho21) hb); have n1_ := Aside0.mk (Kd.N_elder' (by (with_reducible repeat (first | apply Kd.N_alloc | apply Kd.N_drewN | apply Kd.N_drew)); exact HO306.out) (Kd.R_base ho21) hb); have n2_ := Aside0.mk (Kd.R_elder' (zR HO309.out) (Kd.R_base ho21) hb); have n3_ := Aside0.mk (Kd.R_elder' (zR HO312.out) (Kd.R_base ho21) hb); have n4_ := Aside0.mk (Kd.R_elder' (zR HO319.out) (Kd.R_base ho21) hb); have n5_ := Aside0.mk (Kd.N_elder' (by (with_reducible repeat (first | apply Kd.N_alloc | apply Kd.N_drewN | apply Kd.N_drew)); exact HO322.out) (Kd.R_base ho21) hb); have n6_ := Aside0.mk (Kd.N_elder' (by (with_reducible repeat (first | apply Kd.N_alloc | apply Kd.N_drewN | apply Kd.N_drew)); exact HO325.out) (Kd.R_base ho21) hb); have n7_ := Aside0.mk (Kd.R_lower (Kd.R_new' (Kd.R_new' (Kd.R_new' (Kd.R_new' ho21 (Kd.R_lt (zR HO303.out))) (Kd.R_lt (zR HO309.out))) (Kd.R_lt (zR HO312.out))) (Kd.R_lt (zR HO319.out))) (below_size (zB))); have n8_ := Aside0.mk (below_step (zB) hb); clear HO303; clear HO306; clear HO309; clear HO312; clear HO319; clear HO322; clear HO325; clear HB; have HO303 := n0_; have HO306 := n1_; have HO309 := n2_; have HO312 := n3_; have HO319 := n4_; have HO322 := n5_; have HO325 := n6_; have HO328 := n7_; have HB := n8_; clear n0_ n1_ n2_ n3_ n4_ n5_ n6_ n7_ n8_; clear hb ho21) | ((with_reducible refine gate_dst (N := 9) rfl ?_); (try (refine gate_guard (by rfl) ?_; dsimp only)); refine Kd.R_lit (Kd.int .i64) _ 3 ?hg (N := 9) ?hd (xs := ([0, 2] : List Int)) (inner := [.int .i64 0, .int .i64 2]) (ok := fun _ => True) (okp := fun _ => True) ?hr ?hp (fun _ hk => hk) trivial (Below.refl _ _) (Nat.le_refl _) (by simp) ?_; (case hd => rfl); (case hg => rfl); (case hr => first | (go_simp; done) | (go_simp; rfl)); (case hp => exact (Reps.one (show Kd.M (Kd.int .i64) _ _ _ 0 [.int .i64 0] from rfl) (Reps.one (show Kd.M (Kd.int .i64) _ _ _ 2 [.int .i64 2] from rfl) (Reps.none _ _)))); intro v330 w22 ho23 hb hg_ hnew_; clear hg_ hnew_; (first | rw [← Ny329.out] at ho23 | (simp only [Int.reduceToNat] at ho23; rw [← Ny329.out] at ho23)); have n0_ := Aside0.mk (Kd.R_elder' (zR HO303.out) (Kd.R_base ho23) hb); have n1_ := Aside0.mk (Kd.N_elder' (by (with_reducible repeat (first | apply Kd.N_alloc | apply Kd.N_drewN | apply Kd.N_drew)); exact HO306.out) (Kd.R_base ho23) hb); have n2_ := Aside0.mk (Kd.R_elder' (zR HO309.out) (Kd.R_base ho23) hb); have n3_ := Aside0.mk (Kd.R_elder' (zR HO312.out) (Kd.R_base ho23) hb); have n4_ := Aside0.mk (Kd.R_elder' (zR HO319.out) (Kd.R_base ho23) hb); have n5_ := Aside0.mk (Kd.N_elder' (by (with_reducible repeat (first | apply Kd.N_alloc | apply Kd.N_drewN | apply Kd.N_drew)); exact HO322.out) (Kd.R_base ho23) hb); have n6_ := Aside0.mk (Kd.N_elder' (by (with_reducible repeat (first | apply Kd.N_alloc | apply Kd.N_drewN | apply Kd.N_drew)); exact HO325.out) (Kd.R_base ho23) hb); have n7_ := Aside0.mk (Kd.R_elder' (zR HO328.out) (Kd.R_base ho23) hb); have n8_ := Aside0.mk (Kd.R_lower (Kd.R_new' (Kd.R_new' (Kd.R_new' (Kd.R_new' (Kd.R_new' ho23 (Kd.R_lt (zR HO303.out))) (Kd.R_lt (zR HO309.out))) (Kd.R_lt (zR HO312.out))) (Kd.R_lt (zR HO319.out))) (Kd.R_lt (zR HO328.out))) (below_size (zB))); have n9_ := Aside0.mk (below_step (zB) hb); clear HO303; clear HO306; clear HO309; clear HO312; clear HO319; clear HO322; clear HO325; clear HO328; clear HB; have HO303 := n0_; have HO306 := n1_; have HO309 := n2_; have HO312 := n3_; have HO319 := n4_; have HO322 := n5_; have HO325 := n6_; have HO328 := n7_; have HO331 := n8_; have HB := n9_; clear n0_ n1_ n2_ n3_ n4_ n5_ n6_ n7_ n8_ n9_; clear hb ho23) | ((with_reducible refine gate_dst (N := 10) rfl ?_); (try (refine gate_guard (by rfl) ?_; dsimp only)); refine Kd.R_lit (Kd.int .i64) _ 3 ?hg (N := 10) ?hd (xs := ([0] : List Int)) (inner := [.int .i64 0]) (ok := fun _ => True) (okp := fun _ => True) ?hr ?hp (fun _ hk => hk) trivial (Below.refl _ _) (Nat.le_refl _) (by simp) ?_; (case hd => rfl); (case hg => rfl); (case hr => first | (go_simp; done) | (go_simp; rfl)); (case hp => exact (Reps.one (show Kd.M (Kd.int .i64) _ _ _ 0 [.int .i64 0] from rfl) (Reps.none _ _))); intro v333 w24 ho25 hb hg_ hnew_; clear hg_ hnew_; (first | rw [← Ny332.out] at ho25 | (simp only [Int.reduceToNat] at ho25; rw [← Ny332.out] at ho25)); have n0_ := Aside0.mk (Kd.R_elder' (zR HO303.out) (Kd.R_base ho25) hb); have n1_ := Aside0.mk (Kd.N_elder' (by (with_reducible repeat (first | apply Kd.N_alloc | apply Kd.N_drewN | apply Kd.N_drew)); exact HO306.out) (Kd.R_base ho25) hb); have n2_ := Aside0.mk (Kd.R_elder' (zR HO309.out) (Kd.R_base ho25) hb); have n3_ := Aside0.mk (Kd.R_elder' (zR HO312.out) (Kd.R_base ho25) hb); have n4_ := Aside0.mk (Kd.R_elder' (zR HO319.out) (Kd.R_base ho25) hb); have n5_ := Aside0.mk (Kd.N_elder' (by (with_reducible repeat (first | apply Kd.N_alloc | apply Kd.N_drewN | apply Kd.N_drew)); exact HO322.out) (Kd.R_base ho25) hb); have n6_ := Aside0.mk (Kd.N_elder' (by (with_reducible repeat (first | apply Kd.N_alloc | apply Kd.N_drewN | apply Kd.N_drew)); exact HO325.out) (Kd.R_base ho25) hb); have n7_ := Aside0.mk (Kd.R_elder' (zR HO328.out) (Kd.R_base ho25) hb); have n8_ := Aside0.mk (Kd.R_elder' (zR HO331.out) (Kd.R_base ho25) hb); have n9_ := Aside0.mk (Kd.R_lower (Kd.R_new' (Kd.R_new' (Kd.R_new' (Kd.R_new' (Kd.R_new' (Kd.R_new' ho25 (Kd.R_lt (zR HO303.out))) (Kd.R_lt (zR HO309.out))) (Kd.R_lt (zR HO312.out))) (Kd.R_lt (zR HO319.out))) (Kd.R_lt (zR HO328.out))) (Kd.R_lt (zR HO331.out))) (below_size (zB))); have n10_ := Aside0.mk (below_step (zB) hb); clear HO303; clear HO306; clear HO309; clear HO312; clear HO319; clear HO322; clear HO325; clear HO328; clear HO331; clear HB; have HO303 := n0_; have HO306 := n1_; have HO309 := n2_; have HO312 := n3_; have HO319 := n4_; have HO322 := n5_; have HO325 := n6_; have HO328 := n7_; have HO331 := n8_; have HO334 := n9_; have HB := n10_; clear n0_ n1_ n2_ n3_ n4_ n5_ n6_ n7_ n8_ n9_ n10_; clear hb ho25; obtain ⟨Ao26, co26, eo26⟩ := Kd.R_slice HO328.out; subst eo26; obtain ⟨Ao27, co27, eo27⟩ := Kd.R_slice HO331.out; subst eo27; obtain ⟨Ao28, co28, eo28⟩ := Kd.R_slice HO334.out; subst eo28) | ((with_reducible refine gate_dst (N := 11) rfl ?_); (try (refine gate_guard (by rfl) ?_; dsimp only)); refine Kd.N_lit (Kd.slice 3 (Kd.int .i64)) _ 22 ?hg (N' := 11) ?hd (xs := ([y326, y329, y332] : List (List Int))) (inner := [.slice Ao26 y326.length co26, .slice Ao27 y329.length co27, .slice Ao28 y332.length co28]) (ok := (fun k_ => some k_ ≠ (.slice Ao9 t301.length co9 : Value).ownBlock ∧ some k_ ≠ (.slice Ao10 t304.length co10 : Value).ownBlock ∧ some k_ ≠ (.slice Ao14 t307.length co14 : Value).ownBlock ∧ some k_ ≠ (.slice Ao15 y310.length co15 : Value).ownBlock ∧ some k_ ≠ (.slice Ao17 t317.length co17 : Value).ownBlock ∧ some k_ ≠ (.slice Ao18 t320.length co18 : Value).ownBlock ∧ some k_ ≠ (v324 : Value).ownBlock)) (okp := (fun k_ => some k_ ≠ (.slice Ao9 t301.length co9 : Value).ownBlock ∧ some k_ ≠ (.slice Ao10 t304.length co10 : Value).ownBlock ∧ some k_ ≠ (.slice Ao14 t307.length co14 : Value).ownBlock ∧ some k_ ≠ (.slice Ao15 y310.length co15 : Value).ownBlock ∧ some k_ ≠ (.slice Ao17 t317.length co17 : Value).ownBlock ∧ some k_ ≠ (.slice Ao18 t320.length co18 : Value).ownBlock ∧ some k_ ≠ (v324 : Value).ownBlock)) ?hr ?hp (fun _ hk => hk) ((show ∀ k_, w24.heap.size ≤ k_ → (fun k_ => some k_ ≠ (.slice Ao9 t301.length co9 : Value).ownBlock ∧ some k_ ≠ (.slice Ao10 t304.length co10 : Value).ownBlock ∧ some k_ ≠ (.slice Ao14 t307.length co14 : Value).ownBlock ∧ some k_ ≠ (.slice Ao15 y310.length co15 : Value).ownBlock ∧ some k_ ≠ (.slice Ao17 t317.length co17 : Value).ownBlock ∧ some k_ ≠ (.slice Ao18 t320.length co18 : Value).ownBlock ∧ some k_ ≠ (v324 : Value).ownBlock) k_ from fun k_ hk => ⟨Kd.fresh' (Kd.R_lt (zR HO303.out)) k_ hk, Kd.fresh' (Kd.N_lt (by (with_reducible repeat (first | apply Kd.N_alloc | apply Kd.N_drewN | apply Kd.N_drew)); exact HO306.out)) k_ hk, Kd.fresh' (Kd.R_lt (zR HO309.out)) k_ hk, Kd.fresh' (Kd.R_lt (zR HO312.out)) k_ hk, Kd.fresh' (Kd.R_lt (zR HO319.out)) k_ hk, Kd.fresh' (Kd.N_lt (by (with_reducible repeat (first | apply Kd.N_alloc | apply Kd.N_drewN | apply Kd.N_drew)); exact HO322.out)) k_ hk, Kd.fresh' (Kd.N_lt (by (with_reducible repeat (first | apply Kd.N_alloc | apply Kd.N_drewN | apply Kd.N_drew)); exact HO325.out)) k_ hk⟩) _ (Nat.le_refl _)) (Below.refl _ _) (Nat.le_refl _) (by simp) ?_; (case hd => rfl); (case hg => rfl); (case hr => first | (go_simp; done) | (go_simp; rfl)); (case hp => exact (Reps.one (show Kd.FK (Kd.slice 3 (Kd.int .i64)) _ _ y326 [.slice Ao26 y326.length co26] from (Kd.FK_slice_mk (Kd.R_reads' (Kd.R_mono (ok' := (fun k_ => some k_ ≠ (.slice Ao9 t301.length co9 : Value).ownBlock ∧ some k_ ≠ (.slice Ao10 t304.length co10 : Value).ownBlock ∧ some k_ ≠ (.slice Ao14 t307.length co14 : Value).ownBlock ∧ some k_ ≠ (.slice Ao15 y310.length co15 : Value).ownBlock ∧ some k_ ≠ (.slice Ao17 t317.length co17 : Value).ownBlock ∧ some k_ ≠ (.slice Ao18 t320.length co18 : Value).ownBlock ∧ some k_ ≠ (v324 : Value).ownBlock)) (Kd.R_apart' (Kd.R_apart' (Kd.R_apart' (HO328.out) (Kd.N_typed HO306.out) (by decide)) (Kd.N_typed HO322.out) (by decide)) (Kd.N_typed HO325.out) (by decide)) (fun k_ hk => ⟨hk.1.1.1.1.1.1.1.1.2, ⟨hk.1.1.2, ⟨hk.1.1.1.1.1.1.1.2, ⟨hk.1.1.1.1.1.1.2, ⟨hk.1.1.1.1.1.2, ⟨hk.1.2, hk.2⟩⟩⟩⟩⟩⟩))).2.1 (Kd.R_F (Kd.R_mono (ok' := (fun k_ => some k_ ≠ (.slice Ao9 t301.length co9 : Value).ownBlock ∧ some k_ ≠ (.slice Ao10 t304.length co10 : Value).ownBlock ∧ some k_ ≠ (.slice Ao14 t307.length co14 : Value).ownBlock ∧ some k_ ≠ (.slice Ao15 y310.length co15 : Value).ownBlock ∧ some k_ ≠ (.slice Ao17 t317.length co17 : Value).ownBlock ∧ some k_ ≠ (.slice Ao18 t320.length co18 : Value).ownBlock ∧ some k_ ≠ (v324 : Value).ownBlock)) (Kd.R_apart' (Kd.R_apart' (Kd.R_apart' (HO328.out) (Kd.N_typed HO306.out) (by decide)) (Kd.N_typed HO322.out) (by decide)) (Kd.N_typed HO325.out) (by decide)) (fun k_ hk => ⟨hk.1.1.1.1.1.1.1.1.2, ⟨hk.1.1.2, ⟨hk.1.1.1.1.1.1.1.2, ⟨hk.1.1.1.1.1.1.2, ⟨hk.1.1.1.1.1.2, ⟨hk.1.2, hk.2⟩⟩⟩⟩⟩⟩))))) (Reps.one (show Kd.FK (Kd.slice 3 (Kd.int .i64)) _ _ y329 [.slice Ao27 y329.length co27] from (Kd.FK_slice_mk (Kd.R_reads' (Kd.R_mono (ok' := (fun k_ => some k_ ≠ (.slice Ao9 t301.length co9 : Value).ownBlock ∧ some k_ ≠ (.slice Ao10 t304.length co10 : Value).ownBlock ∧ some k_ ≠ (.slice Ao14 t307.length co14 : Value).ownBlock ∧ some k_ ≠ (.slice Ao15 y310.length co15 : Value).ownBlock ∧ some k_ ≠ (.slice Ao17 t317.length co17 : Value).ownBlock ∧ some k_ ≠ (.slice Ao18 t320.length co18 : Value).ownBlock ∧ some k_ ≠ (v324 : Value).ownBlock)) (Kd.R_apart' (Kd.R_apart' (Kd.R_apart' (HO331.out) (Kd.N_typed HO306.out) (by decide)) (Kd.N_typed HO322.out) (by decide)) (Kd.N_typed HO325.out) (by decide)) (fun k_ hk => ⟨hk.1.1.1.1.1.1.1.1.2, ⟨hk.1.1.2, ⟨hk.1.1.1.1.1.1.1.2, ⟨hk.1.1.1.1.1.1.2, ⟨hk.1.1.1.1.1.2, ⟨hk.1.2, hk.2⟩⟩⟩⟩⟩⟩))).2.1 (Kd.R_F (Kd.R_mono (ok' := (fun k_ => some k_ ≠ (.slice Ao9 t301.length co9 : Value).ownBlock ∧ some k_ ≠ (.slice Ao10 t304.length co10 : Value).ownBlock ∧ some k_ ≠ (.slice Ao14 t307.length co14 : Value).ownBlock ∧ some k_ ≠ (.slice Ao15 y310.length co15 : Value).ownBlock ∧ some k_ ≠ (.slice Ao17 t317.length co17 : Value).ownBlock ∧ some k_ ≠ (.slice Ao18 t320.length co18 : Value).ownBlock ∧ some k_ ≠ (v324 : Value).ownBlock)) (Kd.R_apart' (Kd.R_apart' (Kd.R_apart' (HO331.out) (Kd.N_typed HO306.out) (by decide)) (Kd.N_typed HO322.out) (by decide)) (Kd.N_typed HO325.out) (by decide)) (fun k_ hk => ⟨hk.1.1.1.1.1.1.1.1.2, ⟨hk.1.1.2, ⟨hk.1.1.1.1.1.1.1.2, ⟨hk.1.1.1.1.1.1.2, ⟨hk.1.1.1.1.1.2, ⟨hk.1.2, hk.2⟩⟩⟩⟩⟩⟩))))) (Reps.one (show Kd.FK (Kd.slice 3 (Kd.int .i64)) _ _ y332 [.slice Ao28 y332.length co28] from (Kd.FK_slice_mk (Kd.R_reads' (Kd.R_mono (ok' := (fun k_ => some k_ ≠ (.slice Ao9 t301.length co9 : Value).ownBlock ∧ some k_ ≠ (.slice Ao10 t304.length co10 : Value).ownBlock ∧ some k_ ≠ (.slice Ao14 t307.length co14 : Value).ownBlock ∧ some k_ ≠ (.slice Ao15 y310.length co15 : Value).ownBlock ∧ some k_ ≠ (.slice Ao17 t317.length co17 : Value).ownBlock ∧ some k_ ≠ (.slice Ao18 t320.length co18 : Value).ownBlock ∧ some k_ ≠ (v324 : Value).ownBlock)) (Kd.R_apart' (Kd.R_apart' (Kd.R_apart' (HO334.out) (Kd.N_typed HO306.out) (by decide)) (Kd.N_typed HO322.out) (by decide)) (Kd.N_typed HO325.out) (by decide)) (fun k_ hk => ⟨hk.1.1.1.1.1.1.1.1.2, ⟨hk.1.1.2, ⟨hk.1.1.1.1.1.1.1.2, ⟨hk.1.1.1.1.1.1.2, ⟨hk.1.1.1.1.1.2, ⟨hk.1.2, hk.2⟩⟩⟩⟩⟩⟩))).2.1 (Kd.R_F (Kd.R_mono (ok' := (fun k_ => some k_ ≠ (.slice Ao9 t301.length co9 : Value).ownBlock ∧ some k_ ≠ (.slice Ao10 t304.length co10 : Value).ownBlock ∧ some k_ ≠ (.slice Ao14 t307.length co14 : Value).ownBlock ∧ some k_ ≠ (.slice Ao15 y310.length co15 : Value).ownBlock ∧ some k_ ≠ (.slice Ao17 t317.length co17 : Value).ownBlock ∧ some k_ ≠ (.slice Ao18 t320.length co18 : Value).ownBlock ∧ some k_ ≠ (v324 : Value).ownBlock)) (Kd.R_apart' (Kd.R_apart' (Kd.R_apart' (HO334.out) (Kd.N_typed HO306.out) (by decide)) (Kd.N_typed HO322.out) (by decide)) (Kd.N_typed HO325.out) (by decide)) (fun k_ hk => ⟨hk.1.1.1.1.1.1.1.1.2, ⟨hk.1.1.2, ⟨hk.1.1.1.1.1.1.1.2, ⟨hk.1.1.1.1.1.1.2, ⟨hk.1.1.1.1.1.2, ⟨hk.1.2, hk.2⟩⟩⟩⟩⟩⟩))))) (Reps.none _ _))))); intro v336 w29 ho30 hb hg_ hnew_; clear hg_ hnew_; (first | rw [← Ny335.out] at ho30 | (simp only [Int.reduceToNat] at ho30; rw [← Ny335.out] at ho30)); have n0_ := Aside0.mk (Kd.R_below (zR HO303.out) hb); have n1_ := Aside0.mk (Kd.N_elder' (by (with_reducible repeat (first | apply Kd.N_alloc | apply Kd.N_drewN | apply Kd.N_drew)); exact HO306.out) (by first | exact Kd.N_base ho30 | exact Kd.R_base (Kd.S_R ho30)) hb); have n2_ := Aside0.mk (Kd.R_below (zR HO309.out) hb); have n3_ := Aside0.mk (Kd.R_below (zR HO312.out) hb); have n4_ := Aside0.mk (Kd.R_below (zR HO319.out) hb); have n5_ := Aside0.mk (Kd.N_elder' (by (with_reducible repeat (first | apply Kd.N_alloc | apply Kd.N_drewN | apply Kd.N_drew)); exact HO322.out) (by first | exact Kd.N_base ho30 | exact Kd.R_base (Kd.S_R ho30)) hb); have n6_ := Aside0.mk (Kd.N_elder' (by (with_reducible repeat (first | apply Kd.N_alloc | apply Kd.N_drewN | apply Kd.N_drew)); exact HO325.out) (by first | exact Kd.N_base ho30 | exact Kd.R_base (Kd.S_R ho30)) hb); have n7_ := Aside0.mk (Kd.N_lower ho30 (below_size (zB))); have n8_ := Aside0.mk (below_step (zB) hb); clear HO303; clear HO306; clear HO309; clear HO312; clear HO319; clear HO322; clear HO325; clear HB; clear HO328; clear HO331; clear HO334; have HO303 := n0_; have HO306 := n1_; have HO309 := n2_; have HO312 := n3_; have HO319 := n4_; have HO322 := n5_; have HO325 := n6_; have HO337 := n7_; have HB := n8_; clear n0_ n1_ n2_ n3_ n4_ n5_ n6_ n7_ n8_; clear hb ho30; obtain ⟨Ao31, co31, eo31⟩ := Kd.N_slice HO325.out; subst eo31; obtain ⟨Ao32, co32, eo32⟩ := Kd.N_slice HO337.out; subst eo32) | (go_at_call 30; (with_reducible refine (balustradebase_SameLists.calls k _ _ t323 _ _ y335 t338 _ ?side1 ?side2 ?side3 ?side4 A7.out).mono ?_); (case side1 => exact zC (Kd.N_reads' HO325.out).2.2); (case side2 => exact (Kd.N_reads' HO325.out).2.1); (case side3 => exact zC (Kd.N_reads' HO337.out).2.2); (case side4 => exact (Kd.N_reads' HO337.out).2.1); rintro e w' ⟨rfl, ⟨nd, rfl⟩⟩))
  go_ret
  exact ⟨by first | rfl | (simp [errW_none, errW_some] <;> rfl) | (simp [*, errW_none, errW_some] <;> rfl), zB⟩
 ·replace c4 := Bool.eq_false_iff.mpr c4
  subst c4
  have H1 : (some false) = some r := by rw [if_neg (show ¬ (false = true) by decide)] at H; exact H
  clear H
  have H := H1
  clear H1
  obtain rfl := Option.some.inj H
  go_enter Try.func26, Try.ntmps26
  go_wp2_with (first | ((with_reducible refine gate_callee (f := 53) rfl ?_); refine goesL_ (some 1) rfl rfl Try.func53 (by kernel_rfl) rfl #[] rfl zE ?_; (with_reducible refine (balustradelaw17_three.calls  t298 t299 t300 t301 t304 _ A1.out).mono ?_); rintro e w33 ⟨v302, v305, rfl, ho0, ho1, hb⟩; refine ⟨_, rfl, ?_⟩; have n0_ := Aside0.mk (Kd.R_lower (Kd.R_mono (ok' := fun k_ => True) ho0 (fun _ hk_ => trivial)) (below_size (zB))); have n1_ := Aside0.mk (Kd.N_lower (Kd.N_mono (ok' := fun k_ => some k_ ≠ (v302 : Value).ownBlock) ho1 (fun k_ hk_ => hk_.2)) (below_size (zB))); have n2_ := Aside0.mk (below_step (zB) hb); clear HB; have HO303 := n0_; have HO306 := n1_; have HB := n2_; clear n0_ n1_ n2_; (try clear hb); (try clear hb2); (try clear hk); (try clear hi); (try clear ho0); (try clear ho1); obtain ⟨Ao34, co34, eo34⟩ := Kd.R_slice HO303.out; subst eo34; obtain ⟨Ao35, co35, eo35⟩ := Kd.N_slice HO306.out; subst eo35) | ((with_reducible refine gate_callee (f := 37) rfl ?_); refine goesL_ (some 2) rfl rfl Try.func37 (by kernel_rfl) rfl #[.agg #[.string t298, .int .i64 t299, .int .i64 t300, .slice Ao34 t301.length co34, .slice Ao35 t304.length co35]] rfl zE ?_; (with_reducible refine (graph_Order.calls k t298 t299 t300 _ _ t301 _ _ t304 t307 _ ?side1 ?side2 ?side3 ?side4 A2.out).mono ?_); (case side1 => exact zC (Kd.R_reads' HO303.out).2.2); (case side2 => exact (Kd.R_reads' HO303.out).2.1); (case side3 => exact zC (Kd.N_reads' HO306.out).2.2); (case side4 => exact (Kd.N_reads' HO306.out).2.1); rintro e w36 ⟨v308, rfl, ho0, hb⟩; refine ⟨_, rfl, ?_⟩; have n0_ := Aside0.mk (Kd.R_elder' (zR HO303.out) (Kd.R_base ho0) hb); have n1_ := Aside0.mk (Kd.N_elder' (by (with_reducible repeat (first | apply Kd.N_alloc | apply Kd.N_drewN | apply Kd.N_drew)); exact HO306.out) (Kd.R_base ho0) hb); have n2_ := Aside0.mk (Kd.R_lower (Kd.R_new' ho0 (Kd.R_lt (zR HO303.out))) (below_size (zB))); have n3_ := Aside0.mk (below_step (zB) hb); clear HO303; clear HO306; clear HB; have HO303 := n0_; have HO306 := n1_; have HO309 := n2_; have HB := n3_; clear n0_ n1_ n2_ n3_; (try clear hb); (try clear hb2); (try clear hk); (try clear hi); (try clear ho0)) | ((with_reducible refine gate_dst (N := 3) rfl ?_); (try (refine gate_guard (by rfl) ?_; dsimp only)); refine Kd.R_lit (Kd.int .i64) _ 3 ?hg (N := 3) ?hd (xs := ([0, 2, 1] : List Int)) (inner := [.int .i64 0, .int .i64 2, .int .i64 1]) (ok := fun _ => True) (okp := fun _ => True) ?hr ?hp (fun _ hk => hk) trivial (Below.refl _ _) (Nat.le_refl _) (by simp) ?_; (case hd => rfl); (case hg => rfl); (case hr => first | (go_simp; done) | (go_simp; rfl)); (case hp => exact (Reps.one (show Kd.M (Kd.int .i64) _ _ _ 0 [.int .i64 0] from rfl) (Reps.one (show Kd.M (Kd.int .i64) _ _ _ 2 [.int .i64 2] from rfl) (Reps.one (show Kd.M (Kd.int .i64) _ _ _ 1 [.int .i64 1] from rfl) (Reps.none _ _))))); intro v311 w37 ho38 hb hg_ hnew_; clear hg_ hnew_; (first | rw [← Ny310.out] at ho38 | (simp only [Int.reduceToNat] at ho38; rw [← Ny310.out] at ho38)); have n0_ := Aside0.mk (Kd.R_elder' (zR HO303.out) (Kd.R_base ho38) hb); have n1_ := Aside0.mk (Kd.N_elder' (by (with_reducible repeat (first | apply Kd.N_alloc | apply Kd.N_drewN | apply Kd.N_drew)); exact HO306.out) (Kd.R_base ho38) hb); have n2_ := Aside0.mk (Kd.R_elder' (zR HO309.out) (Kd.R_base ho38) hb); have n3_ := Aside0.mk (Kd.R_lower (Kd.R_new' (Kd.R_new' ho38 (Kd.R_lt (zR HO303.out))) (Kd.R_lt (zR HO309.out))) (below_size (zB))); have n4_ := Aside0.mk (below_step (zB) hb); clear HO303; clear HO306; clear HO309; clear HB; have HO303 := n0_; have HO306 := n1_; have HO309 := n2_; have HO312 := n3_; have HB := n4_; clear n0_ n1_ n2_ n3_ n4_; clear hb ho38; obtain ⟨Ao39, co39, eo39⟩ := Kd.R_slice HO309.out; subst eo39; obtain ⟨Ao40, co40, eo40⟩ := Kd.R_slice HO312.out; subst eo40) | ((with_reducible refine gate_callee (f := 14) rfl ?_); refine goesL_ (some 4) rfl rfl Try.func14 (by kernel_rfl) rfl #[.slice Ao39 t307.length co39, .slice Ao40 y310.length co40] rfl zE ?_; (with_reducible refine (balustradebase_SameInts.calls k _ _ t307 _ _ y310 false _ ?side1 ?side2 ?side3 ?side4 A3.out).mono ?_); (case side1 => exact zC (Kd.R_reads' HO309.out).2.2); (case side2 => exact (Kd.R_reads' HO309.out).2.1); (case side3 => exact zC (Kd.R_reads' HO312.out).2.2); (case side4 => exact (Kd.R_reads' HO312.out).2.1); rintro e w' ⟨rfl, ⟨nd, rfl⟩⟩; refine ⟨_, rfl, ?_⟩))
  go_ret
  exact ⟨by first | rfl | (simp [errW_none, errW_some] <;> rfl) | (simp [*, errW_none, errW_some] <;> rfl), zB⟩
def balustraderef17_SameTruths.l0 : Nat → List Bool → List Bool → Int → Option (Bool)
 | 0, _, _, _ => none
 | k + 1, x0, x1, x5 => if x5 < (x0.length : Int) then (if 0 ≤ x5 then (if x5 < (x1.length : Int) then (if ((rdOf false x0 x5) != (rdOf false x1 x5)) = true then (some false) else (balustraderef17_SameTruths.l0 k x0 x1 (wrap64 (x5 + 1)))) else (none)) else (none)) else (some true)
def balustraderef17_SameTruths.f (k : Nat) (l0 : List Bool) (l1 : List Bool) : Option (Bool) := if (l0.length : Int) = (l1.length : Int) then (balustraderef17_SameTruths.l0 k l0 l1 0) else (some false)
set_option maxHeartbeats 8000000 in
set_option maxRecDepth 100000 in
theorem balustraderef17_SameTruths.calls (k : Nat) (A0 : Option Addr) (c0 : Nat) (l0 : List Bool) (A1 : Option Addr) (c1 : Nat) (l1 : List Bool) (r : Bool) (w : World) (hr0 : Kd.C Kd.bool w A0 l0.length l0) (hc0 : l0.length ≤ c0) (hr1 : Kd.C Kd.bool w A1 l1.length l1) (hc1 : l1.length ≤ c1) (h : balustraderef17_SameTruths.f k l0 l1 = some r) :
  Calls Try.prog 27 #[.slice A0 l0.length c0, .slice A1 l1.length c1] w fun e w' => e = .returned (.bool r) ∧ Drawn0 w w' := by
 have HR0 := Aside0.mk hr0
 have HC0 := Aside0.mk hc0
 clear hr0 hc0
 have HR1 := Aside0.mk hr1
 have HC1 := Aside0.mk hc1
 clear hr1 hc1
 have H : (if (l0.length : Int) = (l1.length : Int) then (balustraderef17_SameTruths.l0 k l0 l1 0) else (some false)) = some r := h
 clear h
 by_cases c3 : (l0.length : Int) = (l1.length : Int)
 ·rw [if_pos c3] at H
  have c3b0 : ((l0.length : Int) == (l1.length : Int)) = true := beq_iff_eq.mpr c3
  have c3b1 : ((l0.length : Int) != (l1.length : Int)) = false := bne_eq_false_iff_eq.mpr c3
  have c3b2 : (l0.length == l1.length) = true := by first | simpa using c3 | (simp at c3 ⊢; omega)
  clear c3
  have H' := Aside0.mk H
  clear H
  go_enter Try.func27, Try.ntmps27
  go_wp2
  repeat (go_quiet (fail); try go_wp2)
  go_loopg [5] k (fun kq v5 w' => ∃ (x5_1 : Int), v5 = .int .i64 x5_1 ∧ Aside0 (balustraderef17_SameTruths.l0 kq l0 l1 x5_1 = some r) ∧ Aside0 (kq ≤ k) ∧ Drawn0 w w')
  case atStart => exact ⟨(0), (by first | rfl | (simp; done) | (simp [*]; done)), H', ⟨Nat.le_refl _⟩, by repeat (first | exact Drawn0.refl _ | apply Drawn0.step)⟩
  case round =>
   clear H'
   try clear c1
   try clear c2
   try clear p2
   try clear c3
   try clear c3b0
   try clear c3b1
   try clear c3b2
   obtain ⟨x5_1, rfl, HA, HK1, ⟨m1, rfl⟩⟩ := hrel
   cases gk with
   | zero => exact absurd HA.out (by simp [balustraderef17_SameTruths.l0])
   | succ k1 =>
    have H := HA.out
    clear HA
    simp only [balustraderef17_SameTruths.l0] at H
    by_cases c4 : x5_1 < (l0.length : Int)
    ·rw [if_pos c4] at H
     have c4b0 : decide (x5_1 < (l0.length : Int)) = true := decide_eq_true c4
     clear c4
     by_cases c5 : 0 ≤ x5_1
     ·rw [if_pos c5] at H
      have c5b0 : decide (0 ≤ x5_1) = true := decide_eq_true c5
      clear c5
      by_cases c6 : x5_1 < (l1.length : Int)
      ·rw [if_pos c6] at H
       have c6b0 : decide (x5_1 < (l1.length : Int)) = true := decide_eq_true c6
       clear c6
       by_cases c7 : ((rdOf false l0 x5_1) != (rdOf false l1 x5_1)) = true
       ·rw [if_pos c7] at H
        have c7b0 : ((rdOf false l0 x5_1) != (rdOf false l1 x5_1)) = true := c7
        (try (have c7b1 : decide ((rdOf false l0 x5_1) = (rdOf false l1 x5_1)) = false := by simpa using c7))
        (try (have c7b2 : ((rdOf false l0 x5_1) == (rdOf false l1 x5_1)) = false := by simpa using c7))
        (try (have c7b3 : ¬ ((rdOf false l0 x5_1) = (rdOf false l1 x5_1)) := by simpa using c7))
        clear c7
        obtain rfl := Option.some.inj H
        have p339 : 0 ≤ (x5_1 : Int) := of_decide_eq_true (by first | (with_reducible assumption) | assumption)
        have q339 : x5_1 < (l0.length : Int) := of_decide_eq_true (by first | (with_reducible assumption) | assumption)
        obtain ⟨ad339, e339, hx339_0⟩ := Kd.at_bool HR0.out x5_1 p339 q339
        cases e339
        replace p339 := eq_true p339
        replace q339 := eq_true q339
        have p340 : 0 ≤ (x5_1 : Int) := of_decide_eq_true (by first | (with_reducible assumption) | assumption)
        have q340 : x5_1 < (l1.length : Int) := of_decide_eq_true (by first | (with_reducible assumption) | assumption)
        obtain ⟨ad340, e340, hx340_0⟩ := Kd.at_bool HR1.out x5_1 p340 q340
        cases e340
        replace p340 := eq_true p340
        replace q340 := eq_true q340
        go_wp2
        repeat (go_quiet (fail); try go_wp2)
        go_ret
        exact ⟨by first | rfl | (simp; done) | (simp [*]; done), by repeat (first | exact Drawn0.refl _ | apply Drawn0.step)⟩
       ·rw [if_neg c7] at H
        have c7b0 : ((rdOf false l0 x5_1) != (rdOf false l1 x5_1)) = false := by simpa using c7
        (try (have c7b1 : decide ((rdOf false l0 x5_1) = (rdOf false l1 x5_1)) = true := by simpa using c7))
        (try (have c7b2 : ((rdOf false l0 x5_1) == (rdOf false l1 x5_1)) = true := by simpa using c7))
        clear c7
        have H' := Aside0.mk H
        clear H
        have p339 : 0 ≤ (x5_1 : Int) := of_decide_eq_true (by first | (with_reducible assumption) | assumption)
        have q339 : x5_1 < (l0.length : Int) := of_decide_eq_true (by first | (with_reducible assumption) | assumption)
        obtain ⟨ad339, e339, hx339_0⟩ := Kd.at_bool HR0.out x5_1 p339 q339
        cases e339
        replace p339 := eq_true p339
        replace q339 := eq_true q339
        have p340 : 0 ≤ (x5_1 : Int) := of_decide_eq_true (by first | (with_reducible assumption) | assumption)
        have q340 : x5_1 < (l1.length : Int) := of_decide_eq_true (by first | (with_reducible assumption) | assumption)
        obtain ⟨ad340, e340, hx340_0⟩ := Kd.at_bool HR1.out x5_1 p340 q340
        cases e340
        replace p340 := eq_true p340
        replace q340 := eq_true q340
        go_wp2
        repeat (go_quiet (fail); try go_wp2)
        go_roundg k1
        case measure => have := HK1.out; omega
        case rel => exact ⟨(wrap64 (x5_1 + 1)), (by first | rfl | (simp; done) | (simp [*]; done)), H', ⟨by have := HK1.out; omega⟩, by repeat (first | exact Drawn0.refl _ | apply Drawn0.step)⟩
      ·rw [if_neg c6] at H
       exact absurd H (by simp)
     ·rw [if_neg c5] at H
      exact absurd H (by simp)
    ·rw [if_neg c4] at H
     have c4b0 : decide (x5_1 < (l0.length : Int)) = false := decide_eq_false c4
     clear c4
     obtain rfl := Option.some.inj H
     go_wp2
     repeat (go_quiet (fail); try go_wp2)
     go_ret
     exact ⟨by first | rfl | (simp; done) | (simp [*]; done), by repeat (first | exact Drawn0.refl _ | apply Drawn0.step)⟩
 ·rw [if_neg c3] at H
  have c3b0 : ((l0.length : Int) == (l1.length : Int)) = false := beq_eq_false_iff_ne.mpr c3
  have c3b1 : ((l0.length : Int) != (l1.length : Int)) = true := bne_iff_ne.mpr c3
  have c3b2 : (l0.length == l1.length) = false := by first | simpa using c3 | (simp at c3 ⊢; omega)
  obtain rfl := Option.some.inj H
  go_enter Try.func27, Try.ntmps27
  go_wp2
  repeat (go_quiet (fail); try go_wp2)
  go_ret
  exact ⟨by first | rfl | (simp; done) | (simp [*]; done), by repeat (first | exact Drawn0.refl _ | apply Drawn0.step)⟩
def graph_Without.f (k : Nat) (a0_0 : ByteArray) (a0_1 : Int) (a0_2 : Int) (l0_3 : List Int) (l0_4 : List (List (S24))) (a1 : Int) : Option (List Bool) := (graph_Succs.f k a0_0 a0_1 a0_2 l0_3 l0_4).bind fun s => (if gtOk s = true then (some (gtAll s a1).1) else none)
set_option maxHeartbeats 8000000 in
set_option maxRecDepth 100000 in
theorem graph_Without.calls (k : Nat) (a0_0 : ByteArray) (a0_1 : Int) (a0_2 : Int) (A0_3 : Option Addr) (c0_3 : Nat) (l0_3 : List Int) (A0_4 : Option Addr) (c0_4 : Nat) (l0_4 : List (List (S24))) (a1 : Int) (r : List Bool) (w : World) (hr0_3 : Kd.C (Kd.int .i64) w A0_3 l0_3.length l0_3) (hc0_3 : l0_3.length ≤ c0_3) (hr0_4 : Kd.C (Kd.slice 24 k24) w A0_4 l0_4.length l0_4) (hc0_4 : l0_4.length ≤ c0_4) (h : graph_Without.f k a0_0 a0_1 a0_2 l0_3 l0_4 a1 = some r) :
  Calls Try.prog 28 #[.agg #[.string a0_0, .int .i64 a0_1, .int .i64 a0_2, .slice A0_3 l0_3.length c0_3, .slice A0_4 l0_4.length c0_4], .int .i64 a1] w fun e w' => ∃ v0_ : Value, e = .returned (v0_) ∧ Kd.R Kd.bool 4 w' w.heap.size (fun _ => True) v0_ r ∧ Below w.heap.size w w' := by
 have hu35 := Try.underlying35
 unfold graph_Without.f at h
 obtain ⟨s, hs, h⟩ := Option.bind_eq_some_iff.mp h
 by_cases hok : gtOk s = true
 rotate_left
 ·rw [if_neg hok] at h; cases h
 rw [if_pos hok] at h
 obtain ⟨hls, hval⟩ := gtOk_out hok
 obtain rfl := Option.some.inj h
 have hb0 := below_alloc (Below.refl w.heap.size w) (.cells #[.string a0_0, .int .i64 a0_1, .int .i64 a0_2, .slice A0_3 l0_3.length c0_3, .slice A0_4 l0_4.length c0_4] 35)
 have HR3 := Aside0.mk (Kd.C_below hr0_3 hb0)
 have HR4 := Aside0.mk (Kd.C_below hr0_4 hb0)
 have HC3 := Aside0.mk (hc0_3)
 have HC4 := Aside0.mk (hc0_4)
 have HB := Aside0.mk (hb0)
 have HS := Aside0.mk (hs)
 have HLS := Aside0.mk (hls)
 have HVAL := Aside0.mk (hval)
 clear hr0_3 hr0_4 hc0_3 hc0_4 hb0 hs hls hval hok h
 go_enter Try.func28, Try.ntmps28
 go_wp2_with (first | (go_at_call 31; ((with_reducible refine (graph_Succs.calls k a0_0 a0_1 a0_2 A0_3 c0_3 l0_3 A0_4 c0_4 l0_4 s _ HR3.out HC3.out HR4.out HC4.out HS.out).mono ?_); rintro e w' ⟨v_, rfl, hS_, hb⟩; obtain ⟨As, cs, rfl⟩ := Kd.S_slice hS_; have HSS := Aside0.mk hS_; have HB2 := Aside0.mk (below_step HB.out hb); have HB3 := Aside0.mk hb; clear hS_ hb)) | (go_at_call 54; ((with_reducible refine (gt_through_w s a1 w.heap.size w w' As cs (fun _ _ => True) HVAL.out HLS.out HB2.out HB2.out.size (Kd.F_mono (gt_F_of_S HSS.out) (fun _ _ => trivial)) trivial (fun _ _ _ _ => trivial) (fun _ _ _ _ _ _ _ _ _ => trivial) (fun Wc g _ _ _ l k W _ hI _ => (gt_leftW k W).mono (fun e W' h => by rcases h with ⟨rfl, rfl⟩; exact ⟨rfl, hI, rfl, trivial⟩))).mono ?_); rintro e w2 ⟨g, rfl, hG, _, hg, hB5⟩; have HG := Aside0.mk hG; have HGE := Aside0.mk hg; have HB5 := Aside0.mk hB5; clear hG hg hB5)))
 go_ret
 exact ⟨_, rfl, gt_own HG.out (gtAll_len s a1) (Nat.le_trans HB2.out.size HGE.out) HLS.out, HB5.out⟩
end Go.Proofs.Ytlhaopjdpkhogaa.P

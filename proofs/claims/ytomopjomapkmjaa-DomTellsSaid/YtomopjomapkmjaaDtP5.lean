/- A part of it. -/
import Derived.Test.YtomopjomapkmjaaDtP0
import Derived.Test.YtomopjomapkmjaaDtP1
import Derived.Test.YtomopjomapkmjaaDtP4
namespace Go.Proofs.Ytomopjomapkmjaa.P
open Go.RowKit Go.Proofs.YtomopjomapkmjaaW.PrintWords Go.Proofs.YtomopjomapkmjaaW.PrintLast Go.Proofs.YtomopjomapkmjaaW.PrintMore
attribute [local go_sem] max2_int min2_int max_two min_two max_three min_three max_four min_four   
set_option linter.unusedVariables false
set_option linter.unusedSimpArgs false
def slices_Reverse_int_int.l0 : Nat → List Int → Int → Int → Option (List Int)
 | 0, _, _, _ => none
 | k + 1, x0, x2, x3 => if x2 < x3 then (if 0 ≤ x3 then (if x3 < (x0.length : Int) then (if 0 ≤ x2 then (if x2 < (x0.length : Int) then (slices_Reverse_int_int.l0 k ((x0.set (x2 : Int).toNat (rd x0 x3)).set (x3 : Int).toNat (rd x0 x2)) (wrap64 (x2 + 1)) (wrap64 (x3 - 1))) else (none)) else (none)) else (none)) else (none)) else (some x0)
def slices_Reverse_int_int.f (k : Nat) (l0 : List Int) : Option (List Int) := slices_Reverse_int_int.l0 k l0 0 (wrap64 ((l0.length : Int) - 1))
theorem slices_Reverse_int_int.mono_l : ∀ k, (∀ y0 y1 y2, LeO (slices_Reverse_int_int.l0 k y0 y1 y2) (slices_Reverse_int_int.l0 (k + 1) y0 y1 y2))
 | 0 => fun _ _ _ r h => by simp [slices_Reverse_int_int.l0] at h
 | k + 1 => by
  have ih0 := slices_Reverse_int_int.mono_l k
  ·intro y0 y1 y2
   unfold slices_Reverse_int_int.l0
   repeat' first
   | (with_reducible exact ih0 _ _ _)
   | (with_reducible exact LeO.refl _)
   | (with_reducible exact LeO.none _)
   | (with_reducible refine LeO.ite ?_ ?_)
   | (with_reducible refine LeO.bind ?_ (fun _ => ?_))
   | exact ih0 _ _ _
   | exact LeO.none _
   | refine LeO.ite ?_ ?_
   | refine LeO.bind ?_ (fun _ => ?_)
theorem slices_Reverse_int_int.mono : ∀ a0 k, LeO (slices_Reverse_int_int.f k a0) (slices_Reverse_int_int.f (k + 1) a0) := by
 intro a0 k
 have ih0 := slices_Reverse_int_int.mono_l k
 unfold slices_Reverse_int_int.f
 repeat' first
   | (with_reducible exact ih0 _ _ _)
   | (with_reducible exact LeO.refl _)
   | (with_reducible exact LeO.none _)
   | (with_reducible refine LeO.ite ?_ ?_)
   | (with_reducible refine LeO.bind ?_ (fun _ => ?_))
   | exact ih0 _ _ _
   | exact LeO.none _
   | refine LeO.ite ?_ ?_
   | refine LeO.bind ?_ (fun _ => ?_)
def slices_Reverse_int_int.T3 : Bool × List (List Nat × List Nat) := (true, [([], []), ([], []), ([], []), ([], []), ([], []), ([], []), ([4, 5], [4, 5]), ([6], [6]), ([], []), ([], []), ([8, 9], [8, 9]), ([10], [10]), ([0, 1, 0, 1, 4, 5, 6, 7, 11], [0, 1]), ([12, 7, 0, 1, 4, 5, 6, 7, 11], [7, 12]), ([2, 3, 0, 1, 2, 3, 4, 5, 6, 7, 8, 9, 10, 11, 12, 13], [2, 3]), ([14, 11, 13, 0, 1, 2, 3, 4, 5, 6, 7, 8, 9, 10, 11, 12, 13], [11, 14])])
def slices_Reverse_int_int.B3 : List Nat := [0, 0, 0, 0, 0, 0, 48, 112, 0, 0, 768, 1792, 4083, 8179, 16383, 32767]
theorem slices_Reverse_int_int.tab3 : rtab .any (opsOf Try.f68 3) = slices_Reverse_int_int.T3 := by kernel_rfl
theorem slices_Reverse_int_int.bits3 : waitsOk slices_Reverse_int_int.T3.2 slices_Reverse_int_int.B3 = true := by kernel_rfl
set_option maxHeartbeats 8000000 in
set_option maxRecDepth 100000 in
theorem slices_Reverse_int_int.calls (k : Nat) (P0_ : Nat → Prop) (u9000_ : Value) (l0 : List Int) (r : List Int) (w0 w : World) (hB : Below w0.heap.size w0 w) (ho0 : Kd.R (Kd.int .i64) 3 w w0.heap.size P0_ u9000_ l0) (h : slices_Reverse_int_int.f k l0 = some r) :
  Calls Try.prog 68 #[u9000_] w fun e w' => e = .returned (.tuple #[]) ∧ Kd.R (Kd.int .i64) 3 w' w0.heap.size (fun k_ => (P0_ k_ ∨ w.heap.size ≤ k_)) u9000_ r ∧ Below w0.heap.size w0 w' ∧ Kept w w' (fun k_ => P0_ k_) := by
 have HO0 := Aside0.mk (show Kd.R (Kd.int .i64) 3 w w0.heap.size (fun k_ => (P0_ k_ ∨ w.heap.size ≤ k_)) u9000_ l0 from Kd.R_mono ho0 (fun k_ hk => (.inl hk)))
 have HK := Aside0.mk (Kept.refl w (fun k_ => P0_ k_))
 have HW0 := Aside0.mk hB.size
 have HB := Aside0.mk hB
 clear hB
 have H : (slices_Reverse_int_int.l0 k l0 0 (wrap64 ((l0.length : Int) - 1))) = some r := h
 clear h
 have H' := Aside0.mk H
 clear H
 obtain ⟨Ao2, co2, eo2⟩ := Kd.R_slice HO0.out
 subst eo2
 go_enter Try.func68, Try.ntmps68
 go_wp2
 go_loopg [2, 3] k (fun kq v2 v3 w' => ∃ (x0_1 : List Int) (x2_1 : Int) (x3_1 : Int), v2 = .int .i64 x2_1 ∧ v3 = .int .i64 x3_1 ∧ Aside0 (slices_Reverse_int_int.l0 kq x0_1 x2_1 x3_1 = some r) ∧ Aside0 (kq ≤ k) ∧ Aside0 (Kd.R (Kd.int .i64) 3 w' w0.heap.size (fun k_ => (P0_ k_ ∨ w.heap.size ≤ k_)) (.slice Ao2 l0.length co2) x0_1) ∧ Aside0 (Kept w w' (fun k_ => P0_ k_)) ∧ Aside0 (Below w0.heap.size w0 w'))
 case atStart => exact ⟨(l0), (0), (wrap64 ((l0.length : Int) - 1)), zQ, zQ, H', ⟨Nat.le_refl _⟩, ⟨zR HO0.out⟩, ⟨by repeat (first | (with_reducible first | exact HK.out | apply Kept.alloc | apply Kept.drewN | apply Kept.drew) | exact HK.out)⟩, ⟨zB⟩⟩
 case round =>
  clear H'
  try clear p2
  obtain ⟨x0_1, x2_1, x3_1, rfl, rfl, HA, HK1, HO_0, HK, HB⟩ := hrel
  have hl0_1 := (Kd.R_reads' HO_0.out).1
  rw [hl0_1] at HO_0
  (try simp only [hl0_1])
  cases gk with
  | zero => exact absurd HA.out (by simp [slices_Reverse_int_int.l0])
  | succ k1 =>
   have H := HA.out
   clear HA
   simp only [slices_Reverse_int_int.l0] at H
   by_cases c3 : x2_1 < x3_1
   ·rw [if_pos c3] at H
    have c3b0 : decide (x2_1 < x3_1) = true := decide_eq_true c3
    (try (have c3b0h := c3b0; simp only [hl0_1] at c3b0h))
    clear c3
    by_cases c4 : 0 ≤ x3_1
    ·rw [if_pos c4] at H
     have c4b0 : decide (0 ≤ x3_1) = true := decide_eq_true c4
     (try (have c4b0h := c4b0; simp only [hl0_1] at c4b0h))
     clear c4
     by_cases c5 : x3_1 < (x0_1.length : Int)
     ·rw [if_pos c5] at H
      have c5b0 : decide (x3_1 < (x0_1.length : Int)) = true := decide_eq_true c5
      (try (have c5b0h := c5b0; simp only [hl0_1] at c5b0h))
      clear c5
      by_cases c6 : 0 ≤ x2_1
      ·rw [if_pos c6] at H
       have c6b0 : decide (0 ≤ x2_1) = true := decide_eq_true c6
       (try (have c6b0h := c6b0; simp only [hl0_1] at c6b0h))
       clear c6
       by_cases c7 : x2_1 < (x0_1.length : Int)
       ·rw [if_pos c7] at H
        have c7b0 : decide (x2_1 < (x0_1.length : Int)) = true := decide_eq_true c7
        (try (have c7b0h := c7b0; simp only [hl0_1] at c7b0h))
        clear c7
        obtain ⟨y143, hy143⟩ : ∃ y_ : List Int, y_ = (x0_1.set (x2_1 : Int).toNat (rd x0_1 x3_1)) := ⟨_, rfl⟩
        replace H : (slices_Reverse_int_int.l0 k1 (y143.set (x3_1 : Int).toNat (rd x0_1 x2_1)) (wrap64 (x2_1 + 1)) (wrap64 (x3_1 - 1))) = some r := by first | (rw [hy143]; with_reducible exact H) | (have H2_ := (Option.bind_some _ _).symm.trans H; rw [hy143]; with_reducible exact H2_) | (have H2_ := (Option.bind_some _ _).symm.trans H; with_reducible exact H2_) | with_reducible exact H | (rw [hy143]; exact H) | exact H
        have Ny143 := Aside0.mk hy143
        clear hy143
        obtain ⟨y144, hy144⟩ : ∃ y_ : List Int, y_ = (y143.set (x3_1 : Int).toNat (rd x0_1 x2_1)) := ⟨_, rfl⟩
        replace H : (slices_Reverse_int_int.l0 k1 y144 (wrap64 (x2_1 + 1)) (wrap64 (x3_1 - 1))) = some r := by first | (rw [hy144]; with_reducible exact H) | (have H2_ := (Option.bind_some _ _).symm.trans H; rw [hy144]; with_reducible exact H2_) | (have H2_ := (Option.bind_some _ _).symm.trans H; with_reducible exact H2_) | with_reducible exact H | (rw [hy144]; exact H) | exact H
        have Ny144 := Aside0.mk hy144
        clear hy144
        have H' := Aside0.mk H
        clear H
        try go_wp2
        have n0_ := Aside0.mk (Kd.R_drew HO_0.out)
        have n1_ := Aside0.mk (Kept.drew HK.out)
        have n2_ := Aside0.mk (below_drew1 HB.out)
        clear HO_0
        clear HK
        clear HB
        have HO_0 := n0_
        have HK := n1_
        have HB := n2_
        clear n0_ n1_ n2_
        have p141 : 0 ≤ (x3_1 : Int) := zO
        have q141 : x3_1 < (x0_1.length : Int) := zO
        obtain ⟨ad141, e141, hx141_0⟩ := Kd.at_int (Kd.R_reads' HO_0.out).2.2 x3_1 p141 q141
        cases e141
        replace p141 := eq_true p141
        replace q141 := eq_true q141
        have p142 : 0 ≤ (x2_1 : Int) := zO
        have q142 : x2_1 < (x0_1.length : Int) := zO
        obtain ⟨ad142, e142, hx142_0⟩ := Kd.at_int (Kd.R_reads' HO_0.out).2.2 x2_1 p142 q142
        obtain rfl : ad141 = ad142 := (by injection e142)
        replace p142 := eq_true p142
        replace q142 := eq_true q142
        have p8 : 0 ≤ (x2_1 : Int) := zO
        have q8 : (x2_1 : Int) < ((x0_1.length : Int) : Int) := zO
        obtain ⟨go8, co8, eo8, gb8, gl8, cl8, HG8⟩ := Kd.R_form HO_0.out (by omega)
        (first | cases eo8 | (injection eo8 with ea_ en_ ec_; (first | subst ea_ | (injection ea_ with ea_; subst ea_)); subst ec_; clear en_))
        have GB8 := Aside0.mk gb8
        have GG8 := Aside0.mk HG8
        clear gb8 gl8 HG8
        have HMgo8 := Aside0.mk (show (P0_ go8 ∨ w.heap.size ≤ go8) from (HO_0.out.1 _ rfl))
        (first | simp only [add_plain] at hx141_0 | skip)
        (first | simp only [add_plain] at hx142_0 | skip)
        obtain ⟨hx8_0, hf8_0⟩ := Kd.R_celln 0 HO_0.out (x2_1 : Int) p8 q8
        replace p8 := eq_true p8
        replace q8 := eq_true q8
        have HP11 := Kd.R_putn HO_0.out (x2_1 : Int) (rd x0_1 x3_1)
        rw [← Ny143.out] at HP11
        have HQ11 := Aside0.mk HP11
        clear HP11
        have p9 : 0 ≤ (x3_1 : Int) := zO
        have q9 : (x3_1 : Int) < ((x0_1.length : Int) : Int) := zO
        obtain ⟨hx9_0, hf9_0⟩ := Kd.R_celln 0 HQ11.out (x3_1 : Int) p9 q9
        replace p9 := eq_true p9
        replace q9 := eq_true q9
        have HP12 := Kd.R_putn HQ11.out (x3_1 : Int) (rd x0_1 x2_1)
        rw [← Ny144.out] at HP12
        have HQ12 := Aside0.mk HP12
        clear HP12
        refine start_ (n := 16) (S := fun w' => w'.cell? ⟨go8, (x3_1).toNat, none⟩ = some (.int .i64 (rd x0_1 x3_1)) ∧ w'.cell? ⟨go8, (x2_1).toNat, none⟩ = some (.int .i64 (rd x0_1 x2_1))) (ds := [13, 15]) #[false, false, false, false, false, false, false, false, false, false, false, false, false, false, false, false] (by kernel_rfl) rfl rfl ⟨hx141_0, hx142_0⟩ (fun hHeld => ?_); refine with_tabW slices_Reverse_int_int.tab3 slices_Reverse_int_int.bits3 (fun HT_ HW_ => ?_)
        generalize wr.drew = w10 at HO_0 HK HB GG8 HQ11 HQ12 hf8_0 hf9_0 hx141_0 hx142_0 hx8_0 hx9_0 hHeld ⊢
        refine pure_ (i := 0) (N := some 14) (v := ?_) (a' := ?_) #[true, false, false, false, false, false, false, false, false, false, false, false, false, false, false, false] rfl rfl (any_of HT_.out (by kernel_rfl)) (fun _ _ _ h => h) (Or.inl ⟨by rfl, ?_⟩) ?_ ?_
        rotate_left
        ·intro w'
         go_simp
         with_reducible rfl
        rotate_left
        ·simp only [Act.put, List.setIfInBounds_toArray, List.set_cons_zero, List.set_cons_succ, i64_w, i32_w]
         rfl
        refine pure_ (i := 1) (N := some 15) (v := ?_) (a' := ?_) #[true, true, false, false, false, false, false, false, false, false, false, false, false, false, false, false] rfl rfl (any_of HT_.out (by kernel_rfl)) (fun _ _ _ h => h) (Or.inl ⟨by rfl, ?_⟩) ?_ ?_
        rotate_left
        ·intro w'
         go_simp
         with_reducible rfl
        rotate_left
        ·simp only [Act.put, List.setIfInBounds_toArray, List.set_cons_zero, List.set_cons_succ, i64_w, i32_w]
         rfl
        refine pure_ (i := 2) (N := some 16) (v := ?_) (a' := ?_) #[true, true, true, false, false, false, false, false, false, false, false, false, false, false, false, false] rfl rfl (any_of HT_.out (by kernel_rfl)) (fun _ _ _ h => h) (Or.inl ⟨by rfl, ?_⟩) ?_ ?_
        rotate_left
        ·intro w'
         go_simp
         with_reducible rfl
        rotate_left
        ·simp only [Act.put, List.setIfInBounds_toArray, List.set_cons_zero, List.set_cons_succ, i64_w, i32_w]
         rfl
        refine pure_ (i := 3) (N := some 17) (v := ?_) (a' := ?_) #[true, true, true, true, false, false, false, false, false, false, false, false, false, false, false, false] rfl rfl (any_of HT_.out (by kernel_rfl)) (fun _ _ _ h => h) (Or.inl ⟨by rfl, ?_⟩) ?_ ?_
        rotate_left
        ·intro w'
         go_simp
         with_reducible rfl
        rotate_left
        ·simp only [Act.put, List.setIfInBounds_toArray, List.set_cons_zero, List.set_cons_succ, i64_w, i32_w]
         rfl
        refine pure_ (i := 4) (N := some 18) (v := ?_) (a' := ?_) #[true, true, true, true, true, false, false, false, false, false, false, false, false, false, false, false] rfl rfl (any_of HT_.out (by kernel_rfl)) (fun _ _ _ h => h) (Or.inl ⟨by rfl, ?_⟩) ?_ ?_
        rotate_left
        ·intro w'
         go_simp
         with_reducible rfl
        rotate_left
        ·simp only [Act.put, List.setIfInBounds_toArray, List.set_cons_zero, List.set_cons_succ, i64_w, i32_w]
         rfl
        refine pure_ (i := 5) (N := some 19) (v := ?_) (a' := ?_) #[true, true, true, true, true, true, false, false, false, false, false, false, false, false, false, false] rfl rfl (any_of HT_.out (by kernel_rfl)) (fun _ _ _ h => h) (Or.inl ⟨by rfl, ?_⟩) ?_ ?_
        rotate_left
        ·intro w'
         go_simp
         with_reducible rfl
        rotate_left
        ·simp only [Act.put, List.setIfInBounds_toArray, List.set_cons_zero, List.set_cons_succ, i64_w, i32_w]
         rfl
        refine pure_ (i := 6) (N := some 20) (v := ?_) (a' := ?_) #[true, true, true, true, true, true, true, false, false, false, false, false, false, false, false, false] rfl rfl (any_of HT_.out (by kernel_rfl)) (fun _ _ _ h => h) (Or.inl ⟨by rfl, ?_⟩) ?_ ?_
        rotate_left
        ·intro w'
         go_simp
         with_reducible rfl
        rotate_left
        ·simp only [Act.put, List.setIfInBounds_toArray, List.set_cons_zero, List.set_cons_succ, i64_w, i32_w]
         rfl
        refine pure_ (i := 8) (N := some 22) (v := ?_) (a' := ?_) #[true, true, true, true, true, true, true, false, true, false, false, false, false, false, false, false] rfl rfl (any_of HT_.out (by kernel_rfl)) (fun _ _ _ h => h) (Or.inl ⟨by rfl, ?_⟩) ?_ ?_
        rotate_left
        ·intro w'
         go_simp
         with_reducible rfl
        rotate_left
        ·simp only [Act.put, List.setIfInBounds_toArray, List.set_cons_zero, List.set_cons_succ, i64_w, i32_w]
         rfl
        refine pure_ (i := 9) (N := some 23) (v := ?_) (a' := ?_) #[true, true, true, true, true, true, true, false, true, true, false, false, false, false, false, false] rfl rfl (any_of HT_.out (by kernel_rfl)) (fun _ _ _ h => h) (Or.inl ⟨by rfl, ?_⟩) ?_ ?_
        rotate_left
        ·intro w'
         go_simp
         with_reducible rfl
        rotate_left
        ·simp only [Act.put, List.setIfInBounds_toArray, List.set_cons_zero, List.set_cons_succ, i64_w, i32_w]
         rfl
        refine pure_ (i := 10) (N := some 24) (v := ?_) (a' := ?_) #[true, true, true, true, true, true, true, false, true, true, true, false, false, false, false, false] rfl rfl (any_of HT_.out (by kernel_rfl)) (fun _ _ _ h => h) (Or.inl ⟨by rfl, ?_⟩) ?_ ?_
        rotate_left
        ·intro w'
         go_simp
         with_reducible rfl
        rotate_left
        ·simp only [Act.put, List.setIfInBounds_toArray, List.set_cons_zero, List.set_cons_succ, i64_w, i32_w]
         rfl
        refine take_ (i := 7) (N := some 21) (v := ?_) (a' := ?_) #[true, true, true, true, true, true, true, true, true, true, true, false, false, false, false, false] rfl rfl (take_ofW HT_.out HW_.out (by kernel_rfl)) (fun _ _ _ h => h) (Or.inl ⟨by rfl, ?_⟩) hHeld ?_ ?_
        rotate_left
        ·rintro w' ⟨s0, s1⟩
         go_simp
         with_reducible rfl
        rotate_left
        ·simp only [Act.put, List.setIfInBounds_toArray, List.set_cons_zero, List.set_cons_succ, i64_w, i32_w]
         rfl
        refine take_ (i := 11) (N := some 25) (v := ?_) (a' := ?_) #[true, true, true, true, true, true, true, true, true, true, true, true, false, false, false, false] rfl rfl (take_ofW HT_.out HW_.out (by kernel_rfl)) (fun _ _ _ h => h) (Or.inl ⟨by rfl, ?_⟩) hHeld ?_ ?_
        rotate_left
        ·rintro w' ⟨s0, s1⟩
         go_simp
         with_reducible rfl
        rotate_left
        ·simp only [Act.put, List.setIfInBounds_toArray, List.set_cons_zero, List.set_cons_succ, i64_w, i32_w]
         rfl
        refine pure_ (i := 12) (N := some 26) (v := ?_) (a' := ?_) #[true, true, true, true, true, true, true, true, true, true, true, true, true, false, false, false] rfl rfl (any_of HT_.out (by kernel_rfl)) (fun _ _ _ h => h) (Or.inl ⟨by rfl, ?_⟩) ?_ ?_
        rotate_left
        ·intro w'
         go_simp
         with_reducible rfl
        rotate_left
        ·simp only [Act.put, List.setIfInBounds_toArray, List.set_cons_zero, List.set_cons_succ, i64_w, i32_w]
         rfl
        refine last_ (i := 13) (N := none) #[true, true, true, true, true, true, true, true, true, true, true, true, true, true, false, false] rfl rfl (one_of HT_.out (by kernel_rfl)) (by decide) (fun K hK => ?_)
        refine skip_ (w1 := ?_) (by rfl) rfl ?_ ?_
        rotate_left
        ·go_simp
         rfl
        refine hK.out _ _ ?_
        clear hK K
        refine pure_ (i := 14) (N := some 27) (v := ?_) (a' := ?_) #[true, true, true, true, true, true, true, true, true, true, true, true, true, true, true, false] rfl rfl (any_of HT_.out (by kernel_rfl)) (fun _ _ _ h => h) (Or.inl ⟨by rfl, ?_⟩) ?_ ?_
        rotate_left
        ·intro w'
         go_simp
         with_reducible rfl
        rotate_left
        ·simp only [Act.put, List.setIfInBounds_toArray, List.set_cons_zero, List.set_cons_succ, i64_w, i32_w]
         rfl
        refine last_ (i := 15) (N := none) #[true, true, true, true, true, true, true, true, true, true, true, true, true, true, true, true] rfl rfl (one_of HT_.out (by kernel_rfl)) (by decide) (fun K hK => ?_)
        refine skip_ (w1 := ?_) (by rfl) rfl ?_ ?_
        rotate_left
        ·go_simp
         rfl
        refine hK.out _ _ ?_
        clear hK K
        refine done_ (done_of HT_.out (by kernel_rfl)) ?_
        try go_wp2
        (try simp only [← hl0_1])
        go_roundg k1
        case measure => have := HK1.out; omega
        case rel => exact ⟨(y144), (wrap64 (x2_1 + 1)), (wrap64 (x3_1 - 1)), zQ, zQ, H', ⟨by have := HK1.out; omega⟩, ⟨by (try simp only [hl0_1]); (with_reducible repeat (first | apply Kd.R_alloc | apply Kd.R_drewN | apply Kd.R_drew)); exact HQ12.out⟩, ⟨by repeat (first | (with_reducible first | exact HK.out | apply Kept.alloc | apply Kept.drewN | apply Kept.drew | refine Kept.setCell ?_ HMgo8.out _ | refine Kept.setCell ?_ HMgo8.out _) | exact HK.out)⟩, ⟨by repeat (first | (with_reducible first | exact HB.out | apply below_alloc | apply pw_below_drewN | apply below_drew1 | refine below_set ?_ GB8.out | refine below_set ?_ GB8.out) | exact HB.out)⟩⟩
       ·rw [if_neg c7] at H
        exact absurd H (by simp)
      ·rw [if_neg c6] at H
       exact absurd H (by simp)
     ·rw [if_neg c5] at H
      exact absurd H (by simp)
    ·rw [if_neg c4] at H
     exact absurd H (by simp)
   ·rw [if_neg c3] at H
    have c3b0 : decide (x2_1 < x3_1) = false := decide_eq_false c3
    (try (have c3b0h := c3b0; simp only [hl0_1] at c3b0h))
    clear c3
    obtain rfl := Option.some.inj H
    go_wp2
    first | go_end0 | ((try simp only [Exit.inBlock, Exit.then]); refine bodyPost_ret (results_none rfl _ _ _) rfl ?_)
    exact ⟨zV, (by first | exact (zR HO_0.out) | (simp only [hl0_1]; exact (zR HO_0.out))), zB, by repeat (first | (with_reducible first | exact HK.out | apply Kept.alloc | apply Kept.drewN | apply Kept.drew) | exact HK.out)⟩
def GtJ (Bo N : Nat) (l : List Int) (W : World) : Prop := (∃ v, W.heap[Bo]? = some (.cells #[v] 22 (0, 0)) ∧ W.ownsRow N 3 1 v l.length (l.map (Value.int .i64))) ∧ N ≤ W.heap.size + 6 ∧ (l ≠ [] → N ≤ W.heap.size)
theorem gt_info3 : (Try.prog.info? 3).map (fun i => (i.zero, i.size, i.bytes)) = some (some (.int .i64 0), 1, 8) := by kernel_rfl
set_option maxHeartbeats 4000000 in
theorem gt_leftO (n0 Bo g N : Nat) (w0 Wc : World) (hBo : n0 ≤ Bo) (hBs : Bo < Wc.heap.size) (hgB : g ≠ Bo) (hN : Wc.heap.size = N) (hnN : n0 ≤ N) (hgN : g < N) (l : List Int) (k : Int) (W : World) (hl : l.length + 1 ≤ 1099511627776) (hI : GtInv n0 w0 Wc g Bo W) (hJ : GtJ Bo N l W) :
  Calls Try.prog 67 #[.int .i64 k, .pointer (some ⟨Bo, 0, none⟩)] W fun e W' => e = .returned (.tuple #[]) ∧ GtInv n0 w0 Wc g Bo W' ∧ W'.heap[g]? = W.heap[g]? ∧ GtJ Bo N (l ++ [k]) W' := by
 obtain ⟨i0, hi, hz0, hz1, hz2⟩ := info_parts gt_info3
 obtain ⟨⟨v, hv, hrow⟩, _, _⟩ := hJ
 have hNW : N ≤ W.heap.size := by rw [← hN]; exact hI.2.1
 have hne := own_ne hrow hv (by decide)
 have c0 : W.cell? ⟨Bo, 0, none⟩ = some v := blk_cell hv 0
 have HI := Aside0.mk hI
 have HV := Aside0.mk hv
 have HR := Aside0.mk hrow
 have HNW := Aside0.mk hNW
 have HN := Aside0.mk hN
 have HNE := Aside0.mk hne
 clear hI hv hrow hNW hN hne
 go_enter Try.func67, Try.ntmps67
 go_wp2_with (at_builtin; refine wpList_append_own _ rfl _ _ 22 rfl N 3 i0 (.int .i64 0) 1 8 Try.underlying22 hi hz0 hz1 hz2 rfl (by decide) _ _ _ rfl (HR.out.alloc _) ⟨W.heap.size, 0, none⟩ 1 1 [.int .i64 k] rfl rfl (cell_one_new _ _ _) (by simp [Value.oneCell']) (by unfold maxLen; omega) (by omega) (by simp; have := HNW.out; omega) ?_; intro v' w1 hown' hgrow _; obtain ⟨g', cap', rfl⟩ := ownsRow_succ hown'; have hb1 := blk_grown (blk_alloc HV.out (.cells #[.int .i64 k] 3)) hgrow HNE.out; have hc1 : w1.cell? ⟨Bo, 0, none⟩ = some v := blk_cell hb1 0; have hf1 : w1.frozen? ⟨Bo, 0, none⟩ = false := blk_frozen hb1 0; have HO := Aside0.mk hown'; have HG := Aside0.mk hgrow; have HB1 := Aside0.mk hb1; clear hown' hgrow hb1)
 go_end0
 have hrow := HR.out
 have hrb : ∀ j, v.ownBlock = some j → N ≤ j := fun j hj => own_base hrow j hj
 have hs1 : W.heap.size + 1 ≤ w1.heap.size := by have := HG.out.size; simpa using this
 have hsame : ∀ j, j < W.heap.size → j < N → j ≠ Bo → (w1.setCell ⟨Bo, 0, none⟩ (.slice (some ⟨g', 0, none⟩) (l.length + 1) cap')).heap[j]? = W.heap[j]? := fun j h1 h2 h3 => by
  rw [Below.heap_setCell _ _ _ j h3, HG.out.block j (by simp; omega) (fun e => by have := hrb j e.symm; omega)]
  exact Below.heap_alloc W _ j h1
 refine ⟨rfl, ⟨?_, ?_, fun j hj hS => ?_⟩, hsame g (by have := HNW.out; omega) hgN hgB, ⟨⟨.slice (some ⟨g', 0, none⟩) (l.length + 1) cap', ?_, ?_⟩, ?_, fun _ => ?_⟩⟩
 ·refine ((HI.out.1.trans (((Below.refl n0 W).alloc (by have := HNW.out; omega) _).grown HG.out (by simp; have := HNW.out; omega) (fun j e => by have := hrb j e; omega)))).setCell (p := ⟨Bo, 0, none⟩) hBo _
 ·have := HI.out.2.1; simp; omega
 ·have hW : W.heap.size ≥ Wc.heap.size := HI.out.2.1
  rw [hsame j (by omega) (by have := HN.out; omega) (fun e => hS (.inr e))]
  exact HI.out.2.2 j hj hS
 ·exact blk_set HB1.out 0 (.slice (some ⟨g', 0, none⟩) (l.length + 1) cap')
 ·have := own_setCell HO.out (p := ⟨Bo, 0, none⟩) (own_ne HO.out HB1.out (by decide)) (.slice (some ⟨g', 0, none⟩) (l.length + 1) cap')
  simpa using this
 ·simp; have := HNW.out; omega
 ·simp; have := HNW.out; omega
def graph_Order.f (k : Nat) (a0_0 : ByteArray) (a0_1 : Int) (a0_2 : Int) (l0_3 : List Int) (l0_4 : List (List (S29))) : Option (List Int) := (graph_Succs.f k a0_0 a0_1 a0_2 l0_3 l0_4).bind fun s => (if gtOk s = true then (slices_Reverse_int_int.f k (gtAll s (-1)).2) else none)
theorem graph_Order.mono : ∀ a0 a1 a2 a3 a4 k, LeO (graph_Order.f k a0 a1 a2 a3 a4) (graph_Order.f (k + 1) a0 a1 a2 a3 a4) := by
 intro a0 a1 a2 a3 a4 k
 unfold graph_Order.f
 exact LeO.bind (graph_Succs.mono _ _ _ _ _ _) (fun _ => LeO.ite (slices_Reverse_int_int.mono _ _) (LeO.refl _))
theorem GtJ.alloc {Bo N : Nat} {l : List Int} {W : World} (h : GtJ Bo N l W) (o : Obj) : GtJ Bo N l (W.alloc o) := by
 obtain ⟨⟨v, hv, hr⟩, h1, h2⟩ := h
 exact ⟨⟨v, blk_alloc hv o, hr.alloc o⟩, by rw [World.size_alloc]; omega, fun hl => by rw [World.size_alloc]; have := h2 hl; omega⟩
theorem GtJ.set {Bo N g : Nat} {l : List Int} {W : World} {seen : List Bool} (h : GtJ Bo N l W) (hg : GtAt g seen W) (hne : Bo ≠ g) (i : Nat) (b : Bool) : GtJ Bo N l (W.setCell ⟨g, i, none⟩ (.bool b)) := by
 obtain ⟨⟨v, hv, hr⟩, h1, h2⟩ := h
 exact ⟨⟨v, blk_far hv (p := ⟨g, i, none⟩) hne _, own_setCell hr (p := ⟨g, i, none⟩) (own_ne hr hg (by decide)) _⟩, by simpa using h1, fun hl => by simpa using h2 hl⟩
set_option maxHeartbeats 8000000 in
set_option maxRecDepth 100000 in
theorem graph_Order.calls (k : Nat) (a0_0 : ByteArray) (a0_1 : Int) (a0_2 : Int) (A0_3 : Option Addr) (c0_3 : Nat) (l0_3 : List Int) (A0_4 : Option Addr) (c0_4 : Nat) (l0_4 : List (List (S29))) (r : List Int) (w : World) (hr0_3 : Kd.C (Kd.int .i64) w A0_3 l0_3.length l0_3) (hc0_3 : l0_3.length ≤ c0_3) (hr0_4 : Kd.C (Kd.slice 29 k29) w A0_4 l0_4.length l0_4) (hc0_4 : l0_4.length ≤ c0_4) (h : graph_Order.f k a0_0 a0_1 a0_2 l0_3 l0_4 = some r) :
  Calls Try.prog 51 #[.agg #[.string a0_0, .int .i64 a0_1, .int .i64 a0_2, .slice A0_3 l0_3.length c0_3, .slice A0_4 l0_4.length c0_4]] w fun e w' => ∃ v0_ : Value, e = .returned (v0_) ∧ Kd.R (Kd.int .i64) 3 w' w.heap.size (fun _ => True) v0_ r ∧ Below w.heap.size w w' := by
 have hu35 := Try.underlying32
 unfold graph_Order.f at h
 obtain ⟨s, hs, h⟩ := Option.bind_eq_some_iff.mp h
 by_cases hok : gtOk s = true
 rotate_left
 ·rw [if_neg hok] at h; cases h
 rw [if_pos hok] at h
 obtain ⟨hls, hval⟩ := gtOk_out hok
 have hb0 := below_alloc (below_alloc (Below.refl w.heap.size w) (.cells #[.string a0_0, .int .i64 a0_1, .int .i64 a0_2, .slice A0_3 l0_3.length c0_3, .slice A0_4 l0_4.length c0_4] 32)) (.cells #[.slice none 0 0] 22)
 have bo := blk_new (w.alloc (.cells #[.string a0_0, .int .i64 a0_1, .int .i64 a0_2, .slice A0_3 l0_3.length c0_3, .slice A0_4 l0_4.length c0_4] 32)) (.cells #[.slice none 0 0] 22)
 rw [World.size_alloc] at bo
 have HR3 := Aside0.mk (Kd.C_below hr0_3 hb0)
 have HR4 := Aside0.mk (Kd.C_below hr0_4 hb0)
 have HC3 := Aside0.mk (hc0_3)
 have HC4 := Aside0.mk (hc0_4)
 have HB := Aside0.mk (hb0)
 have HS := Aside0.mk (hs)
 have HLS := Aside0.mk (hls)
 have HVAL := Aside0.mk (hval)
 have BO := Aside0.mk (bo)
 have HRV := Aside0.mk (h)
 have HZ0 : Aside0 (((w.alloc (.cells #[.string a0_0, .int .i64 a0_1, .int .i64 a0_2, .slice A0_3 l0_3.length c0_3, .slice A0_4 l0_4.length c0_4] 32)).alloc (.cells #[.slice none 0 0] 22)).heap.size = w.heap.size + 1 + 1) := ⟨by simp⟩
 clear hr0_3 hr0_4 hc0_3 hc0_4 hb0 hs hls hval hok h bo
 go_enter Try.func51, Try.ntmps51
 go_wp2_with (first | (go_at_call 66; ((with_reducible refine (graph_Succs.calls k a0_0 a0_1 a0_2 A0_3 c0_3 l0_3 A0_4 c0_4 l0_4 s _ HR3.out HC3.out HR4.out HC4.out HS.out).mono ?_); rintro e w' ⟨v_, rfl, hS_, hb⟩; obtain ⟨As, cs, rfl⟩ := Kd.S_slice hS_; have HSS := Aside0.mk hS_; have HB2 := Aside0.mk (below_step HB.out hb); have HB3 := Aside0.mk hb; have HBO := Aside0.mk (blk_below BO.out hb); have HZ1 : Aside0 (w.heap.size + 1 + 1 ≤ w'.heap.size) := ⟨by have := hb.size; have := HZ0.out; omega⟩; clear hS_ hb)))
 have hth := gt_through_o s (-1) w.heap.size w w' (w.heap.size + 1) As cs (GtJ (w.heap.size + 1) (w'.heap.size + 6)) HVAL.out HLS.out HB2.out HB2.out.size (by have := HZ1.out; omega) (Kd.F_mono (gt_F_of_S HSS.out) (fun k_ hk_ => by have := hk_.2.1; have := HZ0.out; omega)) ⟨⟨_, HBO.out, World.ownsRow_nil _ _ _ _⟩, Nat.le_refl _, fun hl => absurd rfl hl⟩ (fun l W o hj => hj.alloc o) (fun l W g i b seen hg hG hj => hj.set hG (by have := HZ1.out; omega) i b) (fun Wc g hg hgW hz l k_ W hl hI hJ => gt_leftO w.heap.size (w.heap.size + 1) g (w'.heap.size + 6) w Wc (by omega) (by have := HZ1.out; omega) (by have := HZ1.out; omega) hz (by have := HZ1.out; omega) (by omega) l k_ W (by have := HLS.out; omega) hI hJ)
 refine hth.mono ?_
 rintro e w2 ⟨g, rfl, hG, hJ, hg, hB5⟩
 obtain ⟨⟨v, hv, hrow⟩, _, _⟩ := hJ
 have c9 : w2.cell? ⟨w.heap.size + 1, 0, none⟩ = some v := blk_cell hv 0
 have HV := Aside0.mk hv
 have HROW := Aside0.mk hrow
 have HB5 := Aside0.mk hB5
 clear hG hg hB5 hv hrow
 clear hth
 go_wp2_with (fail)
 have hown : Kd.R (Kd.int .i64) 3 w2 w.heap.size (fun k_ => v.ownBlock = some k_) v (gtAll s (-1)).2 := Kd.R_of_own (by simpa [encs] using own_weaken HROW.out (show w.heap.size ≤ w'.heap.size + 6 by have := HZ1.out; omega)) (fun k_ hk_ => hk_)
 have hrv := slices_Reverse_int_int.calls k (fun k_ => v.ownBlock = some k_) v _ r w w2 HB5.out hown HRV.out
 refine hrv.mono ?_
 rintro e w3 ⟨rfl, hR, hb, hk⟩
 have c8 : w3.cell? ⟨w.heap.size + 1, 0, none⟩ = some v := blk_cell (blk_kept HV.out hk (fun e => own_ne HROW.out HV.out (by decide) e.symm)) 0
 have HRR := Aside0.mk hR
 have HB6 := Aside0.mk hb
 clear hR hb hk hrv hown
 go_wp2
 go_ret
 exact ⟨_, rfl, Kd.R_mono HRR.out (fun _ _ => trivial), HB6.out⟩
def gtPut (k t : Int) (o : List (List Int)) : List (List Int) := o.set t.toNat (o.getD t.toNat [] ++ [k])
def gtPr (s : List (List Int)) (n : Nat) : Nat → List (List Int)
 | 0 => List.replicate n []
 | k + 1 => (s.getD k []).foldl (fun o t => gtPut (k : Int) t o) (gtPr s n k)
def gtTot (s : List (List Int)) : Nat → Nat
 | 0 => 0
 | k + 1 => gtTot s k + (s.getD k []).length
theorem gtPut_bd {o : List (List Int)} {m : Nat} (h : ∀ i : Nat, (o.getD i []).length ≤ m) (k t : Int) : ∀ i : Nat, ((gtPut k t o).getD i []).length ≤ m + 1 := by
 intro i
 unfold gtPut
 rw [List.getD_eq_getElem?_getD, List.getElem?_set]
 split
 ·split
  ·have := h t.toNat
   simp only [Option.getD_some, List.length_append, List.length_singleton]
   omega
  ·simp
 ·rw [← List.getD_eq_getElem?_getD]
  exact Nat.le_succ_of_le (h i)
theorem gtFold_bd (k : Int) (l : List Int) : ∀ {o : List (List Int)} {m : Nat}, (∀ i : Nat, (o.getD i []).length ≤ m) → ∀ i : Nat, ((l.foldl (fun o t => gtPut k t o) o).getD i []).length ≤ m + l.length := by
 induction l with
 | nil => intro o m h i; exact h i
 | cons t l ih =>
  intro o m h i
  have := ih (gtPut_bd h k t) i
  simp only [List.foldl_cons, List.length_cons]
  omega
theorem gtFold_len (k : Int) (l : List Int) : ∀ (o : List (List Int)), (l.foldl (fun o t => gtPut k t o) o).length = o.length := by
 induction l with
 | nil => intro o; rfl
 | cons t l ih => intro o; rw [List.foldl_cons, ih]; simp [gtPut]
theorem gtPr_len (s : List (List Int)) (n : Nat) : ∀ k, (gtPr s n k).length = n
 | 0 => by simp [gtPr]
 | k + 1 => by rw [gtPr, gtFold_len, gtPr_len s n k]
theorem gtPr_bd (s : List (List Int)) (n : Nat) : ∀ k, ∀ i : Nat, ((gtPr s n k).getD i []).length ≤ gtTot s k
 | 0 => fun i => by rw [gtPr, List.getD_eq_getElem?_getD, List.getElem?_replicate]; split <;> simp
 | k + 1 => fun i => gtFold_bd _ _ (gtPr_bd s n k) i
theorem gtTot_mono (s : List (List Int)) : ∀ {a b : Nat}, a ≤ b → gtTot s a ≤ gtTot s b := by
 intro a b h
 induction h with
 | refl => exact Nat.le_refl _
 | step _ ih => exact Nat.le_trans ih (Nat.le_add_right _ _)
def gtPok (s : List (List Int)) (n : Nat) : Bool := gtOk s && decide (s.length = n) && decide (gtTot s s.length ≤ 1099511627776)
theorem gtPok_out {s : List (List Int)} {n : Nat} (h : gtPok s n = true) : gtOk s = true ∧ s.length = n ∧ gtTot s s.length ≤ 1099511627776 := by
 unfold gtPok at h
 simp only [Bool.and_eq_true, decide_eq_true_eq] at h
 exact ⟨h.1.1, h.1.2, h.2⟩
theorem gt_fold_snoc (s : List (List Int)) (n k : Nat) (r : List Int) (j : Nat) (t : Int) (h : r.take (j + 1) = r.take j ++ [t]) : (r.take (j + 1)).foldl (fun o t => gtPut (k : Int) t o) (gtPr s n k) = gtPut (k : Int) t ((r.take j).foldl (fun o t => gtPut (k : Int) t o) (gtPr s n k)) := by
 rw [h, List.foldl_append]
 rfl
def graph_Preds.f (k : Nat) (a0_0 : ByteArray) (a0_1 : Int) (a0_2 : Int) (l0_3 : List Int) (l0_4 : List (List (S29))) : Option (List (List Int)) := (graph_Succs.f k a0_0 a0_1 a0_2 l0_3 l0_4).bind fun s => (if gtPok s l0_4.length = true then (some (gtPr s s.length s.length)) else none)
theorem graph_Preds.mono : ∀ a0 a1 a2 a3 a4 k, LeO (graph_Preds.f k a0 a1 a2 a3 a4) (graph_Preds.f (k + 1) a0 a1 a2 a3 a4) := by
 intro a0 a1 a2 a3 a4 k
 unfold graph_Preds.f
 exact LeO.bind (graph_Succs.mono _ _ _ _ _ _) (fun _ => LeO.refl _)
set_option maxHeartbeats 8000000 in
set_option maxRecDepth 100000 in
theorem graph_Preds.calls (k : Nat) (a0_0 : ByteArray) (a0_1 : Int) (a0_2 : Int) (A0_3 : Option Addr) (c0_3 : Nat) (l0_3 : List Int) (A0_4 : Option Addr) (c0_4 : Nat) (l0_4 : List (List (S29))) (r : List (List Int)) (w : World) (hr0_3 : Kd.C (Kd.int .i64) w A0_3 l0_3.length l0_3) (hc0_3 : l0_3.length ≤ c0_3) (hr0_4 : Kd.C (Kd.slice 29 k29) w A0_4 l0_4.length l0_4) (hc0_4 : l0_4.length ≤ c0_4) (h : graph_Preds.f k a0_0 a0_1 a0_2 l0_3 l0_4 = some r) :
  Calls Try.prog 52 #[.agg #[.string a0_0, .int .i64 a0_1, .int .i64 a0_2, .slice A0_3 l0_3.length c0_3, .slice A0_4 l0_4.length c0_4]] w fun e w' => ∃ v0_ : Value, e = .returned (v0_) ∧ Kd.S (Kd.slice 3 (Kd.int .i64)) 22 w' w.heap.size (fun _ => True) v0_ r ∧ Below w.heap.size w w' := by
 have hu35 := Try.underlying32
 unfold graph_Preds.f at h
 obtain ⟨s, hs, h⟩ := Option.bind_eq_some_iff.mp h
 by_cases hok : gtPok s l0_4.length = true
 rotate_left
 ·rw [if_neg hok] at h; cases h
 rw [if_pos hok] at h
 obtain ⟨hok, hsn, htot⟩ := gtPok_out hok
 obtain ⟨hls, hval⟩ := gtOk_out hok
 obtain rfl := Option.some.inj h
 have hz0 : (0 : Int) ≤ (l0_4.length : Int) := by omega
 have hz1 : ((l0_4.length : Int)).toNat ≤ 11728124029610 := by omega
 have HB := Aside0.mk (Below.refl w.heap.size w)
 have HR0_3 := Aside0.mk hr0_3
 have HC0_3 := Aside0.mk hc0_3
 have HR0_4 := Aside0.mk hr0_4
 have HC0_4 := Aside0.mk hc0_4
 have HS := Aside0.mk hs
 have HLS := Aside0.mk hls
 have HVAL := Aside0.mk hval
 have HSN := Aside0.mk hsn
 have HTOT := Aside0.mk htot
 have HZ0 := Aside0.mk hz0
 have HZ1 := Aside0.mk hz1
 clear hr0_3 hc0_3 hr0_4 hc0_4 hs hls hval hsn htot hok h hz0 hz1
 go_enter Try.func52, Try.ntmps52
 go_wp2_with (first | ((with_reducible refine gate_dst (N := 1) rfl ?_); refine box_event ?hg (N := 1) ?hd (cs := #[.string a0_0, .int .i64 a0_1, .int .i64 a0_2, .slice A0_3 l0_3.length c0_3, .slice A0_4 l0_4.length c0_4]) (t := 32) ?hr ?_; (case hd => rfl); (case hg => rfl); (case hr => first | (go_simp; done) | (go_simp; rfl)); intro gb266 hg w4 hbox hb; have n0_ := Aside0.mk (below_step HB.out hb); have n1_ := Aside0.mk hbox; have n2_ := Aside0.mk ((by rw [hg]; exact (below_size HB.out) : w.heap.size ≤ gb266)); clear HB; have HB := n0_; have BK266 := n1_; have GE266 := n2_; clear n0_ n1_ n2_; clear hb hbox hg; have hcz5_0 : w4.cell? ⟨gb266, 0, none⟩ = some (.string a0_0) := (blk_cell BK266.out 0).trans rfl; have hcz5_1 : w4.cell? ⟨gb266, 1, none⟩ = some (.int .i64 a0_1) := (blk_cell BK266.out 1).trans rfl; have hcz5_2 : w4.cell? ⟨gb266, 2, none⟩ = some (.int .i64 a0_2) := (blk_cell BK266.out 2).trans rfl; have hcz5_3 : w4.cell? ⟨gb266, 3, none⟩ = some (.slice A0_3 l0_3.length c0_3) := (blk_cell BK266.out 3).trans rfl; have hcz5_4 : w4.cell? ⟨gb266, 4, none⟩ = some (.slice A0_4 l0_4.length c0_4) := (blk_cell BK266.out 4).trans rfl; have hfz5_0 := blk_frozen BK266.out 0; have hfz5_1 := blk_frozen BK266.out 1; have hfz5_2 := blk_frozen BK266.out 2; have hfz5_3 := blk_frozen BK266.out 3; have hfz5_4 := blk_frozen BK266.out 4) | ((with_reducible refine gate_dst (N := 11) rfl ?_); refine Kd.S_make (Kd.slice 3 (Kd.int .i64)) _ 22 rfl (N := 11) rfl 43 _ _ rfl (l0_4.length : Int) rfl rfl Try.underlying43 (.slice none 0 0) 24 info22 rfl (by decide) (by omega) [] (ok := fun _ => True) (okp := fun _ => True) ⟨_, rfl, Kd.R_nil _ _ _ _ _⟩ (fun _ hk => hk) trivial HZ0.out (Nat.le_trans (Nat.mul_le_mul_right _ HZ1.out) (by omega)) (Below.refl _ _) (Nat.le_refl _) ?_; intro v268 w6 ho7 hb hg_ hnew_; clear hg_ hnew_; have n0_ := Aside0.mk (Kd.S_lower ho7 (below_size HB.out)); have n1_ := Aside0.mk (blk_below (g := gb266) BK266.out hb); have n2_ := Aside0.mk (below_step HB.out hb); clear BK266; clear HB; have HO269 := n0_; have BK266 := n1_; have HB := n2_; clear n0_ n1_ n2_; clear hb ho7; have hcz8_0 : w6.cell? ⟨gb266, 0, none⟩ = some (.string a0_0) := (blk_cell BK266.out 0).trans rfl; have hcz8_1 : w6.cell? ⟨gb266, 1, none⟩ = some (.int .i64 a0_1) := (blk_cell BK266.out 1).trans rfl; have hcz8_2 : w6.cell? ⟨gb266, 2, none⟩ = some (.int .i64 a0_2) := (blk_cell BK266.out 2).trans rfl; have hcz8_3 : w6.cell? ⟨gb266, 3, none⟩ = some (.slice A0_3 l0_3.length c0_3) := (blk_cell BK266.out 3).trans rfl; have hcz8_4 : w6.cell? ⟨gb266, 4, none⟩ = some (.slice A0_4 l0_4.length c0_4) := (blk_cell BK266.out 4).trans rfl; have hfz8_0 := blk_frozen BK266.out 0; have hfz8_1 := blk_frozen BK266.out 1; have hfz8_2 := blk_frozen BK266.out 2; have hfz8_3 := blk_frozen BK266.out 3; have hfz8_4 := blk_frozen BK266.out 4) | (go_at_call 66; ((with_reducible refine (graph_Succs.calls k a0_0 a0_1 a0_2 A0_3 c0_3 l0_3 A0_4 c0_4 l0_4 s w6 (Kd.C_below HR0_3.out HB.out) HC0_3.out (Kd.C_below HR0_4.out HB.out) HC0_4.out HS.out).mono ?_); rintro e w2 ⟨v_, rfl, hS_, hb⟩; obtain ⟨As, cs, rfl⟩ := Kd.S_slice hS_; have HF := Aside0.mk (Kd.F_mono (ok' := fun k_ => w6.heap.size ≤ k_ ∧ k_ < w2.heap.size) (gt_F_of_S hS_) (fun k_ hk_ => hk_.2)); have HB2 := Aside0.mk (below_step HB.out hb); have HO := Aside0.mk (Kd.S_below (Kd.S_mono (ok' := fun k_ => k_ < w6.heap.size ∨ w2.heap.size ≤ k_) (Kd.S_bound HO269.out) (fun k_ hk_ => .inl hk_.2.2.1)) hb); have HZ2 := Aside0.mk (Nat.le_trans HB.out.size hb.size); clear hS_ hb HO269 HB)))
 go_loopg [15] s.length (fun kq v15 w' => ∃ j : Nat, v15 = .int .i64 (j : Int) ∧ Aside0 (j + kq = s.length) ∧ Aside0 (Kd.S (Kd.slice 3 (Kd.int .i64)) 22 w' w.heap.size (fun k_ => k_ < w6.heap.size ∨ w2.heap.size ≤ k_) v268 (gtPr s s.length j)) ∧ Aside0 (Kd.F (Kd.slice 3 (Kd.int .i64)) w' (fun k_ => w6.heap.size ≤ k_ ∧ k_ < w2.heap.size) As s.length s) ∧ Aside0 (Below w.heap.size w w') ∧ Aside0 (w2.heap.size ≤ w'.heap.size))
 case atStart => exact ⟨0, rfl, ⟨by omega⟩, ⟨by have := HO.out; rw [Int.toNat_natCast, ← HSN.out] at this; exact this⟩, HF, HB2, ⟨Nat.le_refl _⟩⟩
 case round =>
  obtain ⟨j, rfl, HJ, HO1, HF1, HB1, HZ1⟩ := hrel
  clear HO HF HB2
  by_cases hlt : j < s.length
  ·have q1 : (0 : Int) ≤ (j : Int) := by omega
   have q2 : (j : Int) < (s.length : Int) := by omega
   obtain ⟨ad, c, hA, hcl, hFK, hcc, _⟩ := Kd.F_get HF1.out ([] : List Int) (j : Int) (by omega) (by omega)
   obtain ⟨l, hl⟩ : ∃ l, s.getD j [] = l := ⟨_, rfl⟩
   rw [show s.getD ((j : Int)).toNat [] = l from hl] at hFK
   obtain ⟨A5, c5, rfl, hc5, hF5⟩ := Kd.FK_slice_open hFK
   have e1 := hcc 0 _ rfl
   simp only [Int.toNat_natCast] at e1
   subst hA
   replace e1 : wr.cell? (ad.add j) = some (.slice A5 l.length c5) := by rw [← e1]; congr 1; show _ = ad.add (j * 1 + 0); rw [Nat.mul_one, Nat.add_zero]
   have hlv : ∀ t ∈ l, 0 ≤ t ∧ t < (s.length : Int) := HVAL.out l (by rw [← hl, List.getD_eq_getElem?_getD, List.getElem?_eq_getElem hlt]; exact List.getElem_mem hlt)
   have HLV := Aside0.mk hlv
   have HL := Aside0.mk hl
   have HF5 := Aside0.mk hF5
   have HM := Aside0.mk (Kd.F_max hF5)
   have HW := Aside0.mk (show wrap64 ((j : Int) + 1) = ((j + 1 : Nat) : Int) by have := HLS.out; unfold wrap64; omega)
   have HLT := Aside0.mk hlt
   have HTOT1 : Aside0 (gtTot s j + l.length ≤ 1099511627776) := ⟨by have := gtTot_mono s (show j + 1 ≤ s.length by omega); have h2 := HTOT.out; rw [gtTot, hl] at this; omega⟩
   clear hFK hcc hF5 hlv hl hlt
   go_wp2
   go_loopg [22] l.length (fun kq v22 w' => ∃ i : Nat, v22 = .int .i64 (i : Int) ∧ Aside0 (i + kq = l.length) ∧ Aside0 (Kd.S (Kd.slice 3 (Kd.int .i64)) 22 w' w.heap.size (fun k_ => k_ < w6.heap.size ∨ w2.heap.size ≤ k_) v268 ((l.take i).foldl (fun o t => gtPut (j : Int) t o) (gtPr s s.length j))) ∧ Aside0 (Kd.F (Kd.slice 3 (Kd.int .i64)) w' (fun k_ => w6.heap.size ≤ k_ ∧ k_ < w2.heap.size) (some ad) s.length s) ∧ Aside0 (Below w.heap.size w w') ∧ Aside0 (w2.heap.size ≤ w'.heap.size) ∧ Aside0 (Kd.F (Kd.int .i64) w' (fun k_ => w6.heap.size ≤ k_ ∧ k_ < w2.heap.size) A5 l.length l))
   case atStart => exact ⟨0, rfl, ⟨by omega⟩, HO1, HF1, HB1, HZ1, HF5⟩
   case round =>
    obtain ⟨i, rfl, HJI, HO2, HF2, HB2, HZ2', HF6⟩ := hrel
    by_cases hlt : i < l.length
    ·have u1 : (0 : Int) ≤ (i : Int) := by omega
     have u2 : (i : Int) < (l.length : Int) := by omega
     obtain ⟨ad0, e0, hx⟩ := Kd.at_int (Kd.F_now HF6.out) (i : Int) u1 u2
     cases e0
     have hx : wr.cell? (ad0.add i) = some (.int .i64 (rd l (i : Int))) := by simpa using hx
     have hri : rd l (i : Int) = l[i] := by simp [rd, List.getD_eq_getElem?_getD, hlt]
     obtain ⟨h0, h1⟩ := HLV.out l[i] (List.getElem_mem hlt)
     obtain ⟨t, ht⟩ : ∃ t : Int, l[i] = t := ⟨_, rfl⟩
     rw [ht] at h0 h1
     rw [hri, ht] at hx
     have htk : l.take (i + 1) = l.take i ++ [t] := by rw [List.take_succ_eq_append_getElem hlt, ht]
     have HTK := Aside0.mk (gt_fold_snoc s s.length j l i t htk)
     have hbd := gtFold_bd (j : Int) (l.take i) (gtPr_bd s s.length j)
     have hln : ((l.take i).foldl (fun o t => gtPut (j : Int) t o) (gtPr s s.length j)).length = s.length := (gtFold_len _ _ _).trans (gtPr_len _ _ _)
     obtain ⟨o1, ho1⟩ : ∃ o1, ((l.take i).foldl (fun o t => gtPut (j : Int) t o) (gtPr s s.length j)) = o1 := ⟨_, rfl⟩
     rw [ho1] at HO2 HTK hbd hln
     have hbd2 : (o1.getD t.toNat []).length ≤ 1099511627776 := by have := hbd t.toNat; have h3 := HTOT1.out; have h4 : (l.take i).length ≤ l.length := (by rw [List.length_take]; exact Nat.min_le_right _ _); omega
     obtain ⟨row, hrow⟩ : ∃ row, o1.getD t.toNat [] = row := ⟨_, rfl⟩
     have HPUT : Aside0 (gtPut (j : Int) t o1 = o1.set t.toNat (row ++ [(j : Int)])) := ⟨by rw [← hrow]; rfl⟩
     rw [hrow] at hbd2
     obtain ⟨go29, co29, eo29, gb29, gl29, cl29, HG29⟩ := Kd.S_form HO2.out (by omega)
     subst eo29
     have ht2 : t < (o1.length : Int) := by omega
     obtain ⟨oki29, ce29, hcl29, hM29, hcc29, hfr29, hoki29, hH29⟩ := Kd.S_elem HO2.out [] t h0 ht2
     rw [hrow] at hM29
     obtain ⟨ve29, rfl, ge29⟩ := hM29
     obtain ⟨A276, c276, rfl⟩ := Kd.R_slice ge29
     have hx276 := hcc29 0 _ rfl
     simp only [Nat.add_zero, show ((Kd.slice 3 (Kd.int .i64))).sz = 1 from rfl, Nat.mul_one] at hx276
     have hG29ok : ∀ k_, some go29 = some k_ → (fun k_ => k_ < w6.heap.size ∨ w2.heap.size ≤ k_) k_ := fun k_ e_ => by obtain ⟨f_, hR_⟩ := HO2.out; exact hR_.1 k_ (by simpa [Value.ownBlock] using e_)
     have hUok : ∀ k_, oki29 k_ → ¬ (w6.heap.size ≤ k_ ∧ k_ < w2.heap.size) := fun k_ e_ => by have := (hoki29 k_ e_).1; omega
     have hGok : ¬ (w6.heap.size ≤ go29 ∧ go29 < w2.heap.size) := by have := hG29ok go29 rfl; omega
     have GB29 := Aside0.mk gb29
     have HOKI29 := Aside0.mk hoki29
     have HH29 := Aside0.mk hH29
     have GE29 := Aside0.mk ge29
     have HUOK := Aside0.mk hUok
     have HGOK := Aside0.mk hGok
     have HLN := Aside0.mk hln
     have HBD2 := Aside0.mk hbd2
     have HROW := Aside0.mk hrow
     have HO1 := Aside0.mk ho1
     have HLT2 := Aside0.mk hlt
     have HT0 := Aside0.mk h0
     have HT2 := Aside0.mk ht2
     have HWI := Aside0.mk (show wrap64 ((i : Int) + 1) = ((i + 1 : Nat) : Int) by have := HM.out; unfold wrap64; omega)
     replace h0 := eq_true h0
     replace ht2 := eq_true ht2
     clear gb29 gl29 cl29 HG29 hcl29 hcc29 hfr29 hoki29 hH29 ge29 hG29ok hUok hGok hri h1 ht htk hbd hln hbd2 hrow hlt ho1
     go_wp2_with (first | ((with_reducible refine gate_builtin (b := .append) (xs := #[.tmp 31, .tmp 33]) rfl ?_); at_builtin; refine Kd.R_append (Kd.int .i64) (w0 := w) w.heap.size rfl (.tmp 31) (.tmp 33) 22 3 (.int .i64 0) 8 rfl Try.underlying22 info3 rfl (by decide) (by omega) (.slice A276 row.length c276) row (j : Int) [.int .i64 (j : Int)] (fun k_ => oki29 k_ ∨ (fun k_ => k_ < w6.heap.size ∨ w2.heap.size ≤ k_) k_ ∧ wr.heap.size ≤ k_) (fun _ => False) rfl rfl ?aP (fun _ hk => hk.elim) ?aF ?aO ?aB ?aS ?aL ?_; (case aP => exact rfl); (case aF => exact (fun k_ hk => .inr ⟨.inr (Nat.le_trans HZ2'.out hk), hk⟩)); (case aO => exact Kd.R_mono GE29.out (fun _ hk => .inl hk)); (case aB => exact HB2.out); (case aS => exact HB2.out.size); (case aL => have := HBD2.out; omega); intro v278 w30 ho hb hg hat; obtain ⟨A33, c33, eo33⟩ := Kd.R_slice ho; subst eo33; have hown : ∀ k_, (Value.slice A276 row.length c276).ownBlock = some k_ → oki29 k_ := GE29.out.1; have n0_ := Aside0.mk (Kd.F_step HF2.out (fun k_ hk_ hlt_ => hg.block k_ hlt_ (fun e_ => HUOK.out k_ (hown k_ e_.symm) hk_))); have n1_ := Aside0.mk (Kd.F_step HF6.out (fun k_ hk_ hlt_ => hg.block k_ hlt_ (fun e_ => HUOK.out k_ (hown k_ e_.symm) hk_))); have n2_ := Aside0.mk hb; have n3_ := Aside0.mk (Kd.H_grown (Kd.H_widen HH29.out) hg (fun k_ e_ => .inl (hown k_ e_))); have n4_ := Aside0.mk ho; have n5_ := Aside0.mk (Nat.le_trans HZ2'.out hg.size); clear HF2 HF6 HB2 HH29 HO2 GE29 HZ2'; have HF2 := n0_; have HF6 := n1_; have HB2 := n2_; have HH29 := n3_; have HO279 := n4_; have HZ2' := n5_; clear n0_ n1_ n2_ n3_ n4_ n5_; clear ho hb hg hat hown hx276; obtain ⟨_, _, hraw31, _, _, hcc31, _⟩ := Kd.H_raw HH29.out HT0.out HT2.out; obtain ⟨_, hfr31⟩ := Kd.H_at HH29.out HT0.out HT2.out; have hx31 := hcc31 0 _ rfl; have hf31 := hfr31 0; simp only [Nat.add_zero, show ((Kd.slice 3 (Kd.int .i64))).sz = 1 from rfl, Nat.mul_one] at hx31 hf31; have HP31 := Kd.S_seg0 HH29.out HT0.out HT2.out (seg := [.slice A33 (row ++ [(j : Int)]).length c33]) (j := 0) (show 1 ≤ 1 from by decide) (x' := row ++ [(j : Int)]) (Kd.M_row HO279.out) (fun _ hk => hk); (try simp only [show ((Kd.slice 3 (Kd.int .i64))).sz = 1 from rfl, Nat.mul_one, Nat.add_zero] at HP31); clear hcc31 hfr31 hraw31) | ((with_reducible refine gate_store (t := 22) (p := 35) rfl ?_); refine store_event (t := 22) (p := 35) (v := ?vo_w32) (w1 := (w30.setCell ⟨go29, t.toNat, none⟩ (.slice A33 (row ++ [(j : Int)]).length c33))) ?hg ?ho ?hn ?hr ?_; (case ho => rfl); (case hg => rfl); (case hn => rfl); (case hr => first | (go_simp; done) | (go_simp; rfl)); intro w32 hw; have hg : w30.grownBy w32 (some go29) := (by rw [hw]; exact HP31.2); have hp_ : Kd.S (Kd.slice 3 (Kd.int .i64)) 22 w32 w.heap.size (fun k_ => k_ < w6.heap.size ∨ w2.heap.size ≤ k_) (.slice (some ⟨go29, 0, none⟩) o1.length co29) (gtPut (j : Int) t o1) := (by rw [hw, HPUT.out]; exact HP31.1); clear HP31; have n0_ := Aside0.mk (Kd.F_step HF2.out (fun k_ hk_ hlt_ => hg.block k_ hlt_ (fun e_ => HGOK.out (by cases e_; exact hk_)))); have n1_ := Aside0.mk (Kd.F_step HF6.out (fun k_ hk_ hlt_ => hg.block k_ hlt_ (fun e_ => HGOK.out (by cases e_; exact hk_)))); have n2_ := Aside0.mk ((by rw [hw]; exact below_set HB2.out GB29.out : Below w.heap.size w w32)); have n3_ := Aside0.mk hp_; have n4_ := Aside0.mk (Nat.le_trans HZ2'.out hg.size); clear HF2 HF6 HB2 HO279 HH29 HZ2'; have HF2 := n0_; have HF6 := n1_; have HB2 := n2_; have HO2 := n3_; have HZ2' := n4_; clear n0_ n1_ n2_ n3_ n4_; clear hg hw hp_))
     go_roundg (gk - 1)
     case measure => have := HJI.out; have := HLT2.out; omega
     case rel => exact ⟨i + 1, by first | rfl | rw [HWI.out], ⟨by have := HJI.out; have := HLT2.out; omega⟩, ⟨by rw [HTK.out]; exact HO2.out⟩, HF2, HB2, HZ2', HF6⟩
    ·have hi : i = l.length := by have := HJI.out; omega
     subst hi
     rw [List.take_of_length_le (Nat.le_refl _)] at HO2
     clear hlt
     go_wp2
     go_roundg (s.length - (j + 1))
     case measure => have := HJ.out; have := HLT.out; omega
     case rel => exact ⟨j + 1, by first | rfl | rw [HW.out], ⟨by have := HJ.out; have := HLT.out; omega⟩, ⟨by rw [gtPr, HL.out]; exact HO2.out⟩, HF2, HB2, HZ2'⟩
  ·have hj : j = s.length := by have := HJ.out; omega
   subst hj
   clear hlt
   go_wp2
   go_ret
   exact ⟨_, rfl, Kd.S_mono HO1.out (fun _ _ => trivial), HB1.out⟩
def dom_meet.l0 : Nat → List Int → List Int → Int → Int → Option (Int)
 | 0, _, _, _, _ => none
 | k + 1, x0, x1, x2, x3 => if x2 = x3 then (some x2) else (if 0 ≤ x2 then (if x2 < (x1.length : Int) then (if 0 ≤ x3 then (if x3 < (x1.length : Int) then (if (rd x1 x2) > (rd x1 x3) then (if x2 < (x0.length : Int) then (dom_meet.l0 k x0 x1 (rd x0 x2) x3) else (none)) else (if x3 < (x0.length : Int) then (dom_meet.l0 k x0 x1 x2 (rd x0 x3)) else (none))) else (none)) else (none)) else (none)) else (none))
def dom_meet.f (k : Nat) (l0 : List Int) (l1 : List Int) (a2 : Int) (a3 : Int) : Option (Int) := dom_meet.l0 k l0 l1 a2 a3
theorem dom_meet.mono_l : ∀ k, (∀ y0 y1 y2 y3, LeO (dom_meet.l0 k y0 y1 y2 y3) (dom_meet.l0 (k + 1) y0 y1 y2 y3))
 | 0 => fun _ _ _ _ r h => by simp [dom_meet.l0] at h
 | k + 1 => by
  have ih0 := dom_meet.mono_l k
  ·intro y0 y1 y2 y3
   unfold dom_meet.l0
   repeat' first
   | (with_reducible exact ih0 _ _ _ _)
   | (with_reducible exact LeO.refl _)
   | (with_reducible exact LeO.none _)
   | (with_reducible refine LeO.ite ?_ ?_)
   | (with_reducible refine LeO.bind ?_ (fun _ => ?_))
   | exact ih0 _ _ _ _
   | exact LeO.none _
   | refine LeO.ite ?_ ?_
   | refine LeO.bind ?_ (fun _ => ?_)
theorem dom_meet.mono : ∀ a0 a1 a2 a3 k, LeO (dom_meet.f k a0 a1 a2 a3) (dom_meet.f (k + 1) a0 a1 a2 a3) := by
 intro a0 a1 a2 a3 k
 have ih0 := dom_meet.mono_l k
 unfold dom_meet.f
 repeat' first
   | (with_reducible exact ih0 _ _ _ _)
   | (with_reducible exact LeO.refl _)
   | (with_reducible exact LeO.none _)
   | (with_reducible refine LeO.ite ?_ ?_)
   | (with_reducible refine LeO.bind ?_ (fun _ => ?_))
   | exact ih0 _ _ _ _
   | exact LeO.none _
   | refine LeO.ite ?_ ?_
   | refine LeO.bind ?_ (fun _ => ?_)
set_option maxHeartbeats 8000000 in
set_option maxRecDepth 100000 in
theorem dom_meet.calls (k : Nat) (A0 : Option Addr) (c0 : Nat) (l0 : List Int) (A1 : Option Addr) (c1 : Nat) (l1 : List Int) (a2 : Int) (a3 : Int) (r : Int) (w : World) (hr0 : Kd.C (Kd.int .i64) w A0 l0.length l0) (hc0 : l0.length ≤ c0) (hr1 : Kd.C (Kd.int .i64) w A1 l1.length l1) (hc1 : l1.length ≤ c1) (h : dom_meet.f k l0 l1 a2 a3 = some r) :
  Calls Try.prog 53 #[.slice A0 l0.length c0, .slice A1 l1.length c1, .int .i64 a2, .int .i64 a3] w fun e w' => e = .returned (.int .i64 r) ∧ Drawn0 w w' := by
 have HR0 := Aside0.mk hr0
 have HC0 := Aside0.mk hc0
 clear hr0 hc0
 have HR1 := Aside0.mk hr1
 have HC1 := Aside0.mk hc1
 clear hr1 hc1
 have H : (dom_meet.l0 k l0 l1 a2 a3) = some r := h
 clear h
 have H' := Aside0.mk H
 clear H
 go_enter Try.func53, Try.ntmps53
 go_wp2
 repeat (go_quiet (fail); try go_wp2)
 go_loopg [2, 3] k (fun kq v2 v3 w' => ∃ (x2_1 : Int) (x3_1 : Int), v2 = .int .i64 x2_1 ∧ v3 = .int .i64 x3_1 ∧ Aside0 (dom_meet.l0 kq l0 l1 x2_1 x3_1 = some r) ∧ Aside0 (kq ≤ k) ∧ Drawn0 w w')
 case atStart => exact ⟨(a2), (a3), zQ, zQ, H', ⟨Nat.le_refl _⟩, zD⟩
 case round =>
  clear H'
  try clear c1
  try clear p2
  obtain ⟨x2_1, x3_1, rfl, rfl, HA, HK1, ⟨m1, rfl⟩⟩ := hrel
  cases gk with
  | zero => exact absurd HA.out (by simp [dom_meet.l0])
  | succ k1 =>
   have H := HA.out
   clear HA
   simp only [dom_meet.l0] at H
   by_cases c5 : x2_1 = x3_1
   ·rw [if_pos c5] at H
    have c5b0 : (x2_1 == x3_1) = true := beq_iff_eq.mpr c5
    have c5b1 : (x2_1 != x3_1) = false := bne_eq_false_iff_eq.mpr c5
    clear c5
    obtain rfl := Option.some.inj H
    go_wp2
    repeat (go_quiet (fail); try go_wp2)
    go_ret
    exact ⟨zQ, zD⟩
   ·rw [if_neg c5] at H
    have c5b0 : (x2_1 == x3_1) = false := beq_eq_false_iff_ne.mpr c5
    have c5b1 : (x2_1 != x3_1) = true := bne_iff_ne.mpr c5
    by_cases c6 : 0 ≤ x2_1
    ·rw [if_pos c6] at H
     have c6b0 : decide (0 ≤ x2_1) = true := decide_eq_true c6
     clear c6
     by_cases c7 : x2_1 < (l1.length : Int)
     ·rw [if_pos c7] at H
      have c7b0 : decide (x2_1 < (l1.length : Int)) = true := decide_eq_true c7
      clear c7
      by_cases c8 : 0 ≤ x3_1
      ·rw [if_pos c8] at H
       have c8b0 : decide (0 ≤ x3_1) = true := decide_eq_true c8
       clear c8
       by_cases c9 : x3_1 < (l1.length : Int)
       ·rw [if_pos c9] at H
        have c9b0 : decide (x3_1 < (l1.length : Int)) = true := decide_eq_true c9
        clear c9
        by_cases c10 : (rd l1 x2_1) > (rd l1 x3_1)
        ·rw [if_pos c10] at H
         have c10b0 : decide ((rd l1 x3_1) < (rd l1 x2_1)) = true := decide_eq_true c10
         clear c10
         by_cases c11 : x2_1 < (l0.length : Int)
         ·rw [if_pos c11] at H
          have c11b0 : decide (x2_1 < (l0.length : Int)) = true := decide_eq_true c11
          clear c11
          have H' := Aside0.mk H
          clear H
          have p145 : 0 ≤ (x2_1 : Int) := zO
          have q145 : x2_1 < (l1.length : Int) := zO
          obtain ⟨ad145, e145, hx145_0⟩ := Kd.at_int HR1.out x2_1 p145 q145
          cases e145
          replace p145 := eq_true p145
          replace q145 := eq_true q145
          have p146 : 0 ≤ (x3_1 : Int) := zO
          have q146 : x3_1 < (l1.length : Int) := zO
          obtain ⟨ad146, e146, hx146_0⟩ := Kd.at_int HR1.out x3_1 p146 q146
          obtain rfl : ad145 = ad146 := (by injection e146)
          replace p146 := eq_true p146
          replace q146 := eq_true q146
          have p147 : 0 ≤ (x2_1 : Int) := zO
          have q147 : x2_1 < (l0.length : Int) := zO
          obtain ⟨ad147, e147, hx147_0⟩ := Kd.at_int HR0.out x2_1 p147 q147
          cases e147
          replace p147 := eq_true p147
          replace q147 := eq_true q147
          go_wp2
          repeat (go_quiet (fail); try go_wp2)
          go_roundg k1
          case measure => have := HK1.out; omega
          case rel => exact ⟨(rd l0 x2_1), (x3_1), zQ, zQ, H', ⟨by have := HK1.out; omega⟩, zD⟩
         ·rw [if_neg c11] at H
          exact absurd H (by simp)
        ·rw [if_neg c10] at H
         have c10b0 : decide ((rd l1 x3_1) < (rd l1 x2_1)) = false := decide_eq_false c10
         clear c10
         by_cases c12 : x3_1 < (l0.length : Int)
         ·rw [if_pos c12] at H
          have c12b0 : decide (x3_1 < (l0.length : Int)) = true := decide_eq_true c12
          clear c12
          have H' := Aside0.mk H
          clear H
          have p145 : 0 ≤ (x2_1 : Int) := zO
          have q145 : x2_1 < (l1.length : Int) := zO
          obtain ⟨ad145, e145, hx145_0⟩ := Kd.at_int HR1.out x2_1 p145 q145
          cases e145
          replace p145 := eq_true p145
          replace q145 := eq_true q145
          have p146 : 0 ≤ (x3_1 : Int) := zO
          have q146 : x3_1 < (l1.length : Int) := zO
          obtain ⟨ad146, e146, hx146_0⟩ := Kd.at_int HR1.out x3_1 p146 q146
          obtain rfl : ad145 = ad146 := (by injection e146)
          replace p146 := eq_true p146
          replace q146 := eq_true q146
          have p148 : 0 ≤ (x3_1 : Int) := zO
          have q148 : x3_1 < (l0.length : Int) := zO
          obtain ⟨ad148, e148, hx148_0⟩ := Kd.at_int HR0.out x3_1 p148 q148
          cases e148
          replace p148 := eq_true p148
          replace q148 := eq_true q148
          go_wp2
          repeat (go_quiet (fail); try go_wp2)
          go_roundg k1
          case measure => have := HK1.out; omega
          case rel => exact ⟨(x2_1), (rd l0 x3_1), zQ, zQ, H', ⟨by have := HK1.out; omega⟩, zD⟩
         ·rw [if_neg c12] at H
          exact absurd H (by simp)
       ·rw [if_neg c9] at H
        exact absurd H (by simp)
      ·rw [if_neg c8] at H
       exact absurd H (by simp)
     ·rw [if_neg c7] at H
      exact absurd H (by simp)
    ·rw [if_neg c6] at H
     exact absurd H (by simp)
end Go.Proofs.Ytomopjomapkmjaa.P

-- by xprint.py, a program of this place over the kit's print: Lean checks it
import Derived.Test.YtbkbgooncedleaaDoorP0
namespace Go.Proofs.YtbkbgooncedleaaDoor.P
open Go.RowKit Go.Proofs.YtbkbgooncedleaaDoorW.PrintWords Go.Proofs.YtbkbgooncedleaaDoorW.PrintLast Go.Proofs.YtbkbgooncedleaaDoorW.PrintMore
attribute [local go_sem] max2_int min2_int max_two min_two max_three min_three max_four min_four   -- for this text's walks alone
set_option linter.unusedVariables false
set_option linter.unusedSimpArgs false

/-! ### bits_New: function 9 -/
def bits_New.f (a0 : Int) : Option (List Int) := if a0 < 0 then (some ([] : List Int)) else (if a0 > 65536 then (some ([] : List Int)) else (if 0 ≤ (wrap64 (Int.tdiv (wrap64 ((wrap64 (a0 + 64)) - 1)) 64)) then (if (wrap64 (Int.tdiv (wrap64 ((wrap64 (a0 + 64)) - 1)) 64) : Int).toNat ≤ 35184372088832 then (some (List.replicate (wrap64 (Int.tdiv (wrap64 ((wrap64 (a0 + 64)) - 1)) 64) : Int).toNat 0)) else (none)) else (none)))
set_option maxHeartbeats 8000000 in
set_option maxRecDepth 100000 in
theorem bits_New.calls (a0 : Int) (r : List Int) (w : World) (h : bits_New.f a0 = some r) :
    Calls Tryd.prog 9 #[.int .i64 a0] w fun e w' => ∃ v0_ : Value, e = .returned (v0_) ∧ Kd.R (Kd.int .u64) 48 w' w.heap.size (fun _ => True) v0_ r ∧ Below w.heap.size w w' := by
  have HB := Aside0.mk (Below.refl w.heap.size w)
  have H : (if a0 < 0 then (some ([] : List Int)) else (if a0 > 65536 then (some ([] : List Int)) else (if 0 ≤ (wrap64 (Int.tdiv (wrap64 ((wrap64 (a0 + 64)) - 1)) 64)) then (if (wrap64 (Int.tdiv (wrap64 ((wrap64 (a0 + 64)) - 1)) 64) : Int).toNat ≤ 35184372088832 then (some (List.replicate (wrap64 (Int.tdiv (wrap64 ((wrap64 (a0 + 64)) - 1)) 64) : Int).toNat 0)) else (none)) else (none)))) = some r := h
  clear h
  by_cases c2 : a0 < 0
  · rw [if_pos c2] at H
    have c2b0 : decide (a0 < 0) = true := decide_eq_true c2
    clear c2
    obtain rfl := Option.some.inj H
    go_enter Tryd.func9, Tryd.ntmps9
    go_wp2
    go_ret
    exact ⟨_, by first | rfl | (simp [errW_none, errW_some] <;> rfl) | (simp [*, errW_none, errW_some] <;> rfl), by first | exact Kd.R_nil _ _ _ _ _ | exact Kd.N_nil _ _ _ _ _ | exact Kd.V_nil _ _ _ _ _ | exact Kd.Q_nil _ _ _ _ _ | exact Kd.S_nil _ _ _ _ _, zB⟩
  · rw [if_neg c2] at H
    have c2b0 : decide (a0 < 0) = false := decide_eq_false c2
    clear c2
    by_cases c3 : a0 > 65536
    · rw [if_pos c3] at H
      have c3b0 : decide (65536 < a0) = true := decide_eq_true c3
      clear c3
      obtain rfl := Option.some.inj H
      go_enter Tryd.func9, Tryd.ntmps9
      go_wp2
      go_ret
      exact ⟨_, by first | rfl | (simp [errW_none, errW_some] <;> rfl) | (simp [*, errW_none, errW_some] <;> rfl), by first | exact Kd.R_nil _ _ _ _ _ | exact Kd.N_nil _ _ _ _ _ | exact Kd.V_nil _ _ _ _ _ | exact Kd.Q_nil _ _ _ _ _ | exact Kd.S_nil _ _ _ _ _, zB⟩
    · rw [if_neg c3] at H
      have c3b0 : decide (65536 < a0) = false := decide_eq_false c3
      clear c3
      obtain ⟨ji4, hji4⟩ : ∃ j_ : Int, (wrap64 (Int.tdiv (wrap64 ((wrap64 (a0 + 64)) - 1)) 64)) = j_ := ⟨_, rfl⟩
      replace H : (if 0 ≤ (ji4) then (if (ji4 : Int).toNat ≤ 35184372088832 then (some (List.replicate (ji4 : Int).toNat 0)) else (none)) else (none)) = some r := by first | (rw [hji4] at H; exact H) | (simp only [hji4] at H ⊢; exact H)
      have hji4w : (IntKind.i64.wrap (Int.tdiv (wrap64 ((wrap64 (a0 + 64)) - 1)) 64)) = ji4 := (i64_w _).trans hji4
      by_cases c5 : 0 ≤ (ji4)
      · rw [if_pos c5] at H
        have c5b0 := eq_true c5
        have c5b1 : decide (0 ≤ (ji4)) = true := decide_eq_true c5
        clear c5
        by_cases c6 : (ji4 : Int).toNat ≤ 35184372088832
        · rw [if_pos c6] at H
          have c6b0 := eq_true c6
          have c6b1 : decide ((ji4 : Int).toNat ≤ 35184372088832) = true := decide_eq_true c6
          clear c6
          obtain ⟨y101, hy101⟩ : ∃ y_ : List Int, y_ = (List.replicate (ji4 : Int).toNat 0) := ⟨_, rfl⟩
          replace H : (some y101) = some r := by first | (rw [hy101]; with_reducible exact H) | (have H2_ := (Option.bind_some _ _).symm.trans H; rw [hy101]; with_reducible exact H2_) | (have H2_ := (Option.bind_some _ _).symm.trans H; with_reducible exact H2_) | with_reducible exact H | (rw [hy101]; exact H) | exact H
          have Ny101 := Aside0.mk hy101
          clear hy101
          obtain rfl := Option.some.inj H
          go_enter Tryd.func9, Tryd.ntmps9
          go_wp2_with (first | ((with_reducible refine gate_dst (N := 13) rfl ?_); refine Kd.R_make (Kd.int .u64) _ 48 rfl (N := 13) rfl 26 _ _ rfl ji4 rfl rfl Tryd.underlying26 (.int .u64 0) 8 info48 rfl (by decide) (by omega) 0 (ok := fun _ => True) (okp := fun _ => True) rfl (fun _ hk => hk) trivial (of_decide_eq_true (by first | (with_reducible assumption) | assumption)) (Nat.le_trans (Nat.mul_le_mul_right _ (of_decide_eq_true (by first | (with_reducible assumption) | assumption) : ji4.toNat ≤ 35184372088832)) (by omega)) (Below.refl _ _) (Nat.le_refl _) ?_; intro v102 w7 ho8 hb hg_ hnew_; clear hg_ hnew_; (first | rw [← Ny101.out] at ho8 | (simp only [Int.reduceToNat] at ho8; rw [← Ny101.out] at ho8)); have n0_ := Aside0.mk (Kd.R_lower ho8 (below_size (zB))); have n1_ := Aside0.mk (below_step (zB) hb); clear HB; have HO103 := n0_; have HB := n1_; clear n0_ n1_; clear hb ho8))
          go_ret
          exact ⟨_, by first | rfl | (simp [errW_none, errW_some] <;> rfl) | (simp only [← hji4]; first | rfl | (simp [errW_none, errW_some] <;> rfl)) | (simp [*, errW_none, errW_some] <;> rfl), zR HO103.out, zB⟩
        · rw [if_neg c6] at H
          exact absurd H (by simp)
      · rw [if_neg c5] at H
        exact absurd H (by simp)

/-! ### bits_New_nil: function 9 -/
def bits_New_nil.f (a0 : Int) : Option Unit := if a0 < 0 ∨ a0 > 65536 then some () else none
set_option maxHeartbeats 1000000 in
theorem bits_New_nil.calls (a0 : Int) (w : World) (h : bits_New_nil.f a0 = some ()) :
    Calls Tryd.prog 9 #[.int .i64 a0] w fun e w' => e = .returned (.slice none 0 0) ∧ Drawn0 w w' := by
  unfold bits_New_nil.f at h
  by_cases h1 : a0 < 0
  · clear h
    have t1 : decide (a0 < 0) = true := decide_eq_true h1
    go_enter Tryd.func9, Tryd.ntmps9
    go_wp2
    go_ret
    exact ⟨rfl, Drawn0.refl _⟩
  · by_cases h2 : a0 > 65536
    · clear h
      have t1 : decide (a0 < 0) = false := decide_eq_false h1
      have t2 : decide (65536 < a0) = true := decide_eq_true h2
      go_enter Tryd.func9, Tryd.ntmps9
      go_wp2
      go_ret
      exact ⟨rfl, Drawn0.refl _⟩
    · rw [if_neg (by omega)] at h
      cases h


/-! ### bits_Set_at: function 35 -/
set_option maxHeartbeats 1000000 in
set_option maxRecDepth 100000 in
theorem bits_at_out (A0 : Option Addr) (c0 n : Nat) (a1 : Int) (w : World) (hm : a1 ≤ 9223372036854775807) (h : ¬ (0 ≤ a1 ∧ a1 / 64 < (n : Int))) :
    Calls Tryd.prog 35 #[.slice A0 n c0, .int .i64 a1] w fun e w' => e = .returned (.tuple #[.pointer none, .int .u64 0, .bool false]) ∧ w = w' := by
  by_cases h1 : 0 ≤ a1
  · have t1 : decide (a1 < 0) = false := decide_eq_false (by omega)
    have t2 : decide ((n : Int) ≤ a1 / 64) = true := decide_eq_true (by omega)
    clear h
    go_enter Tryd.func35, Tryd.ntmps35
    go_wp2
    go_ret3
    exact ⟨rfl, rfl⟩
  · have t1 : decide (a1 < 0) = true := decide_eq_true (by omega)
    clear h
    go_enter Tryd.func35, Tryd.ntmps35
    go_wp2
    go_ret3
    exact ⟨rfl, rfl⟩
set_option maxHeartbeats 1000000 in
set_option maxRecDepth 100000 in
theorem bits_at_in (ad : Addr) (c0 n : Nat) (a1 : Int) (w : World) (hm : a1 ≤ 9223372036854775807) (h1 : 0 ≤ a1) (h2 : a1 / 64 < (n : Int)) :
    Calls Tryd.prog 35 #[.slice (some ad) n c0, .int .i64 a1] w fun e w' => e = .returned (.tuple #[.pointer (some (ad.add (a1 / 64).toNat)), .int .u64 (shl .u64 1 (a1 % 64)), .bool true]) ∧ Drawn0 w w' := by
  have t1 : decide (a1 < 0) = false := decide_eq_false (by omega)
  have t2 : decide ((n : Int) ≤ a1 / 64) = false := decide_eq_false (by omega)
  have p : 0 ≤ a1 / 64 := by omega
  have p2 : 0 ≤ a1 % 64 := by omega
  have p3 : a1 % 64 < 64 := by omega
  have e1 : ∀ m : Nat, m < 64 → IntKind.u64.wrap (2 ^ m) = shl .u64 1 m := by
    intro m hm2
    unfold shl
    rw [Int.one_mul, Int.toNat_natCast, Nat.min_eq_left (by show m ≤ 64; omega)]
  have E1 := Lib.hid e1; clear e1
  go_enter Tryd.func35, Tryd.ntmps35
  go_wp2
  repeat (go_quiet (fail); try go_wp2)
  go_ret3
  refine ⟨?_, by repeat (first | exact Drawn0.refl _ | apply Drawn0.step)⟩
  have e2 := E1.out (a1 % 64).toNat (by omega)
  rw [Int.toNat_of_nonneg p2] at e2
  rw [← e2]
  rfl


/-! ### bits_Set_Put: function 31 -/
def bits_Set_Put.f (l0 : List Int) (a1 : Int) : Option (Bool × List Int) := if a1 ≤ 9223372036854775807 then (if 0 ≤ a1 ∧ a1 / 64 < (l0.length : Int) then (if Go.bits .and .u64 (rd l0 (a1 / 64)) (shl .u64 1 (a1 % 64)) = 0 then some (true, l0.set (a1 / 64).toNat (Go.bits .or .u64 (rd l0 (a1 / 64)) (shl .u64 1 (a1 % 64)))) else some (false, l0)) else some (false, l0)) else none
set_option maxHeartbeats 1000000 in
set_option maxRecDepth 100000 in
theorem bits_Set_Put.calls (P0_ : Nat → Prop) (u9000_ : Value) (l0 : List Int) (a1 : Int) (r1 : Bool) (r2 : List Int) (w0 w : World) (hB : Below w0.heap.size w0 w) (ho0 : Kd.R (Kd.int .u64) 48 w w0.heap.size P0_ u9000_ l0) (h : bits_Set_Put.f l0 a1 = some (r1, r2)) :
    Calls Tryd.prog 31 #[u9000_, .int .i64 a1] w fun e w' => e = .returned (.bool r1) ∧ Kd.R (Kd.int .u64) 48 w' w0.heap.size (fun k_ => (P0_ k_ ∨ w.heap.size ≤ k_)) u9000_ r2 ∧ Below w0.heap.size w0 w' ∧ Kept w w' (fun k_ => P0_ k_) := by
  have HO := Aside0.mk (show Kd.R (Kd.int .u64) 48 w w0.heap.size (fun k_ => (P0_ k_ ∨ w.heap.size ≤ k_)) u9000_ l0 from Kd.R_mono ho0 (fun k_ hk => (.inl hk)))
  have HP := Aside0.mk ho0
  have HB := Aside0.mk hB
  clear ho0 hB
  unfold bits_Set_Put.f at h
  by_cases hm : a1 ≤ 9223372036854775807
  · rw [if_pos hm] at h
    by_cases h1 : 0 ≤ a1 ∧ a1 / 64 < (l0.length : Int)
    · rw [if_pos h1] at h
      obtain ⟨h1, h2⟩ := h1
      have p : 0 ≤ a1 / 64 := by omega
      obtain ⟨g, c, e, gb, gl, cl, hg⟩ := Kd.R_form HO.out (by omega)
      subst e
      obtain ⟨hx, hf⟩ := Kd.R_celln 0 HO.out (a1 / 64) p h2
      replace hx : w.cell? ⟨g, (a1 / 64).toNat, none⟩ = some (.int .u64 (rd l0 (a1 / 64))) := hx
      have GB := Aside0.mk gb
      have HM := Aside0.mk (show P0_ g from HP.out.1 _ rfl)
      clear gb gl cl hg
      by_cases h3 : Go.bits .and .u64 (rd l0 (a1 / 64)) (shl .u64 1 (a1 % 64)) = 0
      · rw [if_pos h3] at h
        have hi := Option.some.inj h
        injection hi with hi1 hi2
        subst hi1 hi2
        clear h
        have t3 : (Go.bits .and .u64 (rd l0 (a1 / 64)) (shl .u64 1 (a1 % 64)) != 0) = false := bne_eq_false_iff_eq.mpr h3
        have t4 : (Go.bits .and .u64 (rd l0 (a1 / 64)) (shl .u64 1 (a1 % 64)) == 0) = true := beq_iff_eq.mpr h3
        clear h3
        go_enter Tryd.func31, Tryd.ntmps31
        go_wp2_with (go_at_call 35; refine (bits_at_in ⟨g, 0, none⟩ c l0.length a1 _ hm h1 h2).mono ?_; rw [add_plain]; rintro e w' ⟨rfl, ⟨n, rfl⟩⟩)
        go_ret
        exact ⟨rfl, Kd.R_putn (Kd.R_drewN HO.out _) _ _, below_set (pw_below_drewN HB.out _) GB.out, Kept.setCell (Kept.drewN (Kept.refl _ _) _) (.inl HM.out) _⟩
      · rw [if_neg h3] at h
        have hi := Option.some.inj h
        injection hi with hi1 hi2
        subst hi1 hi2
        clear h
        have t3 : (Go.bits .and .u64 (rd l0 (a1 / 64)) (shl .u64 1 (a1 % 64)) != 0) = true := bne_iff_ne.mpr h3
        have t4 : (Go.bits .and .u64 (rd l0 (a1 / 64)) (shl .u64 1 (a1 % 64)) == 0) = false := beq_eq_false_iff_ne.mpr h3
        clear h3
        go_enter Tryd.func31, Tryd.ntmps31
        go_wp2_with (go_at_call 35; refine (bits_at_in ⟨g, 0, none⟩ c l0.length a1 _ hm h1 h2).mono ?_; rw [add_plain]; rintro e w' ⟨rfl, ⟨n, rfl⟩⟩)
        go_ret
        exact ⟨rfl, Kd.R_drewN HO.out _, pw_below_drewN HB.out _, Kept.drewN (Kept.refl _ _) _⟩
    · rw [if_neg h1] at h
      have hi := Option.some.inj h
      injection hi with hi1 hi2
      subst hi1 hi2
      clear h
      have H1 := Lib.hid h1
      clear h1
      obtain ⟨A, c, e⟩ := Kd.R_slice HO.out
      subst e
      go_enter Tryd.func31, Tryd.ntmps31
      go_wp2_with (go_at_call 35; refine (bits_at_out A c l0.length a1 _ hm H1.out).mono ?_; rintro e w' ⟨rfl, rfl⟩)
      go_ret
      exact ⟨rfl, HO.out, HB.out, Kept.refl _ _⟩
  · rw [if_neg hm] at h
    cases h


/-! ### bits_Of: function 11 -/
def bits_Of.l0 : Nat → Int → List Int → List Int → Int → Int → Option (List Int)
  | 0, _, _, _, _, _ => none
  | k + 1, x0, x5, x10, x11, x12 => if x12 < x11 then (if 0 ≤ x12 then (if x12 < (x10.length : Int) then (if (rd x10 x12) < x0 then ((bits_Set_Put.f x5 (rd x10 x12)).bind fun bt108 => (bits_Of.l0 k x0 bt108.2 x10 x11 (wrap64 (x12 + 1)))) else (bits_Of.l0 k x0 x5 x10 x11 (wrap64 (x12 + 1)))) else (none)) else (none)) else (some x5)
def bits_Of.f (k : Nat) (a0 : Int) (l1 : List Int) : Option (List Int) := (bits_New.f a0).bind fun t104 => (bits_Of.l0 k a0 t104 l1 (l1.length : Int) 0)
theorem bits_Of.mono_l : ∀ k, (∀ y0 y1 y2 y3 y4, LeO (bits_Of.l0 k y0 y1 y2 y3 y4) (bits_Of.l0 (k + 1) y0 y1 y2 y3 y4))
  | 0 => fun _ _ _ _ _ r h => by simp [bits_Of.l0] at h
  | k + 1 => by
    have ih0 := bits_Of.mono_l k
    · intro y0 y1 y2 y3 y4
      unfold bits_Of.l0
      repeat' first
      | (with_reducible exact ih0 _ _ _ _ _)
      | (with_reducible exact LeO.refl _)
      | (with_reducible exact LeO.none _)
      | (with_reducible refine LeO.ite ?_ ?_)
      | (with_reducible refine LeO.bind ?_ (fun _ => ?_))
      | exact ih0 _ _ _ _ _
      | exact LeO.none _
      | refine LeO.ite ?_ ?_
      | refine LeO.bind ?_ (fun _ => ?_)
theorem bits_Of.mono : ∀ a0 a1 k, LeO (bits_Of.f k a0 a1) (bits_Of.f (k + 1) a0 a1) := by
  intro a0 a1 k
  have ih0 := bits_Of.mono_l k
  unfold bits_Of.f
  repeat' first
      | (with_reducible exact ih0 _ _ _ _ _)
      | (with_reducible exact LeO.refl _)
      | (with_reducible exact LeO.none _)
      | (with_reducible refine LeO.ite ?_ ?_)
      | (with_reducible refine LeO.bind ?_ (fun _ => ?_))
      | exact ih0 _ _ _ _ _
      | exact LeO.none _
      | refine LeO.ite ?_ ?_
      | refine LeO.bind ?_ (fun _ => ?_)
set_option maxHeartbeats 8000000 in
set_option maxRecDepth 100000 in
theorem bits_Of.calls (k : Nat) (a0 : Int) (A1 : Option Addr) (c1 : Nat) (l1 : List Int) (r : List Int) (w : World) (hr1 : Kd.C (Kd.int .i64) w A1 l1.length l1) (hc1 : l1.length ≤ c1) (h : bits_Of.f k a0 l1 = some r) :
    Calls Tryd.prog 11 #[.int .i64 a0, .slice A1 l1.length c1] w fun e w' => ∃ v0_ : Value, e = .returned (v0_) ∧ Kd.R (Kd.int .u64) 48 w' w.heap.size (fun _ => True) v0_ r ∧ Below w.heap.size w w' := by
  have HR1 := Aside0.mk hr1
  have HC1 := Aside0.mk hc1
  clear hr1 hc1
  have HB := Aside0.mk (Below.refl w.heap.size w)
  have H : ((bits_New.f a0).bind fun t104 => (bits_Of.l0 k a0 t104 l1 (l1.length : Int) 0)) = some r := h
  clear h
  replace H := Option.bind_eq_some_iff.mp H
  obtain ⟨t104, A30, H⟩ := H
  replace H : (bits_Of.l0 k a0 t104 l1 (l1.length : Int) 0) = some r := H
  have A3 := Aside0.mk A30
  clear A30
  have H' := Aside0.mk H
  clear H
  go_enter Tryd.func11, Tryd.ntmps11
  go_wp2_with (first | ((with_reducible refine gate_callee (f := 9) rfl ?_); refine goesL_ (some 9) rfl rfl Tryd.func9 (by kernel_rfl) rfl #[.int .i64 a0] rfl zE ?_; (with_reducible refine (bits_New.calls a0 t104 _ A3.out).mono ?_); rintro e w4 ⟨v105, rfl, ho0, hb⟩; refine ⟨_, rfl, ?_⟩; have n0_ := Aside0.mk (Kd.R_lower ho0 (below_size (zB))); have n1_ := Aside0.mk (below_step (zB) hb); clear HB; have HO106 := n0_; have HB := n1_; clear n0_ n1_; (try clear hb); (try clear hb2); (try clear hk); (try clear hi); (try clear ho0)))
  go_loopg [12] k (fun kq v12 w' => ∃ (x5_1 : List Int) (x12_1 : Int), v12 = .int .i64 x12_1 ∧ Aside0 (bits_Of.l0 kq a0 x5_1 l1 (l1.length : Int) x12_1 = some r) ∧ Aside0 (kq ≤ k) ∧ Aside0 (Kd.R (Kd.int .u64) 48 w' w.heap.size (fun _ => True) v105 x5_1) ∧ Aside0 (Below w.heap.size w w'))
  case atStart => exact ⟨(t104), (0), (by first | rfl | (simp; done) | (simp [*]; done)), H', ⟨Nat.le_refl _⟩, ⟨zR HO106.out⟩, ⟨zB⟩⟩
  case round =>
    clear H'
    try clear c1
    try clear p2
    obtain ⟨x5_1, x12_1, rfl, HA, HK1, HO_5, HB⟩ := hrel
    cases gk with
    | zero => exact absurd HA.out (by simp [bits_Of.l0])
    | succ k1 =>
      have H := HA.out
      clear HA
      simp only [bits_Of.l0] at H
      by_cases c5 : x12_1 < (l1.length : Int)
      · rw [if_pos c5] at H
        have c5b0 : decide (x12_1 < (l1.length : Int)) = true := decide_eq_true c5
        clear c5
        by_cases c6 : 0 ≤ x12_1
        · rw [if_pos c6] at H
          have c6b0 : decide (0 ≤ x12_1) = true := decide_eq_true c6
          clear c6
          by_cases c7 : x12_1 < (l1.length : Int)
          · rw [if_pos c7] at H
            have c7b0 : decide (x12_1 < (l1.length : Int)) = true := decide_eq_true c7
            clear c7
            by_cases c8 : (rd l1 x12_1) < a0
            · rw [if_pos c8] at H
              have c8b0 : decide ((rd l1 x12_1) < a0) = true := decide_eq_true c8
              clear c8
              replace H := Option.bind_eq_some_iff.mp H
              obtain ⟨⟨t108, t109⟩, A90, H⟩ := H
              replace H : (bits_Of.l0 k1 a0 t109 l1 (l1.length : Int) (wrap64 (x12_1 + 1))) = some r := H
              have A9 := Aside0.mk A90
              clear A90
              have H' := Aside0.mk H
              clear H
              have p107 : 0 ≤ (x12_1 : Int) := of_decide_eq_true (by first | (with_reducible assumption) | assumption)
              have q107 : x12_1 < (l1.length : Int) := of_decide_eq_true (by first | (with_reducible assumption) | assumption)
              obtain ⟨ad107, e107, hx107_0⟩ := Kd.at_int HR1.out x12_1 p107 q107
              cases e107
              replace hx107_0 := (HB.out.cell (World.block_lt_of_cell? w _ hx107_0)).trans hx107_0
              replace p107 := eq_true p107
              replace q107 := eq_true q107
              obtain ⟨Ao10, co10, eo10⟩ := Kd.R_slice HO_5.out
              subst eo10
              go_wp2_with (first | ((with_reducible refine gate_callee (f := 31) rfl ?_); refine goesL_ (some 21) rfl rfl Tryd.func31 (by kernel_rfl) rfl #[.slice Ao10 x5_1.length co10, .int .i64 (rd l1 x12_1)] rfl zE ?_; (with_reducible refine (bits_Set_Put.calls (fun k_ => some k_ = (.slice Ao10 x5_1.length co10 : Value).ownBlock) (.slice Ao10 x5_1.length co10) x5_1 (rd l1 x12_1) t108 t109 w _ ?side1 ?side2 A9.out).mono ?_); (case side1 => repeat (first | (with_reducible first | exact HB.out | apply below_alloc | apply pw_below_drewN | apply below_drew1) | exact HB.out)); (case side2 => exact Kd.R_tight rfl HO_5.out); rintro e w11 ⟨rfl, hy0, hb, hkp⟩; refine ⟨_, rfl, ?_⟩; have n0_ := Aside0.mk (Kd.R_reok rfl hy0 (fun k_ e_ => HO_5.out.1 k_ e_)); have n1_ := Aside0.mk (hb); clear HO_5; clear HB; have HO_5 := n0_; have HB := n1_; clear n0_ n1_; (try clear hb); (try clear hkp); (try clear hy0)))
              go_roundg k1
              case measure => have := HK1.out; omega
              case rel => exact ⟨(t109), (wrap64 (x12_1 + 1)), (by first | rfl | (simp; done) | (simp [*]; done)), H', ⟨by have := HK1.out; omega⟩, ⟨zR HO_5.out⟩, ⟨zB⟩⟩
            · rw [if_neg c8] at H
              have c8b0 : decide ((rd l1 x12_1) < a0) = false := decide_eq_false c8
              clear c8
              have H' := Aside0.mk H
              clear H
              have p107 : 0 ≤ (x12_1 : Int) := of_decide_eq_true (by first | (with_reducible assumption) | assumption)
              have q107 : x12_1 < (l1.length : Int) := of_decide_eq_true (by first | (with_reducible assumption) | assumption)
              obtain ⟨ad107, e107, hx107_0⟩ := Kd.at_int HR1.out x12_1 p107 q107
              cases e107
              replace hx107_0 := (HB.out.cell (World.block_lt_of_cell? w _ hx107_0)).trans hx107_0
              replace p107 := eq_true p107
              replace q107 := eq_true q107
              go_wp2
              go_roundg k1
              case measure => have := HK1.out; omega
              case rel => exact ⟨(x5_1), (wrap64 (x12_1 + 1)), (by first | rfl | (simp; done) | (simp [*]; done)), H', ⟨by have := HK1.out; omega⟩, ⟨zR HO_5.out⟩, ⟨zB⟩⟩
          · rw [if_neg c7] at H
            exact absurd H (by simp)
        · rw [if_neg c6] at H
          exact absurd H (by simp)
      · rw [if_neg c5] at H
        have c5b0 : decide (x12_1 < (l1.length : Int)) = false := decide_eq_false c5
        clear c5
        obtain rfl := Option.some.inj H
        go_wp2
        go_ret
        exact ⟨_, by first | rfl | (simp [errW_none, errW_some] <;> rfl) | (simp [*, errW_none, errW_some] <;> rfl), zR HO_5.out, zB⟩

/-! ### bits_Of_nil: function 11 -/
def bits_Of_nil.f (a0 : Int) (l1 : List Int) : Option Unit := if a0 < 0 ∨ a0 > 65536 then (if l1.length ≤ 9223372036854775807 ∧ l1.all (fun i => decide (i ≤ 9223372036854775807)) = true then some () else none) else none
set_option maxHeartbeats 1000000 in
theorem bits_Put_nil (a1 : Int) (w : World) (hm : a1 ≤ 9223372036854775807) :
    Calls Tryd.prog 31 #[.slice none 0 0, .int .i64 a1] w fun e w' => e = .returned (.bool false) ∧ w = w' := by
  have h1 : ¬ (0 ≤ a1 ∧ a1 / 64 < ((0 : Nat) : Int)) := by omega
  have H1 := Lib.hid h1
  clear h1
  go_enter Tryd.func31, Tryd.ntmps31
  go_wp2_with (go_at_call 35; refine (bits_at_out none 0 0 a1 _ hm H1.out).mono ?_; rintro e w' ⟨rfl, rfl⟩)
  go_ret
  exact ⟨rfl, rfl⟩
set_option maxHeartbeats 1000000 in
theorem bits_Of_nil.calls (a0 : Int) (A1 : Option Addr) (c1 : Nat) (l1 : List Int) (w : World) (hr1 : Kd.C (Kd.int .i64) w A1 l1.length l1) (hc1 : l1.length ≤ c1) (h : bits_Of_nil.f a0 l1 = some ()) :
    Calls Tryd.prog 11 #[.int .i64 a0, .slice A1 l1.length c1] w fun e w' => e = .returned (.slice none 0 0) ∧ Drawn0 w w' := by
  unfold bits_Of_nil.f at h
  have h1 : a0 < 0 ∨ a0 > 65536 := by
    by_cases h1 : a0 < 0 ∨ a0 > 65536
    · exact h1
    · rw [if_neg h1] at h; cases h
  rw [if_pos h1] at h
  have h2 : l1.length ≤ 9223372036854775807 ∧ l1.all (fun i => decide (i ≤ 9223372036854775807)) = true := by
    by_cases h2 : l1.length ≤ 9223372036854775807 ∧ l1.all (fun i => decide (i ≤ 9223372036854775807)) = true
    · exact h2
    · rw [if_neg h2] at h; cases h
  obtain ⟨hll, h2⟩ := h2
  have HN := Aside0.mk (show bits_New_nil.f a0 = some () by unfold bits_New_nil.f; rw [if_pos h1])
  have HL := Aside0.mk (fun (j : Nat) (hj : j < l1.length) => show rd l1 (j : Int) ≤ 9223372036854775807 by
    rw [List.all_eq_true] at h2
    have := h2 (l1[j]) (List.getElem_mem hj)
    simpa [rd, List.getD_eq_getElem?_getD, List.getElem?_eq_getElem hj] using this)
  have HR := Aside0.mk hr1
  have HM := Aside0.mk hc1
  clear h h1 h2 hr1 hc1
  go_enter Tryd.func11, Tryd.ntmps11
  go_wp2_with (go_at_call 9; refine (bits_New_nil.calls a0 _ HN.out).mono ?_; rintro e w' ⟨rfl, ⟨nd, rfl⟩⟩)
  go_loopg [12] l1.length (fun kq v12 w' => ∃ j : Nat, v12 = .int .i64 (j : Int) ∧ Aside0 (j + kq = l1.length) ∧ Drawn0 w w')
  case atStart => exact ⟨0, rfl, ⟨by omega⟩, ⟨nd, rfl⟩⟩
  case round =>
    obtain ⟨j, rfl, HJ, ⟨n2, rfl⟩⟩ := hrel
    have hj := HJ.out
    by_cases hlt : j < l1.length
    · have p1 : 0 ≤ (j : Int) := by omega
      have p2 : (j : Int) < l1.length := by omega
      obtain ⟨ad, e, hx⟩ := Kd.at_int HR.out (j : Int) p1 p2
      cases e
      replace hx : w.cell? (ad.add j) = some (.int .i64 (rd l1 (j : Int))) := by simpa using hx
      have hb := HL.out j hlt
      go_wp2_with (go_at_call 31; refine (bits_Put_nil _ _ hb).mono ?_; rintro e w' ⟨rfl, rfl⟩)
      all_goals
        go_roundg (gk - 1)
        case measure => omega
        case rel => exact ⟨j + 1, by go_num, ⟨by omega⟩, ⟨_, rfl⟩⟩
    · go_wp2
      go_ret
      exact ⟨rfl, ⟨_, rfl⟩⟩


/-! ### bits_Full: function 10 -/
def bits_Full.l0 : Nat → Int → List Int → Int → Int → Option (List Int)
  | 0, _, _, _, _ => none
  | k + 1, x0, x3, x9, x10 => if x10 < x9 then (if 0 ≤ x10 then (if x10 < (x3.length : Int) then (bits_Full.l0 k x0 (x3.set (x10 : Int).toNat 18446744073709551615) x9 (wrap64 (x10 + 1))) else (none)) else (none)) else (if (Int.tmod x0 64) > 0 then (if (x3.length : Int) > 0 then (if 0 ≤ (wrap64 ((x3.length : Int) - 1)) then (if (wrap64 ((x3.length : Int) - 1)) < (x3.length : Int) then (if 0 ≤ (wrap64 (64 - (Int.tmod x0 64))) then (some (x3.set ((wrap64 ((x3.length : Int) - 1)) : Int).toNat (shr .u64 (rd x3 (wrap64 ((x3.length : Int) - 1))) (wrap64 (64 - (Int.tmod x0 64)))))) else (none)) else (none)) else (none)) else (some x3)) else (some x3))
def bits_Full.f (k : Nat) (a0 : Int) : Option (List Int) := (bits_New.f a0).bind fun t110 => (bits_Full.l0 k a0 t110 (t110.length : Int) 0)
theorem bits_Full.mono_l : ∀ k, (∀ y0 y1 y2 y3, LeO (bits_Full.l0 k y0 y1 y2 y3) (bits_Full.l0 (k + 1) y0 y1 y2 y3))
  | 0 => fun _ _ _ _ r h => by simp [bits_Full.l0] at h
  | k + 1 => by
    have ih0 := bits_Full.mono_l k
    · intro y0 y1 y2 y3
      unfold bits_Full.l0
      repeat' first
      | (with_reducible exact ih0 _ _ _ _)
      | (with_reducible exact LeO.refl _)
      | (with_reducible exact LeO.none _)
      | (with_reducible refine LeO.ite ?_ ?_)
      | (with_reducible refine LeO.bind ?_ (fun _ => ?_))
      | exact ih0 _ _ _ _
      | exact LeO.none _
      | refine LeO.ite ?_ ?_
      | refine LeO.bind ?_ (fun _ => ?_)
theorem bits_Full.mono : ∀ a0 k, LeO (bits_Full.f k a0) (bits_Full.f (k + 1) a0) := by
  intro a0 k
  have ih0 := bits_Full.mono_l k
  unfold bits_Full.f
  repeat' first
      | (with_reducible exact ih0 _ _ _ _)
      | (with_reducible exact LeO.refl _)
      | (with_reducible exact LeO.none _)
      | (with_reducible refine LeO.ite ?_ ?_)
      | (with_reducible refine LeO.bind ?_ (fun _ => ?_))
      | exact ih0 _ _ _ _
      | exact LeO.none _
      | refine LeO.ite ?_ ?_
      | refine LeO.bind ?_ (fun _ => ?_)
set_option maxHeartbeats 8000000 in
set_option maxRecDepth 100000 in
theorem bits_Full.calls (k : Nat) (a0 : Int) (r : List Int) (w : World) (h : bits_Full.f k a0 = some r) :
    Calls Tryd.prog 10 #[.int .i64 a0] w fun e w' => ∃ v0_ : Value, e = .returned (v0_) ∧ Kd.R (Kd.int .u64) 48 w' w.heap.size (fun _ => True) v0_ r ∧ Below w.heap.size w w' := by
  have HB := Aside0.mk (Below.refl w.heap.size w)
  have H : ((bits_New.f a0).bind fun t110 => (bits_Full.l0 k a0 t110 (t110.length : Int) 0)) = some r := h
  clear h
  replace H := Option.bind_eq_some_iff.mp H
  obtain ⟨t110, A20, H⟩ := H
  replace H : (bits_Full.l0 k a0 t110 (t110.length : Int) 0) = some r := H
  have A2 := Aside0.mk A20
  clear A20
  have H' := Aside0.mk H
  clear H
  go_enter Tryd.func10, Tryd.ntmps10
  go_wp2_with (first | ((with_reducible refine gate_callee (f := 9) rfl ?_); refine goesL_ (some 7) rfl rfl Tryd.func9 (by kernel_rfl) rfl #[.int .i64 a0] rfl zE ?_; (with_reducible refine (bits_New.calls a0 t110 _ A2.out).mono ?_); rintro e w3 ⟨v111, rfl, ho0, hb⟩; refine ⟨_, rfl, ?_⟩; have n0_ := Aside0.mk (Kd.R_lower ho0 (below_size (zB))); have n1_ := Aside0.mk (below_step (zB) hb); clear HB; have HO112 := n0_; have HB := n1_; clear n0_ n1_; (try clear hb); (try clear hb2); (try clear hk); (try clear hi); (try clear ho0); obtain ⟨Ao4, co4, eo4⟩ := Kd.R_slice HO112.out; subst eo4))
  go_loopg [10] k (fun kq v10 w' => ∃ (x3_1 : List Int) (x10_1 : Int), v10 = .int .i64 x10_1 ∧ Aside0 (bits_Full.l0 kq a0 x3_1 (t110.length : Int) x10_1 = some r) ∧ Aside0 (kq ≤ k) ∧ Aside0 (Kd.R (Kd.int .u64) 48 w' w.heap.size (fun _ => True) (.slice Ao4 t110.length co4) x3_1) ∧ Aside0 (Below w.heap.size w w'))
  case atStart => exact ⟨(t110), (0), (by first | rfl | (simp; done) | (simp [*]; done)), H', ⟨Nat.le_refl _⟩, ⟨zR HO112.out⟩, ⟨zB⟩⟩
  case round =>
    clear H'
    try clear c1
    try clear p2
    obtain ⟨x3_1, x10_1, rfl, HA, HK1, HO_3, HB⟩ := hrel
    have hl3_1 := (Kd.R_reads' HO_3.out).1
    rw [hl3_1] at HO_3
    (try simp only [hl3_1])
    cases gk with
    | zero => exact absurd HA.out (by simp [bits_Full.l0])
    | succ k1 =>
      have H := HA.out
      clear HA
      simp only [bits_Full.l0] at H
      by_cases c5 : x10_1 < (t110.length : Int)
      · rw [if_pos c5] at H
        have c5b0 : decide (x10_1 < (t110.length : Int)) = true := decide_eq_true c5
        (try (have c5b0h := c5b0; simp only [hl3_1] at c5b0h))
        clear c5
        by_cases c6 : 0 ≤ x10_1
        · rw [if_pos c6] at H
          have c6b0 : decide (0 ≤ x10_1) = true := decide_eq_true c6
          (try (have c6b0h := c6b0; simp only [hl3_1] at c6b0h))
          clear c6
          by_cases c7 : x10_1 < (x3_1.length : Int)
          · rw [if_pos c7] at H
            have c7b0 : decide (x10_1 < (x3_1.length : Int)) = true := decide_eq_true c7
            (try (have c7b0h := c7b0; simp only [hl3_1] at c7b0h))
            clear c7
            obtain ⟨y113, hy113⟩ : ∃ y_ : List Int, y_ = (x3_1.set (x10_1 : Int).toNat 18446744073709551615) := ⟨_, rfl⟩
            replace H : (bits_Full.l0 k1 a0 y113 (t110.length : Int) (wrap64 (x10_1 + 1))) = some r := by first | (rw [hy113]; with_reducible exact H) | (have H2_ := (Option.bind_some _ _).symm.trans H; rw [hy113]; with_reducible exact H2_) | (have H2_ := (Option.bind_some _ _).symm.trans H; with_reducible exact H2_) | with_reducible exact H | (rw [hy113]; exact H) | exact H
            have Ny113 := Aside0.mk hy113
            clear hy113
            have H' := Aside0.mk H
            clear H
            have p8 : 0 ≤ (x10_1 : Int) := of_decide_eq_true (by first | (with_reducible assumption) | assumption)
            have q8 : (x10_1 : Int) < ((x3_1.length : Int) : Int) := of_decide_eq_true (by first | (with_reducible assumption) | assumption)
            obtain ⟨go8, co8, eo8, gb8, gl8, cl8, HG8⟩ := Kd.R_form HO_3.out (by omega)
            (first | cases eo8 | (injection eo8 with ea_ en_ ec_; (first | subst ea_ | (injection ea_ with ea_; subst ea_)); subst ec_; clear en_))
            have GB8 := Aside0.mk gb8
            have GG8 := Aside0.mk HG8
            clear gb8 gl8 HG8
            obtain ⟨hx8_0, hf8_0⟩ := Kd.R_celln 0 HO_3.out (x10_1 : Int) p8 q8
            replace p8 := eq_true p8
            replace q8 := eq_true q8
            have HP9 := Kd.R_putg HO_3.out (x10_1 : Int) 18446744073709551615
            go_wp2_with (first | ((with_reducible refine gate_store (t := 48) (p := 15) rfl ?_); refine store_event (t := 48) (p := 15) (v := ?vo_w10) (w1 := (wr.setCell ⟨go8, (x10_1 : Int).toNat, none⟩ (.int .u64 18446744073709551615))) ?hg ?ho ?hn ?hr ?_; (case ho => rfl); (case hg => rfl); (case hn => rfl); (case hr => first | (go_simp; done) | (go_simp; rfl)); intro w10 hw; have hg : wr.grownBy w10 (some go8) := (by rw [hw]; exact HP9.2); have hp_ : Kd.R (Kd.int .u64) 48 w10 w.heap.size (fun _ => True) (.slice (some ⟨go8, 0, none⟩) x3_1.length co4) y113 := (by rw [hw, Ny113.out]; exact HP9.1); clear HP9; have n0_ := Aside0.mk (hp_); have n1_ := Aside0.mk ((by rw [hw]; exact below_set (HB.out) GB8.out : Below w.heap.size w w10)); clear HO_3; clear HB; have HO_3 := n0_; have HB := n1_; clear n0_ n1_; clear hg hw hp_))
            (try simp only [← hl3_1])
            go_roundg k1
            case measure => have := HK1.out; omega
            case rel => exact ⟨(y113), (wrap64 (x10_1 + 1)), (by first | rfl | (simp; done) | (simp [*]; done)), H', ⟨by have := HK1.out; omega⟩, ⟨by (try simp only [hl3_1]); (with_reducible repeat (first | apply Kd.R_alloc | apply Kd.R_drewN | apply Kd.R_drew)); exact HO_3.out⟩, ⟨zB⟩⟩
          · rw [if_neg c7] at H
            exact absurd H (by simp)
        · rw [if_neg c6] at H
          exact absurd H (by simp)
      · rw [if_neg c5] at H
        have c5b0 : decide (x10_1 < (t110.length : Int)) = false := decide_eq_false c5
        (try (have c5b0h := c5b0; simp only [hl3_1] at c5b0h))
        clear c5
        by_cases c11 : (Int.tmod a0 64) > 0
        · rw [if_pos c11] at H
          have c11b0 : decide (0 < (Int.tmod a0 64)) = true := decide_eq_true c11
          (try (have c11b0h := c11b0; simp only [hl3_1] at c11b0h))
          clear c11
          by_cases c12 : (x3_1.length : Int) > 0
          · rw [if_pos c12] at H
            have c12b0 : decide (0 < (x3_1.length : Int)) = true := decide_eq_true c12
            (try (have c12b0h := c12b0; simp only [hl3_1] at c12b0h))
            have c12b1 : decide (0 < x3_1.length) = true := decide_eq_true (by omega)
            (try (have c12b1h := c12b1; simp only [hl3_1] at c12b1h))
            clear c12
            obtain ⟨ji13, hji13⟩ : ∃ j_ : Int, (wrap64 ((x3_1.length : Int) - 1)) = j_ := ⟨_, rfl⟩
            replace H : (if 0 ≤ (ji13) then (if (ji13) < (x3_1.length : Int) then (if 0 ≤ (wrap64 (64 - (Int.tmod a0 64))) then (some (x3_1.set ((ji13) : Int).toNat (shr .u64 (rd x3_1 (ji13)) (wrap64 (64 - (Int.tmod a0 64)))))) else (none)) else (none)) else (none)) = some r := by first | (rw [hji13] at H; exact H) | (simp only [hji13] at H ⊢; exact H)
            have hji13w : (IntKind.i64.wrap ((x3_1.length : Int) - 1)) = ji13 := (i64_w _).trans hji13
            by_cases c14 : 0 ≤ (ji13)
            · rw [if_pos c14] at H
              have c14b0 : decide (0 ≤ (ji13)) = true := decide_eq_true c14
              (try (have c14b0h := c14b0; simp only [hl3_1] at c14b0h))
              clear c14
              by_cases c15 : (ji13) < (x3_1.length : Int)
              · rw [if_pos c15] at H
                have c15b0 : decide ((ji13) < (x3_1.length : Int)) = true := decide_eq_true c15
                (try (have c15b0h := c15b0; simp only [hl3_1] at c15b0h))
                clear c15
                obtain ⟨ji16, hji16⟩ : ∃ j_ : Int, (wrap64 (64 - (Int.tmod a0 64))) = j_ := ⟨_, rfl⟩
                replace H : (if 0 ≤ (ji16) then (some (x3_1.set ((ji13) : Int).toNat (shr .u64 (rd x3_1 (ji13)) (ji16)))) else (none)) = some r := by first | (rw [hji16] at H; exact H) | (simp only [hji16] at H ⊢; exact H)
                have hji16w : (IntKind.i64.wrap (64 - (Int.tmod a0 64))) = ji16 := (i64_w _).trans hji16
                by_cases c17 : 0 ≤ (ji16)
                · rw [if_pos c17] at H
                  have c17b0 := eq_true c17
                  have c17b1 : decide (0 ≤ (ji16)) = true := decide_eq_true c17
                  clear c17
                  obtain ⟨ji18, hji18⟩ : ∃ j_ : Int, (shr .u64 (rd x3_1 (ji13)) (ji16)) = j_ := ⟨_, rfl⟩
                  replace H : (some (x3_1.set ((ji13) : Int).toNat (ji18))) = some r := by first | (rw [hji18] at H; exact H) | (simp only [hji18] at H ⊢; exact H)
                  have hji18_ : ((rd x3_1 (ji13)) / 2 ^ min (ji16).toNat 64) = ji18 := hji18
                  have hji18z : (ji16) ≤ 64 → ((rd x3_1 (ji13)) / 2 ^ (ji16).toNat) = ji18 := shr_small hji18
                  obtain ⟨y115, hy115⟩ : ∃ y_ : List Int, y_ = (x3_1.set ((ji13) : Int).toNat (ji18)) := ⟨_, rfl⟩
                  replace H : (some y115) = some r := by first | (rw [hy115]; with_reducible exact H) | (have H2_ := (Option.bind_some _ _).symm.trans H; rw [hy115]; with_reducible exact H2_) | (have H2_ := (Option.bind_some _ _).symm.trans H; with_reducible exact H2_) | with_reducible exact H | (rw [hy115]; exact H) | exact H
                  have Ny115 := Aside0.mk hy115
                  clear hy115
                  obtain rfl := Option.some.inj H
                  have p114 : 0 ≤ ((ji13) : Int) := of_decide_eq_true (by first | (with_reducible assumption) | assumption)
                  have q114 : (ji13) < (x3_1.length : Int) := of_decide_eq_true (by first | (with_reducible assumption) | assumption)
                  obtain ⟨ad114, e114, hx114_0⟩ := Kd.at_int (Kd.R_reads' HO_3.out).2.2 (ji13) p114 q114
                  cases e114
                  replace p114 := eq_true p114
                  replace q114 := eq_true q114
                  have p19 : 0 ≤ ((ji13) : Int) := of_decide_eq_true (by first | (with_reducible assumption) | assumption)
                  have q19 : ((ji13) : Int) < ((x3_1.length : Int) : Int) := of_decide_eq_true (by first | (with_reducible assumption) | assumption)
                  obtain ⟨go19, co19, eo19, gb19, gl19, cl19, HG19⟩ := Kd.R_form HO_3.out (by omega)
                  (first | cases eo19 | (injection eo19 with ea_ en_ ec_; (first | subst ea_ | (injection ea_ with ea_; subst ea_)); subst ec_; clear en_))
                  have GB19 := Aside0.mk gb19
                  have GG19 := Aside0.mk HG19
                  clear gb19 gl19 HG19
                  (first | simp only [add_plain] at hx114_0 | skip)
                  obtain ⟨hx19_0, hf19_0⟩ := Kd.R_celln 0 HO_3.out ((ji13) : Int) p19 q19
                  replace p19 := eq_true p19
                  replace q19 := eq_true q19
                  have HP20 := Kd.R_putg HO_3.out ((ji13) : Int) ji18
                  go_wp2_with (first | ((with_reducible refine gate_store (t := 48) (p := 35) rfl ?_); refine store_event (t := 48) (p := 35) (v := ?vo_w21) (w1 := (wr.setCell ⟨go19, ((ji13) : Int).toNat, none⟩ (.int .u64 ji18))) ?hg ?ho ?hn ?hr ?_; (case ho => rfl); (case hg => rfl); (case hn => rfl); (case hr => first | (go_simp; done) | (go_simp; rfl)); intro w21 hw; have hg : wr.grownBy w21 (some go19) := (by rw [hw]; exact HP20.2); have hp_ : Kd.R (Kd.int .u64) 48 w21 w.heap.size (fun _ => True) (.slice (some ⟨go19, 0, none⟩) x3_1.length co4) y115 := (by rw [hw, Ny115.out]; exact HP20.1); clear HP20; have n0_ := Aside0.mk (hp_); have n1_ := Aside0.mk ((by rw [hw]; exact below_set (HB.out) GB19.out : Below w.heap.size w w21)); clear HO_3; clear HB; have HO_3 := n0_; have HB := n1_; clear n0_ n1_; clear hg hw hp_))
                  go_ret
                  exact ⟨_, by first | rfl | (simp [errW_none, errW_some] <;> rfl) | (simp only [← hji13, ← hji16, ← hji18]; first | rfl | (simp [errW_none, errW_some] <;> rfl)) | (simp [*, errW_none, errW_some] <;> rfl), zR HO_3.out, zB⟩
                · rw [if_neg c17] at H
                  exact absurd H (by simp)
              · rw [if_neg c15] at H
                exact absurd H (by simp)
            · rw [if_neg c14] at H
              exact absurd H (by simp)
          · rw [if_neg c12] at H
            have c12b0 : decide (0 < (x3_1.length : Int)) = false := decide_eq_false c12
            (try (have c12b0h := c12b0; simp only [hl3_1] at c12b0h))
            have c12b1 : decide (0 < x3_1.length) = false := decide_eq_false (by omega)
            (try (have c12b1h := c12b1; simp only [hl3_1] at c12b1h))
            clear c12
            obtain rfl := Option.some.inj H
            go_wp2
            go_ret
            exact ⟨_, by first | rfl | (simp [errW_none, errW_some] <;> rfl) | (simp [*, errW_none, errW_some] <;> rfl), zR HO_3.out, zB⟩
        · rw [if_neg c11] at H
          have c11b0 : decide (0 < (Int.tmod a0 64)) = false := decide_eq_false c11
          (try (have c11b0h := c11b0; simp only [hl3_1] at c11b0h))
          clear c11
          obtain rfl := Option.some.inj H
          go_wp2
          go_ret
          exact ⟨_, by first | rfl | (simp [errW_none, errW_some] <;> rfl) | (simp [*, errW_none, errW_some] <;> rfl), zR HO_3.out, zB⟩

/-! ### bits_Full_nil: function 10 -/
def bits_Full_nil.f (a0 : Int) : Option Unit := if a0 < 0 ∨ a0 > 65536 then some () else none
set_option maxHeartbeats 1000000 in
theorem bits_Full_nil.calls (a0 : Int) (w : World) (h : bits_Full_nil.f a0 = some ()) :
    Calls Tryd.prog 10 #[.int .i64 a0] w fun e w' => e = .returned (.slice none 0 0) ∧ Drawn0 w w' := by
  have H : bits_New_nil.f a0 = some () := h
  have HN := Aside0.mk H
  clear h H
  go_enter Tryd.func10, Tryd.ntmps10
  go_wp2_with (go_at_call 9; refine (bits_New_nil.calls a0 _ HN.out).mono ?_; rintro e w' ⟨rfl, ⟨nd, rfl⟩⟩)
  go_loopg [10] 0 (fun kq v10 w' => v10 = .int .i64 0 ∧ Drawn0 w w')
  case atStart => exact ⟨rfl, ⟨nd, rfl⟩⟩
  case round =>
    obtain ⟨rfl, ⟨n2, rfl⟩⟩ := hrel
    go_wp2
    all_goals
      go_ret
      exact ⟨rfl, ⟨_, rfl⟩⟩


/-! ### bits_Set_word: function 34 -/
def bits_Set_word.f (l0 : List Int) (a1 : Int) : Option (Int) := if a1 < (l0.length : Int) then (if 0 ≤ a1 then (some (rd l0 a1)) else (none)) else (some 0)
set_option maxHeartbeats 8000000 in
set_option maxRecDepth 100000 in
theorem bits_Set_word.calls (A0 : Option Addr) (c0 : Nat) (l0 : List Int) (a1 : Int) (r : Int) (w : World) (hr0 : Kd.C (Kd.int .u64) w A0 l0.length l0) (hc0 : l0.length ≤ c0) (h : bits_Set_word.f l0 a1 = some r) :
    Calls Tryd.prog 34 #[.slice A0 l0.length c0, .int .i64 a1] w fun e w' => e = .returned (.int .u64 r) ∧ Drawn0 w w' := by
  have HR0 := Aside0.mk hr0
  have HC0 := Aside0.mk hc0
  clear hr0 hc0
  have H : (if a1 < (l0.length : Int) then (if 0 ≤ a1 then (some (rd l0 a1)) else (none)) else (some 0)) = some r := h
  clear h
  by_cases c3 : a1 < (l0.length : Int)
  · rw [if_pos c3] at H
    have c3b0 : decide (a1 < (l0.length : Int)) = true := decide_eq_true c3
    clear c3
    by_cases c4 : 0 ≤ a1
    · rw [if_pos c4] at H
      have c4b0 : decide (0 ≤ a1) = true := decide_eq_true c4
      clear c4
      obtain rfl := Option.some.inj H
      have p116 : 0 ≤ (a1 : Int) := of_decide_eq_true (by first | (with_reducible assumption) | assumption)
      have q116 : a1 < (l0.length : Int) := of_decide_eq_true (by first | (with_reducible assumption) | assumption)
      obtain ⟨ad116, e116, hx116_0⟩ := Kd.at_int HR0.out a1 p116 q116
      cases e116
      replace p116 := eq_true p116
      replace q116 := eq_true q116
      go_enter Tryd.func34, Tryd.ntmps34
      go_wp2
      go_ret
      exact ⟨by first | rfl | (simp; done) | (simp [*]; done), by repeat (first | exact Drawn0.refl _ | apply Drawn0.step)⟩
    · rw [if_neg c4] at H
      exact absurd H (by simp)
  · rw [if_neg c3] at H
    have c3b0 : decide (a1 < (l0.length : Int)) = false := decide_eq_false c3
    clear c3
    obtain rfl := Option.some.inj H
    go_enter Tryd.func34, Tryd.ntmps34
    go_wp2
    go_ret
    exact ⟨by first | rfl | (simp; done) | (simp [*]; done), by repeat (first | exact Drawn0.refl _ | apply Drawn0.step)⟩

end Go.Proofs.YtbkbgooncedleaaDoor.P

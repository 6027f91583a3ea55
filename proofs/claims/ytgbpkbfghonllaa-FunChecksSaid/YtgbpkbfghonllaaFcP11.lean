/- A part of it. -/
import Derived.Test.YtgbpkbfghonllaaFcZ
import Derived.Test.YtgbpkbfghonllaaFcP0
import Derived.Test.YtgbpkbfghonllaaFcM23
import Derived.Laws.CopyOwn
namespace Go.Proofs.Ytgbpkbfghonllaa.P
open Go.RowKit Go.Proofs.YtgbpkbfghonllaaW.PrintWords Go.Proofs.YtgbpkbfghonllaaW.PrintLast Go.Proofs.YtgbpkbfghonllaaW.PrintMore
attribute [local go_sem] max2_int min2_int max_two min_two max_three min_three max_four min_four   
set_option linter.unusedVariables false
set_option linter.unusedSimpArgs false
def instr_Check.f (a0 : Int) : Option (Bool) := if a0 ≥ 31 then (some (decide (a0 ≤ 38))) else (some false)
set_option maxHeartbeats 8000000 in
set_option maxRecDepth 100000 in
theorem instr_Check.calls (a0 : Int) (r : Bool) (w : World) (h : instr_Check.f a0 = some r) :
  Calls Try.prog 77 #[.int .i64 a0] w fun e w' => e = .returned (.bool r) ∧ Drawn0 w w' := by
 have H : (if a0 ≥ 31 then (some (decide (a0 ≤ 38))) else (some false)) = some r := h
 clear h
 by_cases c2 : a0 ≥ 31
 ·rw [if_pos c2] at H
  have c2b0 : decide (31 ≤ a0) = true := decide_eq_true c2
  clear c2
  obtain rfl := Option.some.inj H
  go_enter Try.func77, Try.ntmps77
  go_wp2
  go_ret
  exact ⟨zQ, zD⟩
 ·rw [if_neg c2] at H
  have c2b0 : decide (31 ≤ a0) = false := decide_eq_false c2
  clear c2
  obtain rfl := Option.some.inj H
  go_enter Try.func77, Try.ntmps77
  go_wp2
  go_ret
  exact ⟨zQ, zD⟩
def instr_Trap.f (a0 : Int) : Option (Int) := (instr_Check.f a0).bind fun t190 => (if t190 = true then (if a0 = 31 then (some 1) else (if a0 = 32 then (some 2) else (if a0 = 37 then (some 4) else (if a0 = 38 then (some 5) else (some 3))))) else (some 0))
set_option maxHeartbeats 8000000 in
set_option maxRecDepth 100000 in
theorem instr_Trap.calls (a0 : Int) (r : Int) (w : World) (h : instr_Trap.f a0 = some r) :
  Calls Try.prog 78 #[.int .i64 a0] w fun e w' => e = .returned (.int .i64 r) ∧ Drawn0 w w' := by
 have H : ((instr_Check.f a0).bind fun t190 => (if t190 = true then (if a0 = 31 then (some 1) else (if a0 = 32 then (some 2) else (if a0 = 37 then (some 4) else (if a0 = 38 then (some 5) else (some 3))))) else (some 0))) = some r := h
 clear h
 replace H := Option.bind_eq_some_iff.mp H
 obtain ⟨t190, A20, H⟩ := H
 replace H : (if t190 = true then (if a0 = 31 then (some 1) else (if a0 = 32 then (some 2) else (if a0 = 37 then (some 4) else (if a0 = 38 then (some 5) else (some 3))))) else (some 0)) = some r := H
 have A2 := Aside0.mk A20
 clear A20
 by_cases c3 : t190 = true
 ·subst c3
  have H1 : (if a0 = 31 then (some 1) else (if a0 = 32 then (some 2) else (if a0 = 37 then (some 4) else (if a0 = 38 then (some 5) else (some 3))))) = some r := by rw [if_pos rfl] at H; exact H
  clear H
  have H := H1
  clear H1
  by_cases c4 : a0 = 31
  ·rw [if_pos c4] at H
   have c4b0 : (a0 == 31) = true := beq_iff_eq.mpr c4
   have c4b1 : (a0 != 31) = false := bne_eq_false_iff_eq.mpr c4
   clear c4
   obtain rfl := Option.some.inj H
   go_enter Try.func78, Try.ntmps78
   go_wp2_with (first | ((with_reducible refine gate_callee (f := 77) rfl ?_); refine goesL_ (some 5) rfl rfl Try.func77 (by kernel_rfl) rfl #[.int .i64 a0] rfl zE ?_; (with_reducible refine (instr_Check.calls a0 true _ A2.out).mono ?_); rintro e w' ⟨rfl, ⟨nd, rfl⟩⟩; refine ⟨_, rfl, ?_⟩))
   go_ret
   exact ⟨zQ, zD⟩
  ·rw [if_neg c4] at H
   have c4b0 : (a0 == 31) = false := beq_eq_false_iff_ne.mpr c4
   have c4b1 : (a0 != 31) = true := bne_iff_ne.mpr c4
   by_cases c5 : a0 = 32
   ·rw [if_pos c5] at H
    have c5b0 : (a0 == 32) = true := beq_iff_eq.mpr c5
    have c5b1 : (a0 != 32) = false := bne_eq_false_iff_eq.mpr c5
    clear c5
    obtain rfl := Option.some.inj H
    go_enter Try.func78, Try.ntmps78
    go_wp2_with (first | ((with_reducible refine gate_callee (f := 77) rfl ?_); refine goesL_ (some 5) rfl rfl Try.func77 (by kernel_rfl) rfl #[.int .i64 a0] rfl zE ?_; (with_reducible refine (instr_Check.calls a0 true _ A2.out).mono ?_); rintro e w' ⟨rfl, ⟨nd, rfl⟩⟩; refine ⟨_, rfl, ?_⟩))
    go_ret
    exact ⟨zQ, zD⟩
   ·rw [if_neg c5] at H
    have c5b0 : (a0 == 32) = false := beq_eq_false_iff_ne.mpr c5
    have c5b1 : (a0 != 32) = true := bne_iff_ne.mpr c5
    by_cases c6 : a0 = 37
    ·rw [if_pos c6] at H
     have c6b0 : (a0 == 37) = true := beq_iff_eq.mpr c6
     have c6b1 : (a0 != 37) = false := bne_eq_false_iff_eq.mpr c6
     clear c6
     obtain rfl := Option.some.inj H
     go_enter Try.func78, Try.ntmps78
     go_wp2_with (first | ((with_reducible refine gate_callee (f := 77) rfl ?_); refine goesL_ (some 5) rfl rfl Try.func77 (by kernel_rfl) rfl #[.int .i64 a0] rfl zE ?_; (with_reducible refine (instr_Check.calls a0 true _ A2.out).mono ?_); rintro e w' ⟨rfl, ⟨nd, rfl⟩⟩; refine ⟨_, rfl, ?_⟩))
     go_ret
     exact ⟨zQ, zD⟩
    ·rw [if_neg c6] at H
     have c6b0 : (a0 == 37) = false := beq_eq_false_iff_ne.mpr c6
     have c6b1 : (a0 != 37) = true := bne_iff_ne.mpr c6
     by_cases c7 : a0 = 38
     ·rw [if_pos c7] at H
      have c7b0 : (a0 == 38) = true := beq_iff_eq.mpr c7
      have c7b1 : (a0 != 38) = false := bne_eq_false_iff_eq.mpr c7
      clear c7
      obtain rfl := Option.some.inj H
      go_enter Try.func78, Try.ntmps78
      go_wp2_with (first | ((with_reducible refine gate_callee (f := 77) rfl ?_); refine goesL_ (some 5) rfl rfl Try.func77 (by kernel_rfl) rfl #[.int .i64 a0] rfl zE ?_; (with_reducible refine (instr_Check.calls a0 true _ A2.out).mono ?_); rintro e w' ⟨rfl, ⟨nd, rfl⟩⟩; refine ⟨_, rfl, ?_⟩))
      go_ret
      exact ⟨zQ, zD⟩
     ·rw [if_neg c7] at H
      have c7b0 : (a0 == 38) = false := beq_eq_false_iff_ne.mpr c7
      have c7b1 : (a0 != 38) = true := bne_iff_ne.mpr c7
      obtain rfl := Option.some.inj H
      go_enter Try.func78, Try.ntmps78
      go_wp2_with (first | ((with_reducible refine gate_callee (f := 77) rfl ?_); refine goesL_ (some 5) rfl rfl Try.func77 (by kernel_rfl) rfl #[.int .i64 a0] rfl zE ?_; (with_reducible refine (instr_Check.calls a0 true _ A2.out).mono ?_); rintro e w' ⟨rfl, ⟨nd, rfl⟩⟩; refine ⟨_, rfl, ?_⟩))
      go_ret
      exact ⟨zQ, zD⟩
 ·replace c3 := Bool.eq_false_iff.mpr c3
  subst c3
  have H1 : (some 0) = some r := by rw [if_neg (show ¬ (false = true) by decide)] at H; exact H
  clear H
  have H := H1
  clear H1
  obtain rfl := Option.some.inj H
  go_enter Try.func78, Try.ntmps78
  go_wp2_with (first | ((with_reducible refine gate_callee (f := 77) rfl ?_); refine goesL_ (some 5) rfl rfl Try.func77 (by kernel_rfl) rfl #[.int .i64 a0] rfl zE ?_; (with_reducible refine (instr_Check.calls a0 false _ A2.out).mono ?_); rintro e w' ⟨rfl, ⟨nd, rfl⟩⟩; refine ⟨_, rfl, ?_⟩))
  go_ret
  exact ⟨zQ, zD⟩
def balustraderef15_Ends.f (a0 : Int) : Option (Bool) := if a0 ≥ 41 then (some (decide (a0 ≤ 43))) else (some false)
set_option maxHeartbeats 8000000 in
set_option maxRecDepth 100000 in
theorem balustraderef15_Ends.calls (a0 : Int) (r : Bool) (w : World) (h : balustraderef15_Ends.f a0 = some r) :
  Calls Try.prog 80 #[.int .i64 a0] w fun e w' => e = .returned (.bool r) ∧ Drawn0 w w' := by
 have H : (if a0 ≥ 41 then (some (decide (a0 ≤ 43))) else (some false)) = some r := h
 clear h
 by_cases c2 : a0 ≥ 41
 ·rw [if_pos c2] at H
  have c2b0 : decide (41 ≤ a0) = true := decide_eq_true c2
  clear c2
  obtain rfl := Option.some.inj H
  go_enter Try.func80, Try.ntmps80
  go_wp2
  go_ret
  exact ⟨zQ, zD⟩
 ·rw [if_neg c2] at H
  have c2b0 : decide (41 ≤ a0) = false := decide_eq_false c2
  clear c2
  obtain rfl := Option.some.inj H
  go_enter Try.func80, Try.ntmps80
  go_wp2
  go_ret
  exact ⟨zQ, zD⟩
def balustraderef15_Trap.f (a0 : Int) : Option (Int) := (some (([1, 2, 3, 3, 3, 3, 4, 5] : List Int) : List Int)).bind fun y191 => ((balustraderef15_Check.f a0).bind fun t194 => (if t194 = true then (if 0 ≤ (wrap64 (a0 - 31)) then (if (wrap64 (a0 - 31)) < (y191.length : Int) then (some (rd y191 (wrap64 (a0 - 31)))) else (none)) else (none)) else (some 0)))
set_option maxHeartbeats 8000000 in
set_option maxRecDepth 100000 in
theorem balustraderef15_Trap.calls (a0 : Int) (r : Int) (w : World) (h : balustraderef15_Trap.f a0 = some r) :
  Calls Try.prog 81 #[.int .i64 a0] w fun e w' => e = .returned (.int .i64 r) ∧ Below w.heap.size w w' := by
 have HB := Aside0.mk (Below.refl w.heap.size w)
 have H : ((some (([1, 2, 3, 3, 3, 3, 4, 5] : List Int) : List Int)).bind fun y191 => ((balustraderef15_Check.f a0).bind fun t194 => (if t194 = true then (if 0 ≤ (wrap64 (a0 - 31)) then (if (wrap64 (a0 - 31)) < (y191.length : Int) then (some (rd y191 (wrap64 (a0 - 31)))) else (none)) else (none)) else (some 0)))) = some r := h
 clear h
 obtain ⟨y191, hy191⟩ : ∃ y_ : List Int, y_ = (([1, 2, 3, 3, 3, 3, 4, 5] : List Int)) := ⟨_, rfl⟩
 replace H : ((balustraderef15_Check.f a0).bind fun t194 => (if t194 = true then (if 0 ≤ (wrap64 (a0 - 31)) then (if (wrap64 (a0 - 31)) < (y191.length : Int) then (some (rd y191 (wrap64 (a0 - 31)))) else (none)) else (none)) else (some 0))) = some r := by first | (rw [hy191]; with_reducible exact H) | (have H2_ := (Option.bind_some _ _).symm.trans H; rw [hy191]; with_reducible exact H2_) | (have H2_ := (Option.bind_some _ _).symm.trans H; with_reducible exact H2_) | with_reducible exact H | (rw [hy191]; exact H) | exact H
 have Ny191 := Aside0.mk hy191
 clear hy191
 replace H := Option.bind_eq_some_iff.mp H
 obtain ⟨t194, A20, H⟩ := H
 replace H : (if t194 = true then (if 0 ≤ (wrap64 (a0 - 31)) then (if (wrap64 (a0 - 31)) < (y191.length : Int) then (some (rd y191 (wrap64 (a0 - 31)))) else (none)) else (none)) else (some 0)) = some r := H
 have A2 := Aside0.mk A20
 clear A20
 by_cases c3 : t194 = true
 ·subst c3
  have H1 : (if 0 ≤ (wrap64 (a0 - 31)) then (if (wrap64 (a0 - 31)) < (y191.length : Int) then (some (rd y191 (wrap64 (a0 - 31)))) else (none)) else (none)) = some r := by rw [if_pos rfl] at H; exact H
  clear H
  have H := H1
  clear H1
  obtain ⟨ji4, hji4⟩ : ∃ j_ : Int, (wrap64 (a0 - 31)) = j_ := ⟨_, rfl⟩
  replace H : (if 0 ≤ (ji4) then (if (ji4) < (y191.length : Int) then (some (rd y191 (ji4))) else (none)) else (none)) = some r := by first | (rw [hji4] at H; exact H) | (simp only [hji4] at H ⊢; exact H)
  (try rw [hji4] at A2)
  have hji4w : (IntKind.i64.wrap (a0 - 31)) = ji4 := (i64_w _).trans hji4
  by_cases c5 : 0 ≤ (ji4)
  ·rw [if_pos c5] at H
   have c5b0 : decide (0 ≤ (ji4)) = true := decide_eq_true c5
   clear c5
   by_cases c6 : (ji4) < (y191.length : Int)
   ·rw [if_pos c6] at H
    have c6b0 : decide ((ji4) < (y191.length : Int)) = true := decide_eq_true c6
    clear c6
    obtain rfl := Option.some.inj H
    go_enter Try.func81, Try.ntmps81
    go_wp2_with (first | ((with_reducible refine gate_dst (N := 4) rfl ?_); refine Kd.R_lit (Kd.int .i64) _ 3 ?hg (N := 4) ?hd (xs := ([1, 2, 3, 3, 3, 3, 4, 5] : List Int)) (inner := [.int .i64 1, .int .i64 2, .int .i64 3, .int .i64 3, .int .i64 3, .int .i64 3, .int .i64 4, .int .i64 5]) (ok := fun _ => True) (okp := fun _ => True) ?hr ?hp (fun _ hk => hk) trivial (Below.refl _ _) (Nat.le_refl _) (by simp) ?_; (case hd => rfl); (case hg => rfl); (case hr => first | (go_simp; done) | (go_simp; rfl)); (case hp => exact (Reps.one (show Kd.M (Kd.int .i64) _ _ _ 1 [.int .i64 1] from rfl) (Reps.one (show Kd.M (Kd.int .i64) _ _ _ 2 [.int .i64 2] from rfl) (Reps.one (show Kd.M (Kd.int .i64) _ _ _ 3 [.int .i64 3] from rfl) (Reps.one (show Kd.M (Kd.int .i64) _ _ _ 3 [.int .i64 3] from rfl) (Reps.one (show Kd.M (Kd.int .i64) _ _ _ 3 [.int .i64 3] from rfl) (Reps.one (show Kd.M (Kd.int .i64) _ _ _ 3 [.int .i64 3] from rfl) (Reps.one (show Kd.M (Kd.int .i64) _ _ _ 4 [.int .i64 4] from rfl) (Reps.one (show Kd.M (Kd.int .i64) _ _ _ 5 [.int .i64 5] from rfl) (Reps.none _ _)))))))))); intro v192 w7 ho8 hb hg_ hnew_; clear hg_ hnew_; (first | rw [← Ny191.out] at ho8 | (simp only [Int.reduceToNat] at ho8; rw [← Ny191.out] at ho8)); have n0_ := Aside0.mk (Kd.R_lower ho8 (below_size (zB))); have n1_ := Aside0.mk (below_step (zB) hb); clear HB; have HO193 := n0_; have HB := n1_; clear n0_ n1_; clear hb ho8) | ((with_reducible refine gate_callee (f := 19) rfl ?_); refine goesL_ (some 6) rfl rfl Try.func19 (by kernel_rfl) rfl #[.int .i64 a0] rfl zE ?_; (with_reducible refine (balustraderef15_Check.calls a0 true _ A2.out).mono ?_); rintro e w' ⟨rfl, ⟨nd, rfl⟩⟩; refine ⟨_, rfl, ?_⟩; obtain ⟨Ao9, co9, eo9⟩ := Kd.R_slice HO193.out; subst eo9; have p195 : 0 ≤ ((ji4) : Int) := zO; have q195 : (ji4) < (y191.length : Int) := zO; obtain ⟨ad195, e195, hx195_0⟩ := Kd.at_int (Kd.R_reads' HO193.out).2.2 (ji4) p195 q195; cases e195; replace p195 := eq_true p195; replace q195 := eq_true q195))
    go_ret
    exact ⟨by first | rfl | (simp [errW_none, errW_some] <;> rfl) | (simp only [← hji4]; first | rfl | (simp [errW_none, errW_some] <;> rfl)) | (simp [*, errW_none, errW_some] <;> rfl), zB⟩
   ·rw [if_neg c6] at H
    exact absurd H (by simp)
  ·rw [if_neg c5] at H
   exact absurd H (by simp)
 ·replace c3 := Bool.eq_false_iff.mpr c3
  subst c3
  have H1 : (some 0) = some r := by rw [if_neg (show ¬ (false = true) by decide)] at H; exact H
  clear H
  have H := H1
  clear H1
  obtain rfl := Option.some.inj H
  go_enter Try.func81, Try.ntmps81
  go_wp2_with (first | ((with_reducible refine gate_dst (N := 4) rfl ?_); refine Kd.R_lit (Kd.int .i64) _ 3 ?hg (N := 4) ?hd (xs := ([1, 2, 3, 3, 3, 3, 4, 5] : List Int)) (inner := [.int .i64 1, .int .i64 2, .int .i64 3, .int .i64 3, .int .i64 3, .int .i64 3, .int .i64 4, .int .i64 5]) (ok := fun _ => True) (okp := fun _ => True) ?hr ?hp (fun _ hk => hk) trivial (Below.refl _ _) (Nat.le_refl _) (by simp) ?_; (case hd => rfl); (case hg => rfl); (case hr => first | (go_simp; done) | (go_simp; rfl)); (case hp => exact (Reps.one (show Kd.M (Kd.int .i64) _ _ _ 1 [.int .i64 1] from rfl) (Reps.one (show Kd.M (Kd.int .i64) _ _ _ 2 [.int .i64 2] from rfl) (Reps.one (show Kd.M (Kd.int .i64) _ _ _ 3 [.int .i64 3] from rfl) (Reps.one (show Kd.M (Kd.int .i64) _ _ _ 3 [.int .i64 3] from rfl) (Reps.one (show Kd.M (Kd.int .i64) _ _ _ 3 [.int .i64 3] from rfl) (Reps.one (show Kd.M (Kd.int .i64) _ _ _ 3 [.int .i64 3] from rfl) (Reps.one (show Kd.M (Kd.int .i64) _ _ _ 4 [.int .i64 4] from rfl) (Reps.one (show Kd.M (Kd.int .i64) _ _ _ 5 [.int .i64 5] from rfl) (Reps.none _ _)))))))))); intro v192 w10 ho11 hb hg_ hnew_; clear hg_ hnew_; (first | rw [← Ny191.out] at ho11 | (simp only [Int.reduceToNat] at ho11; rw [← Ny191.out] at ho11)); have n0_ := Aside0.mk (Kd.R_lower ho11 (below_size (zB))); have n1_ := Aside0.mk (below_step (zB) hb); clear HB; have HO193 := n0_; have HB := n1_; clear n0_ n1_; clear hb ho11) | ((with_reducible refine gate_callee (f := 19) rfl ?_); refine goesL_ (some 6) rfl rfl Try.func19 (by kernel_rfl) rfl #[.int .i64 a0] rfl zE ?_; (with_reducible refine (balustraderef15_Check.calls a0 false _ A2.out).mono ?_); rintro e w' ⟨rfl, ⟨nd, rfl⟩⟩; refine ⟨_, rfl, ?_⟩))
  go_ret
  exact ⟨zV, zB⟩
def bits_Mul64.f (a0 : Int) (a1 : Int) : Option (Int × Int) := some (IntKind.u64.wrap ((IntKind.u64.wrap ((IntKind.u64.wrap ((a0 / 4294967296) * (a1 / 4294967296))) + ((IntKind.u64.wrap ((IntKind.u64.wrap ((a0 / 4294967296) * (Go.bits .and .u64 a1 4294967295))) + ((IntKind.u64.wrap ((Go.bits .and .u64 a0 4294967295) * (Go.bits .and .u64 a1 4294967295))) / 4294967296))) / 4294967296))) + ((IntKind.u64.wrap ((Go.bits .and .u64 (IntKind.u64.wrap ((IntKind.u64.wrap ((a0 / 4294967296) * (Go.bits .and .u64 a1 4294967295))) + ((IntKind.u64.wrap ((Go.bits .and .u64 a0 4294967295) * (Go.bits .and .u64 a1 4294967295))) / 4294967296))) 4294967295) + (IntKind.u64.wrap ((Go.bits .and .u64 a0 4294967295) * (a1 / 4294967296))))) / 4294967296)), IntKind.u64.wrap (a0 * a1))
set_option maxHeartbeats 8000000 in
set_option maxRecDepth 100000 in
theorem bits_Mul64.calls (a0 : Int) (a1 : Int) (r1 : Int) (r2 : Int) (w : World) (h : bits_Mul64.f a0 a1 = some (r1, r2)) :
  Calls Try.prog 95 #[.int .u64 a0, .int .u64 a1] w fun e w' => e = .returned (.tuple #[.int .u64 r1, .int .u64 r2]) ∧ Drawn0 w w' := by
 have H : (some (IntKind.u64.wrap ((IntKind.u64.wrap ((IntKind.u64.wrap ((a0 / 4294967296) * (a1 / 4294967296))) + ((IntKind.u64.wrap ((IntKind.u64.wrap ((a0 / 4294967296) * (Go.bits .and .u64 a1 4294967295))) + ((IntKind.u64.wrap ((Go.bits .and .u64 a0 4294967295) * (Go.bits .and .u64 a1 4294967295))) / 4294967296))) / 4294967296))) + ((IntKind.u64.wrap ((Go.bits .and .u64 (IntKind.u64.wrap ((IntKind.u64.wrap ((a0 / 4294967296) * (Go.bits .and .u64 a1 4294967295))) + ((IntKind.u64.wrap ((Go.bits .and .u64 a0 4294967295) * (Go.bits .and .u64 a1 4294967295))) / 4294967296))) 4294967295) + (IntKind.u64.wrap ((Go.bits .and .u64 a0 4294967295) * (a1 / 4294967296))))) / 4294967296)), IntKind.u64.wrap (a0 * a1))) = some (r1, r2) := h
 clear h
 simp only [Option.some.injEq, Prod.mk.injEq] at H
 obtain ⟨rfl, rfl⟩ := H
 go_enter Try.func95, Try.ntmps95
 go_wp2
 go_ret2
 exact ⟨zQ, zD⟩
def bits_Mul.f (a0 : Int) (a1 : Int) : Option (Int × Int) := (bits_Mul64.f a0 a1).bind fun bt198 => (some (bt198.1, bt198.2))
set_option maxHeartbeats 8000000 in
set_option maxRecDepth 100000 in
theorem bits_Mul.calls (a0 : Int) (a1 : Int) (r1 : Int) (r2 : Int) (w : World) (h : bits_Mul.f a0 a1 = some (r1, r2)) :
  Calls Try.prog 93 #[.int .u64 a0, .int .u64 a1] w fun e w' => e = .returned (.tuple #[.int .u64 r1, .int .u64 r2]) ∧ Drawn0 w w' := by
 have H : ((bits_Mul64.f a0 a1).bind fun bt198 => (some (bt198.1, bt198.2))) = some (r1, r2) := h
 clear h
 replace H := Option.bind_eq_some_iff.mp H
 obtain ⟨⟨t198, t199⟩, A30, H⟩ := H
 replace H : (some (t198, t199)) = some (r1, r2) := H
 have A3 := Aside0.mk A30
 clear A30
 simp only [Option.some.injEq, Prod.mk.injEq] at H
 obtain ⟨rfl, rfl⟩ := H
 go_enter Try.func93, Try.ntmps93
 go_wp2_with (first | ((with_reducible refine gate_callee (f := 95) rfl ?_); refine goesL_ (some 25) rfl rfl Try.func95 (by kernel_rfl) rfl #[.int .u64 a0, .int .u64 a1] rfl zE ?_; (with_reducible refine (bits_Mul64.calls a0 a1 t198 t199 _ A3.out).mono ?_); rintro e w' ⟨rfl, ⟨nd, rfl⟩⟩; refine ⟨_, rfl, ?_⟩))
 go_ret2
 exact ⟨zQ, zD⟩
def slices_Repeat_int_int.f (l0 : List Int) (a1 : Int) : Option (List Int) := if l0.length = 1 ∧ 0 ≤ a1 ∧ a1 < 1000000 then some (List.replicate a1.toNat (rd l0 0)) else none
theorem rp_mul (c : Nat) (hc : c < 1000000) : bits_Mul.f 1 (c : Int) = some (0, (c : Int)) := by
 have hw : ∀ n : Int, 0 ≤ n → n < 2 ^ 63 → IntKind.u64.wrap n = n := fun n h0 h1 => by rw [IntKind.wrap_u64]; omega
 have h := bits_mask .u64 63 (by decide) hw 32 (by decide) (c : Int) (by omega) (by omega)
 have e : ((2 : Int) ^ 32 - 1) = 4294967295 := by decide
 have e2 : ((2 : Int) ^ 32) = 4294967296 := by decide
 rw [e, e2] at h
 have h2 : Go.bits .and .u64 (c : Int) 4294967295 = (c : Int) := by rw [h]; omega
 have h1 : Go.bits .and .u64 1 4294967295 = 1 := by decide
 have h0 : Go.bits .and .u64 0 4294967295 = 0 := by decide
 have d1 : (1 : Int) / 4294967296 = 0 := by decide
 have d2 : (c : Int) / 4294967296 = 0 := by omega
 have w0 : IntKind.u64.wrap 0 = 0 := by decide
 have wc : IntKind.u64.wrap (c : Int) = (c : Int) := hw _ (by omega) (by omega)
 simp only [bits_Mul.f, bits_Mul64.f, h1, h2, d1, d2, Int.zero_mul, Int.mul_zero, Int.one_mul, w0, wc, Int.zero_add, Int.add_zero, Option.bind_some, h0]
 have d0 : (0 : Int) / 4294967296 = 0 := by decide
 simp only [d0, d2, w0, Int.zero_add, Int.add_zero, h0]
def rp_row (x : Int) (n m : Nat) : List Value := List.replicate n (.int .i64 x) ++ List.replicate (m - n) (.int .i64 0)
theorem rp_len (x : Int) (n m : Nat) (h : n ≤ m) : (rp_row x n m).length = m := by simp [rp_row]; omega
theorem rp_splice (x : Int) (n j m : Nat) (h : n + j ≤ m) : splice (rp_row x n m) n (List.replicate j (.int .i64 x)) = rp_row x (n + j) m := by
 unfold splice rp_row
 rw [List.take_append_of_le_length (by simp), List.take_of_length_le (by simp), List.length_replicate]
 have e : (List.replicate n (Value.int .i64 x) ++ List.replicate (m - n) (Value.int .i64 0)).drop (n + j) = List.replicate (m - (n + j)) (Value.int .i64 0) := by
  rw [List.drop_append]
  simp
  omega
 rw [e, ← List.append_assoc, List.replicate_append_replicate]
theorem rp_get (x : Int) (n m i : Nat) (h : i < n) : (rp_row x n m)[i]? = some (.int .i64 x) := by
 unfold rp_row
 rw [List.getElem?_append_left (by simpa using h)]
 simp [h]
theorem rp_own {w : World} {base g m : Nat} {x : Int} {n : Nat} (h : w.heap[g]? = some (.cells (rp_row x n m).toArray 3 (0, 0))) (hn : n = m) (hb : base ≤ g) (hm : m ≤ 1000000) :
  (Kd.int .i64).R 3 w base (fun _ => True) (.slice (some ⟨g, 0, none⟩) m m) (List.replicate m x) := by
 subst hn
 have he : rp_row x n n = encs (Value.int .i64) (List.replicate n x) := by simp [rp_row, encs]
 rw [he] at h
 have ho : w.ownsRow base 3 1 (.slice (some ⟨g, 0, none⟩) n n) n (encs (Value.int .i64) (List.replicate n x)) := ⟨by simp [encs], .inr ⟨g, n, _, rfl, hb, h, Nat.le_refl _, by simp only [maxLen]; omega, by simp [encs], by simp [encs]⟩⟩
 refine Kd.R_of_own ?_ (fun _ _ => trivial)
 simpa using ho
theorem rp_from {P : Program} (t : TypeId) {i : TypeInfo} (ht : P.underlying t = some (.slice 3)) (hi : P.info? 3 = some i) (hsz : i.size = 1) (g c n : Nat) (hn : n < c) :
  ∀ W : World, (Instr.slice t (.slice (some ⟨g, 0, none⟩) c c) (some (.int .i64 (n : Int))) none none).run P W = .ok (.slice (some ⟨g, n, none⟩) (c - n) (c - n)) W := by
 intro W
 rw [cut_from t 3 .i64 ht hi 1 hsz (some ⟨g, 0, none⟩) c c (n : Int) (by omega) (by omega) W]
 rw [if_neg (by omega)]
 simp [add_plain]
theorem rp_to {P : Program} (t : TypeId) {i : TypeInfo} (ht : P.underlying t = some (.slice 3)) (hi : P.info? 3 = some i) (g c n : Nat) (hn : n ≤ c) :
  ∀ W : World, (Instr.slice t (.slice (some ⟨g, 0, none⟩) c c) none (some (.int .i64 (n : Int))) none).run P W = .ok (.slice (some ⟨g, 0, none⟩) n c) W := by
 intro W
 rw [cut_to t 3 .i64 ht hi (some ⟨g, 0, none⟩) c c (n : Int) (by omega) (by omega) (Nat.le_refl _) W]
 simp
theorem rp_cells {w : World} {g n c : Nat} {x : Int} (h : w.heap[g]? = some (.cells (rp_row x n c).toArray 3 (0, 0))) (k : Nat) (hk : k ≤ n) : ∀ (j : Nat) (v : Value), (List.replicate k (Value.int .i64 x))[j]? = some v → w.cell? ((⟨g, 0, none⟩ : Addr).add j) = some v := by
 intro j v hj
 rw [List.getElem?_replicate] at hj
 split at hj
 ·cases hj
  rw [add_plain, blk_cell h j]
  rw [List.getElem?_toArray]
  exact rp_get x n c j (by omega)
 ·cases hj
theorem rp_src {w W : World} {ad : Addr} {x : Int} {c : Nat} (h : w.cell? (ad.add 0) = some (.int .i64 x)) (hb : Below w.heap.size w W) : ∀ (j : Nat) (v : Value), (List.replicate (min 1 c) (Value.int .i64 x))[j]? = some v → W.cell? (ad.add j) = some v := by
 intro j v hj
 rw [List.getElem?_replicate] at hj
 split at hj
 ·cases hj
  obtain rfl : j = 0 := by omega
  exact pw_cell_below hb h
 ·cases hj
theorem rp_meas (c n k : Nat) (hn : n < c) (hk : 0 < k) (v : Value) (hv : v = .int .i64 ((n + k : Nat) : Int)) : c - (intOf v).toNat < c - (intOf (.int .i64 (n : Int))).toNat := by
 subst hv
 show c - ((n + k : Nat) : Int).toNat < c - ((n : Nat) : Int).toNat
 omega
set_option maxHeartbeats 8000000 in
set_option maxRecDepth 100000 in
theorem slices_Repeat_int_int.calls (A0 : Option Addr) (c0 : Nat) (l0 : List Int) (a1 : Int) (r : List Int) (w : World) (hr0 : Kd.C (Kd.int .i64) w A0 l0.length l0) (hc0 : l0.length ≤ c0) (h : slices_Repeat_int_int.f l0 a1 = some r) :
  Calls Try.prog 89 #[.slice A0 l0.length c0, .int .i64 a1] w fun e w' => ∃ v0_ : Value, e = .returned (v0_) ∧ Kd.R (Kd.int .i64) 3 w' w.heap.size (fun _ => True) v0_ r ∧ Below w.heap.size w w' := by
 unfold slices_Repeat_int_int.f at h
 by_cases hq : l0.length = 1 ∧ 0 ≤ a1 ∧ a1 < 1000000
 rotate_left
 ·rw [if_neg hq] at h; cases h
 rw [if_pos hq] at h
 obtain rfl := Option.some.inj h
 clear h
 obtain ⟨hl, h0, h1⟩ := hq
 obtain ⟨c, rfl⟩ := Int.eq_ofNat_of_zero_le h0
 obtain ⟨x, rfl⟩ : ∃ x, l0 = [x] := by
  match l0, hl with
  | [x], _ => exact ⟨x, rfl⟩
 obtain ⟨ad, rfl, hx⟩ := Kd.at_int hr0 0 (by omega) (by simp)
 have hx1 : rd [x] 0 = x := rfl
 simp only [hx1, Int.toNat_natCast] at *
 have HX := Aside0.mk hx
 have HC := Aside0.mk (show c < 1000000 by omega)
 have HM := Aside0.mk (rp_mul c (by omega))
 have t1 : decide ((c : Int) < 0) = false := decide_eq_false (by omega)
 have t2 : decide ((0 : Int) < (0 : Int)) = false := rfl
 have t3 : decide ((9223372036854775807 : Int) < (c : Int)) = false := decide_eq_false (by omega)
 have k1 : IntKind.u64.wrap (c : Int) = (c : Int) := by rw [IntKind.wrap_u64]; omega
 have k4 : wrap64 (c : Int) = (c : Int) := by unfold wrap64; omega
 have k3 : IntKind.u64.wrap (1 : Int) = 1 := by decide
 have hmk := print_make (P := Try.prog) 36 3 .i64 8 Try.underlying36 (by kernel_rfl) (by decide) c (by omega)
 have hmc : (madeCells #[Value.int .i64 0] c) = (rp_row x 0 c).toArray := by
  apply Array.ext'
  apply List.ext_getElem
  ·simp [rp_row, madeCells]
  ·intro i h1 h2
   simp [rp_row, madeCells, Nat.mod_one]
 rw [hmc] at hmk
 obtain ⟨cs, hcs⟩ : ∃ cs, cs = List.replicate (min 1 c) (Value.int .i64 x) := ⟨_, rfl⟩
 have hcl : cs.length = min 1 c := by rw [hcs]; simp
 have HCS := Aside0.mk hcs
 have HCL := Aside0.mk hcl
 clear hcs hcl hmc hx hr0 h0 h1 hc0 hl
 have hsz : (Try.prog.info? 3).map (·.size) = some 1 := by kernel_rfl
 have HSZ := Aside0.mk hsz
 clear hsz
 go_enter Try.func89, Try.ntmps89
 go_wp2_with (first | (go_at_call 93; ((with_reducible refine (bits_Mul.calls 1 (c : Int) 0 (c : Int) _ HM.out).mono ?_); rintro e w' ⟨rfl, ⟨nd, rfl⟩⟩)) | ((with_reducible refine gate_builtin (b := .copy) (xs := #[.tmp 31, .tmp 32]) rfl ?_); refine wpList_copy_splice rfl (.tmp 31) (.tmp 32) 36 36 rfl 3 Try.underlying36 HSZ.out (some ⟨w.heap.size, 0, none⟩) (some ad) c c 1 c0 rfl rfl w.heap.size 0 (rp_row x 0 c) 3 ?hg cs HCL.out (fun _ => ⟨rfl, ad, rfl, ?hc⟩) (by rw [HCL.out, rp_len _ _ _ (Nat.zero_le _)]; omega) (by rw [HCS.out]; intro v hv; rw [List.eq_of_mem_replicate hv]; rfl) w.heap.size w (below_alloc (pw_below_drewN (Below.refl _ _) _) _) (Nat.le_refl _) ?_; (case hg => simp [World.alloc, World.drewN]); (case hc => rw [HCS.out]; exact rp_src HX.out (below_alloc (pw_below_drewN (Below.refl _ _) _) _)); intro w2 HG hB2; have HI : Aside0 (w2.heap[w.heap.size]? = some (.cells (rp_row x (min 1 c) c).toArray 3 (0, 0)) ∧ Below w.heap.size w w2) := ⟨by have h_ := HG.out; rw [HCS.out, rp_splice x 0 (min 1 c) c (by omega), Nat.zero_add] at h_; exact h_, hB2⟩; clear HG hB2; rw [HCL.out]))
 clear HX hmk hx1
 go_loopw [8] (fun v8 wr => ∃ n : Nat, v8 = .int .i64 (n : Int) ∧ Aside0 (n ≤ c ∧ (0 < c → 0 < n)) ∧ Aside0 (wr.heap[w.heap.size]? = some (.cells (rp_row x n c).toArray 3 (0, 0)) ∧ Below w.heap.size w wr)) (fun v8 wr => c - (intOf v8).toNat)
 case atStart => exact ⟨min 1 c, by first | rfl | (simp; done), ⟨by omega, by omega⟩, HI⟩
 case round =>
  clear HI
  obtain ⟨n, rfl, HN, HI⟩ := hrel
  by_cases hlt : n < c
  rotate_left
  ·have s1 : decide ((n : Int) < (c : Int)) = false := decide_eq_false (by omega)
   have s2 : decide (n < c) = false := decide_eq_false hlt
   go_wp2
   go_ret
   exact ⟨_, rfl, rp_own HI.out.1 (by have := HN.out; omega) (Nat.le_refl _) (by have := HC.out; omega), HI.out.2⟩
  have HLT := Aside0.mk hlt
  have s1 : decide ((n : Int) < (c : Int)) = true := decide_eq_true (by omega)
  have s2 : decide (n < c) = true := decide_eq_true hlt
  obtain ⟨i3, hi3, hi3s⟩ : ∃ i, Try.prog.info? 3 = some i ∧ i.size = 1 := by
   have h_ := HSZ.out
   cases e : Try.prog.info? 3 with
   | none => rw [e] at h_; cases h_
   | some i => rw [e] at h_; exact ⟨i, rfl, Option.some.inj h_⟩
  have hf := rp_from (P := Try.prog) 36 Try.underlying36 hi3 hi3s w.heap.size c n hlt
  have ht := rp_to (P := Try.prog) 36 Try.underlying36 hi3 w.heap.size c n (by omega)
  clear hi3 hi3s
  obtain ⟨cs2, hcs2⟩ : ∃ cs, cs = List.replicate (min n (c - n)) (Value.int .i64 x) := ⟨_, rfl⟩
  have HCS2 := Aside0.mk hcs2
  have HCL2 : Aside0 (cs2.length = min n (c - n)) := ⟨by rw [hcs2]; simp⟩
  clear hcs2
  have hwr : wrap64 ((n : Int) + ((min n (c - n) : Nat) : Int)) = ((n + min n (c - n) : Nat) : Int) := by have := HC.out; unfold wrap64; omega
  have HWR := Aside0.mk hwr
  clear hwr
  go_upto_region 9 with (fail)
  refine start_ (n := 10) (S := fun w' => True) (ds := [7]) #[false, false, false, false, false, false, false, false, false, false] (by kernel_rfl) rfl rfl trivial (fun hHeld => ?_)
  refine pT 0 (some 38) (zb 10 1) (h := ?_)
  refine pT 1 (some 39) (zb 10 3) (h := ?_)
  refine pT 2 (some 40) (zb 10 7) (h := ?_)
  refine pT 3 (some 41) (zb 10 15) (h := ?_)
  refine pT 4 (some 42) (zb 10 31) (h := ?_)
  refine pT 5 (some 43) (zb 10 63) (h := ?_)
  refine pT 6 (some 44) (zb 10 127) (h := ?_)
  refine last_ (i := 7) (N := some 45) (zb 10 255) rfl rfl (by kernel_rfl) (by decide) (fun K hK => ?_)
  refine step_copy_splice rfl (.tmp 41) (.tmp 44) 36 36 rfl 3 Try.underlying36 HSZ.out (some ⟨w.heap.size, n, none⟩) (some ⟨w.heap.size, 0, none⟩) (c - n) (c - n) n c rfl rfl w.heap.size n (rp_row x n c) 3 HI.out.1 cs2 HCL2.out (fun _ => ⟨rfl, _, rfl, by rw [HCS2.out]; exact rp_cells (w := wr.drew) HI.out.1 _ (by omega)⟩) (by rw [HCL2.out, rp_len _ _ _ HN.out.1]; have := HLT.out; omega) (by rw [HCS2.out]; intro v hv; rw [List.eq_of_mem_replicate hv]; rfl) w.heap.size w (below_drew HI.out.2) (Nat.le_refl _) ?_
  intro w2 HG hB2
  have HI2 : Aside0 (w2.heap[w.heap.size]? = some (.cells (rp_row x (n + min n (c - n)) c).toArray 3 (0, 0)) ∧ Below w.heap.size w w2) := ⟨by have h_ := HG.out; rw [HCS2.out, rp_splice x n (min n (c - n)) c (by have := HLT.out; omega)] at h_; exact h_, hB2⟩
  clear HG hB2
  rw [HCL2.out]
  refine hK.out _ _ ?_
  clear hK K
  refine nN (some 45) (h := ?_)
  refine pT 8 (some 46) (zb 10 511) (h := ?_)
  refine pT 9 (some 8) (zb 10 1023) (h := ?_)
  refine done_ (by kernel_rfl) ?_
  clear hHeld
  go_wp2
  go_round
  case rel => exact ⟨n + min n (c - n), by first | (rw [HWR.out]; done) | (rw [HWR.out]) | go_num, ⟨by have := HLT.out; omega, by have := HN.out; omega⟩, HI2⟩
  case measure => exact rp_meas c n (min n (c - n)) HLT.out (by have := HN.out; have := HLT.out; omega) _ (by rw [HWR.out])
end Go.Proofs.Ytgbpkbfghonllaa.P

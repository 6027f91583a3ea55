/- A part of it. -/
import Derived.Test.YtgbpkbfghonllaaFcP0
import Derived.Test.YtgbpkbfghonllaaFcP21
namespace Go.Proofs.Ytgbpkbfghonllaa.P
open Go.RowKit Go.Proofs.YtgbpkbfghonllaaW.PrintWords Go.Proofs.YtgbpkbfghonllaaW.PrintLast Go.Proofs.YtgbpkbfghonllaaW.PrintMore
attribute [local go_sem] max2_int min2_int max_two min_two max_three min_three max_four min_four   
set_option linter.unusedVariables false
set_option linter.unusedSimpArgs false
theorem eqA30 (d : Nat) (w : World) (x0 y0 : Int) (x1 y1 : Int) (x2 y2 : Int) (x3 y3 : Int) :
  (Op.equalIn (d + 2) 30 (.agg #[.int .i64 x0, .int .i64 x1, .int .i64 x2, .int .i64 x3]) (.agg #[.int .i64 y0, .int .i64 y1, .int .i64 y2, .int .i64 y3])).run Try.prog w = .ok (x0 == y0 && (x1 == y1 && (x2 == y2 && (x3 == y3)))) w := by
 refine eqA_of Try.underlying30 (by kernel_rfl) ?_
 refine eqf_cons (by rfl) (by go_simp; rfl) (by go_simp; rfl) (by go_simp) ?_
 refine eqf_cons (by rfl) (by go_simp; rfl) (by go_simp; rfl) (by go_simp) ?_
 refine eqf_cons (by rfl) (by go_simp; rfl) (by go_simp; rfl) (by go_simp) ?_
 exact eqf_last (by rfl) (by go_simp; rfl) (by go_simp; rfl) (by go_simp)
end Go.Proofs.Ytgbpkbfghonllaa.P
namespace Go.Proofs.Ytgbpkbfghonllaa.P
open Go.RowKit Go.Proofs.YtgbpkbfghonllaaW.PrintWords Go.Proofs.YtgbpkbfghonllaaW.PrintLast Go.Proofs.YtgbpkbfghonllaaW.PrintMore
attribute [local go_sem] max2_int min2_int max_two min_two max_three min_three max_four min_four   
set_option linter.unusedVariables false
set_option linter.unusedSimpArgs false
attribute [local go_sem high] eqA30
def balustradelaw16_works.f (k : Nat)  : Option (Bool) := (balustradelaw16_small.f 1).bind fun bt301 => ((fun_Check.f k bt301.1 bt301.2.1 bt301.2.2).bind fun bt308 => (if (bt308.1 == 0 && (bt308.2.1 == 0 && (bt308.2.2.1 == 0 && (bt308.2.2.2 == 0)))) = true then ((balustradelaw16_small.f 0).bind fun bt312 => ((fun_Check.f k bt312.1 bt312.2.1 bt312.2.2).bind fun bt319 => (if (bt319.1 == 0 && (bt319.2.1 == 0 && (bt319.2.2.1 == 1 && (bt319.2.2.2 == 11)))) = true then ((balustradelaw16_small.f 1).bind fun bt323 => ((fun_Plain.f k bt323.1 bt323.2.1 bt323.2.2).bind fun t330 => (if t330 = true then ((balustradelaw16_small.f 1).bind fun bt331 => ((fun_Count.f k bt331.1 bt331.2.1 bt331.2.2).bind fun t338 => (some (t338 == 2)))) else (some false)))) else (some false)))) else (some false)))
set_option maxHeartbeats 8000000 in
set_option maxRecDepth 100000 in
theorem balustradelaw16_works.calls (k : Nat)  (r : Bool) (w : World) (h : balustradelaw16_works.f k  = some r) :
  Calls Try.prog 8 #[] w fun e w' => e = .returned (.bool r) ∧ Below w.heap.size w w' := by
 have hu30 := Try.underlying30
 have HB := Aside0.mk (Below.refl w.heap.size w)
 have H : ((balustradelaw16_small.f 1).bind fun bt301 => ((fun_Check.f k bt301.1 bt301.2.1 bt301.2.2).bind fun bt308 => (if (bt308.1 == 0 && (bt308.2.1 == 0 && (bt308.2.2.1 == 0 && (bt308.2.2.2 == 0)))) = true then ((balustradelaw16_small.f 0).bind fun bt312 => ((fun_Check.f k bt312.1 bt312.2.1 bt312.2.2).bind fun bt319 => (if (bt319.1 == 0 && (bt319.2.1 == 0 && (bt319.2.2.1 == 1 && (bt319.2.2.2 == 11)))) = true then ((balustradelaw16_small.f 1).bind fun bt323 => ((fun_Plain.f k bt323.1 bt323.2.1 bt323.2.2).bind fun t330 => (if t330 = true then ((balustradelaw16_small.f 1).bind fun bt331 => ((fun_Count.f k bt331.1 bt331.2.1 bt331.2.2).bind fun t338 => (some (t338 == 2)))) else (some false)))) else (some false)))) else (some false)))) = some r := h
 clear h
 replace H := Option.bind_eq_some_iff.mp H
 obtain ⟨⟨t301, t304, t305⟩, A10, H⟩ := H
 replace H : ((fun_Check.f k t301 t304 t305).bind fun bt308 => (if (bt308.1 == 0 && (bt308.2.1 == 0 && (bt308.2.2.1 == 0 && (bt308.2.2.2 == 0)))) = true then ((balustradelaw16_small.f 0).bind fun bt312 => ((fun_Check.f k bt312.1 bt312.2.1 bt312.2.2).bind fun bt319 => (if (bt319.1 == 0 && (bt319.2.1 == 0 && (bt319.2.2.1 == 1 && (bt319.2.2.2 == 11)))) = true then ((balustradelaw16_small.f 1).bind fun bt323 => ((fun_Plain.f k bt323.1 bt323.2.1 bt323.2.2).bind fun t330 => (if t330 = true then ((balustradelaw16_small.f 1).bind fun bt331 => ((fun_Count.f k bt331.1 bt331.2.1 bt331.2.2).bind fun t338 => (some (t338 == 2)))) else (some false)))) else (some false)))) else (some false))) = some r := H
 have A1 := Aside0.mk A10
 clear A10
 replace H := Option.bind_eq_some_iff.mp H
 obtain ⟨⟨t308, t309, t310, t311⟩, A20, H⟩ := H
 replace H : (if (t308 == 0 && (t309 == 0 && (t310 == 0 && (t311 == 0)))) = true then ((balustradelaw16_small.f 0).bind fun bt312 => ((fun_Check.f k bt312.1 bt312.2.1 bt312.2.2).bind fun bt319 => (if (bt319.1 == 0 && (bt319.2.1 == 0 && (bt319.2.2.1 == 1 && (bt319.2.2.2 == 11)))) = true then ((balustradelaw16_small.f 1).bind fun bt323 => ((fun_Plain.f k bt323.1 bt323.2.1 bt323.2.2).bind fun t330 => (if t330 = true then ((balustradelaw16_small.f 1).bind fun bt331 => ((fun_Count.f k bt331.1 bt331.2.1 bt331.2.2).bind fun t338 => (some (t338 == 2)))) else (some false)))) else (some false)))) else (some false)) = some r := H
 have A2 := Aside0.mk A20
 clear A20
 by_cases c3 : (t308 == 0 && (t309 == 0 && (t310 == 0 && (t311 == 0)))) = true
 ·rw [if_pos c3] at H
  have c3b0 : (t308 == 0 && (t309 == 0 && (t310 == 0 && (t311 == 0)))) = true := c3
  (try (have c3b1 : decide (t308 = 0 && (t309 == 0 && (t310 == 0 && (t311 == 0)))) = true := by simpa using c3))
  (try (have c3b2 : (t308 == 0 && (t309 == 0 && (t310 == 0 && (t311 == 0)))) = true := by simpa using c3))
  clear c3
  replace H := Option.bind_eq_some_iff.mp H
  obtain ⟨⟨t312, t315, t316⟩, A40, H⟩ := H
  replace H : ((fun_Check.f k t312 t315 t316).bind fun bt319 => (if (bt319.1 == 0 && (bt319.2.1 == 0 && (bt319.2.2.1 == 1 && (bt319.2.2.2 == 11)))) = true then ((balustradelaw16_small.f 1).bind fun bt323 => ((fun_Plain.f k bt323.1 bt323.2.1 bt323.2.2).bind fun t330 => (if t330 = true then ((balustradelaw16_small.f 1).bind fun bt331 => ((fun_Count.f k bt331.1 bt331.2.1 bt331.2.2).bind fun t338 => (some (t338 == 2)))) else (some false)))) else (some false))) = some r := H
  have A4 := Aside0.mk A40
  clear A40
  replace H := Option.bind_eq_some_iff.mp H
  obtain ⟨⟨t319, t320, t321, t322⟩, A50, H⟩ := H
  replace H : (if (t319 == 0 && (t320 == 0 && (t321 == 1 && (t322 == 11)))) = true then ((balustradelaw16_small.f 1).bind fun bt323 => ((fun_Plain.f k bt323.1 bt323.2.1 bt323.2.2).bind fun t330 => (if t330 = true then ((balustradelaw16_small.f 1).bind fun bt331 => ((fun_Count.f k bt331.1 bt331.2.1 bt331.2.2).bind fun t338 => (some (t338 == 2)))) else (some false)))) else (some false)) = some r := H
  have A5 := Aside0.mk A50
  clear A50
  by_cases c6 : (t319 == 0 && (t320 == 0 && (t321 == 1 && (t322 == 11)))) = true
  ·rw [if_pos c6] at H
   have c6b0 : (t319 == 0 && (t320 == 0 && (t321 == 1 && (t322 == 11)))) = true := c6
   (try (have c6b1 : decide (t319 = 0 && (t320 == 0 && (t321 == 1 && (t322 == 11)))) = true := by simpa using c6))
   (try (have c6b2 : (t319 == 0 && (t320 == 0 && (t321 == 1 && (t322 == 11)))) = true := by simpa using c6))
   clear c6
   replace H := Option.bind_eq_some_iff.mp H
   obtain ⟨⟨t323, t326, t327⟩, A70, H⟩ := H
   replace H : ((fun_Plain.f k t323 t326 t327).bind fun t330 => (if t330 = true then ((balustradelaw16_small.f 1).bind fun bt331 => ((fun_Count.f k bt331.1 bt331.2.1 bt331.2.2).bind fun t338 => (some (t338 == 2)))) else (some false))) = some r := H
   have A7 := Aside0.mk A70
   clear A70
   replace H := Option.bind_eq_some_iff.mp H
   obtain ⟨t330, A80, H⟩ := H
   replace H : (if t330 = true then ((balustradelaw16_small.f 1).bind fun bt331 => ((fun_Count.f k bt331.1 bt331.2.1 bt331.2.2).bind fun t338 => (some (t338 == 2)))) else (some false)) = some r := H
   have A8 := Aside0.mk A80
   clear A80
   by_cases c9 : t330 = true
   ·subst c9
    have H1 : ((balustradelaw16_small.f 1).bind fun bt331 => ((fun_Count.f k bt331.1 bt331.2.1 bt331.2.2).bind fun t338 => (some (t338 == 2)))) = some r := by rw [if_pos rfl] at H; exact H
    clear H
    have H := H1
    clear H1
    replace H := Option.bind_eq_some_iff.mp H
    obtain ⟨⟨t331, t334, t335⟩, A100, H⟩ := H
    replace H : ((fun_Count.f k t331 t334 t335).bind fun t338 => (some (t338 == 2))) = some r := H
    have A10 := Aside0.mk A100
    clear A100
    replace H := Option.bind_eq_some_iff.mp H
    obtain ⟨t338, A110, H⟩ := H
    replace H : (some (t338 == 2)) = some r := H
    have A11 := Aside0.mk A110
    clear A110
    obtain rfl := Option.some.inj H
    go_enter Try.func8, Try.ntmps8
    go_wp2_with (first | ((with_reducible refine gate_callee (f := 23) rfl ?_); refine goesL_ (some 1) rfl rfl Try.func23 (by kernel_rfl) rfl #[.int .i64 1] rfl zE ?_; (with_reducible refine (balustradelaw16_small.calls 1 t301 t304 t305 _ A1.out).mono ?_); rintro e w12 ⟨v302, v306, rfl, ho0, ho1, hb⟩; refine ⟨_, rfl, ?_⟩; have n0_ := Aside0.mk (Kd.N_lower (Kd.N_mono (ok' := fun k_ => some k_ ≠ (v306 : Value).ownBlock) ho0 (fun k_ hk_ => hk_.2)) (below_size (zB))); have n1_ := Aside0.mk (Kd.R_lower (Kd.R_mono (ok' := fun k_ => True) ho1 (fun _ hk_ => trivial)) (below_size (zB))); have n2_ := Aside0.mk (below_step (zB) hb); clear HB; have HO303 := n0_; have HO307 := n1_; have HB := n2_; clear n0_ n1_ n2_; (try clear hb); (try clear hb2); (try clear hk); (try clear hi); (try clear ho0); (try clear ho1); obtain ⟨Ao13, co13, eo13⟩ := Kd.N_slice HO303.out; subst eo13; obtain ⟨Ao14, co14, eo14⟩ := Kd.R_slice HO307.out; subst eo14) | ((with_reducible refine gate_callee (f := 9) rfl ?_); refine goesL_ (some 2) rfl rfl Try.func9 (by kernel_rfl) rfl #[.agg #[.slice Ao13 t301.length co13, .int .i64 t304, .slice Ao14 t305.length co14]] rfl zE ?_; (with_reducible refine (fun_Check.calls k _ _ t301 t304 _ _ t305 t308 t309 t310 t311 _ ?side1 ?side2 ?side3 ?side4 A2.out).mono ?_); (case side1 => exact zC (Kd.N_reads' HO303.out).2.2); (case side2 => exact (Kd.N_reads' HO303.out).2.1); (case side3 => exact zC (Kd.R_reads' HO307.out).2.2); (case side4 => exact (Kd.R_reads' HO307.out).2.1); rintro e w15 ⟨rfl, hb⟩; refine ⟨_, rfl, ?_⟩; have n0_ := Aside0.mk (Kd.N_below (by (with_reducible repeat (first | apply Kd.N_alloc | apply Kd.N_drewN | apply Kd.N_drew)); exact HO303.out) hb); have n1_ := Aside0.mk (Kd.R_below (zR HO307.out) hb); have n2_ := Aside0.mk (below_step (zB) hb); clear HO303; clear HO307; clear HB; have HO303 := n0_; have HO307 := n1_; have HB := n2_; clear n0_ n1_ n2_; (try clear hb); (try clear hb2); (try clear hk); (try clear hi)) | (go_at_call 23; (with_reducible refine (balustradelaw16_small.calls 0 t312 t315 t316 _ A4.out).mono ?_); rintro e w16 ⟨v313, v317, rfl, ho0, ho1, hb⟩; have n0_ := Aside0.mk (Kd.N_mono (Kd.N_told (Kd.N_told (Kd.N_old (by (with_reducible repeat (first | apply Kd.N_alloc | apply Kd.N_drewN | apply Kd.N_drew)); exact HO303.out) hb) (Kd.N_base ho0)) (Kd.R_base ho1)) (fun _ h_ => h_.1)); have n1_ := Aside0.mk (Kd.R_elder' (zR HO307.out) (Kd.R_base ho1) hb); have n2_ := Aside0.mk (Kd.N_lower (Kd.N_mono (ok' := fun k_ => some k_ ≠ (v317 : Value).ownBlock ∧ some k_ ≠ (.slice Ao13 t301.length co13 : Value).ownBlock ∧ some k_ ≠ (.slice Ao14 t305.length co14 : Value).ownBlock) ho0 (fun k_ hk_ => ⟨hk_.2, (Kd.fresh' (Kd.N_lt (by (with_reducible repeat (first | apply Kd.N_alloc | apply Kd.N_drewN | apply Kd.N_drew)); exact HO303.out)) k_ hk_.1), (Kd.fresh' (Kd.R_lt (zR HO307.out)) k_ hk_.1)⟩)) (below_size (zB))); have n3_ := Aside0.mk (Kd.R_lower (Kd.R_new' (Kd.R_mono (ok' := fun k_ => True) ho1 (fun _ hk_ => trivial)) (Kd.R_lt (zR HO307.out))) (below_size (zB))); have n4_ := Aside0.mk (below_step (zB) hb); clear HO303; clear HO307; clear HB; have HO303 := n0_; have HO307 := n1_; have HO314 := n2_; have HO318 := n3_; have HB := n4_; clear n0_ n1_ n2_ n3_ n4_; (try clear hb); (try clear hb2); (try clear hk); (try clear hi); (try clear ho0); (try clear ho1); obtain ⟨Ao17, co17, eo17⟩ := Kd.N_slice HO314.out; subst eo17; obtain ⟨Ao18, co18, eo18⟩ := Kd.R_slice HO318.out; subst eo18) | (go_at_call 9; (with_reducible refine (fun_Check.calls k _ _ t312 t315 _ _ t316 t319 t320 t321 t322 _ ?side1 ?side2 ?side3 ?side4 A5.out).mono ?_); (case side1 => exact zC (Kd.N_reads' HO314.out).2.2); (case side2 => exact (Kd.N_reads' HO314.out).2.1); (case side3 => exact zC (Kd.R_reads' HO318.out).2.2); (case side4 => exact (Kd.R_reads' HO318.out).2.1); rintro e w19 ⟨rfl, hb⟩; have n0_ := Aside0.mk (Kd.N_below (by (with_reducible repeat (first | apply Kd.N_alloc | apply Kd.N_drewN | apply Kd.N_drew)); exact HO303.out) hb); have n1_ := Aside0.mk (Kd.R_below (zR HO307.out) hb); have n2_ := Aside0.mk (Kd.N_below (by (with_reducible repeat (first | apply Kd.N_alloc | apply Kd.N_drewN | apply Kd.N_drew)); exact HO314.out) hb); have n3_ := Aside0.mk (Kd.R_below (zR HO318.out) hb); have n4_ := Aside0.mk (below_step (zB) hb); clear HO303; clear HO307; clear HO314; clear HO318; clear HB; have HO303 := n0_; have HO307 := n1_; have HO314 := n2_; have HO318 := n3_; have HB := n4_; clear n0_ n1_ n2_ n3_ n4_; (try clear hb); (try clear hb2); (try clear hk); (try clear hi)) | (go_at_call 23; (fail_if_success have q_ := HO325.out); (with_reducible refine (balustradelaw16_small.calls 1 t323 t326 t327 _ A7.out).mono ?_); rintro e w20 ⟨v324, v328, rfl, ho0, ho1, hb⟩; have n0_ := Aside0.mk (Kd.N_mono (Kd.N_told (Kd.N_told (Kd.N_old (by (with_reducible repeat (first | apply Kd.N_alloc | apply Kd.N_drewN | apply Kd.N_drew)); exact HO303.out) hb) (Kd.N_base ho0)) (Kd.R_base ho1)) (fun _ h_ => h_.1)); have n1_ := Aside0.mk (Kd.R_elder' (zR HO307.out) (Kd.R_base ho1) hb); have n2_ := Aside0.mk (Kd.N_mono (Kd.N_told (Kd.N_told (Kd.N_old (by (with_reducible repeat (first | apply Kd.N_alloc | apply Kd.N_drewN | apply Kd.N_drew)); exact HO314.out) hb) (Kd.N_base ho0)) (Kd.R_base ho1)) (fun _ h_ => h_.1)); have n3_ := Aside0.mk (Kd.R_elder' (zR HO318.out) (Kd.R_base ho1) hb); have n4_ := Aside0.mk (Kd.N_lower (Kd.N_mono (ok' := fun k_ => some k_ ≠ (v328 : Value).ownBlock ∧ some k_ ≠ (.slice Ao13 t301.length co13 : Value).ownBlock ∧ some k_ ≠ (.slice Ao14 t305.length co14 : Value).ownBlock ∧ some k_ ≠ (.slice Ao17 t312.length co17 : Value).ownBlock ∧ some k_ ≠ (.slice Ao18 t316.length co18 : Value).ownBlock) ho0 (fun k_ hk_ => ⟨hk_.2, (Kd.fresh' (Kd.N_lt (by (with_reducible repeat (first | apply Kd.N_alloc | apply Kd.N_drewN | apply Kd.N_drew)); exact HO303.out)) k_ hk_.1), (Kd.fresh' (Kd.R_lt (zR HO307.out)) k_ hk_.1), (Kd.fresh' (Kd.N_lt (by (with_reducible repeat (first | apply Kd.N_alloc | apply Kd.N_drewN | apply Kd.N_drew)); exact HO314.out)) k_ hk_.1), (Kd.fresh' (Kd.R_lt (zR HO318.out)) k_ hk_.1)⟩)) (below_size (zB))); have n5_ := Aside0.mk (Kd.R_lower (Kd.R_new' (Kd.R_new' (Kd.R_mono (ok' := fun k_ => True) ho1 (fun _ hk_ => trivial)) (Kd.R_lt (zR HO307.out))) (Kd.R_lt (zR HO318.out))) (below_size (zB))); have n6_ := Aside0.mk (below_step (zB) hb); clear HO303; clear HO307; clear HO314; clear HO318; clear HB; have HO303 := n0_; have HO307 := n1_; have HO314 := n2_; have HO318 := n3_; have HO325 := n4_; have HO329 := n5_; have HB := n6_; clear n0_ n1_ n2_ n3_ n4_ n5_ n6_; (try clear hb); (try clear hb2); (try clear hk); (try clear hi); (try clear ho0); (try clear ho1); obtain ⟨Ao21, co21, eo21⟩ := Kd.N_slice HO325.out; subst eo21; obtain ⟨Ao22, co22, eo22⟩ := Kd.R_slice HO329.out; subst eo22) | (go_at_call 11; (with_reducible refine (fun_Plain.calls k _ _ t323 t326 _ _ t327 true _ ?side1 ?side2 ?side3 ?side4 A8.out).mono ?_); (case side1 => exact zC (Kd.N_reads' HO325.out).2.2); (case side2 => exact (Kd.N_reads' HO325.out).2.1); (case side3 => exact zC (Kd.R_reads' HO329.out).2.2); (case side4 => exact (Kd.R_reads' HO329.out).2.1); rintro e w23 ⟨rfl, hb⟩; have n0_ := Aside0.mk (Kd.N_below (by (with_reducible repeat (first | apply Kd.N_alloc | apply Kd.N_drewN | apply Kd.N_drew)); exact HO303.out) hb); have n1_ := Aside0.mk (Kd.R_below (zR HO307.out) hb); have n2_ := Aside0.mk (Kd.N_below (by (with_reducible repeat (first | apply Kd.N_alloc | apply Kd.N_drewN | apply Kd.N_drew)); exact HO314.out) hb); have n3_ := Aside0.mk (Kd.R_below (zR HO318.out) hb); have n4_ := Aside0.mk (Kd.N_below (by (with_reducible repeat (first | apply Kd.N_alloc | apply Kd.N_drewN | apply Kd.N_drew)); exact HO325.out) hb); have n5_ := Aside0.mk (Kd.R_below (zR HO329.out) hb); have n6_ := Aside0.mk (below_step (zB) hb); clear HO303; clear HO307; clear HO314; clear HO318; clear HO325; clear HO329; clear HB; have HO303 := n0_; have HO307 := n1_; have HO314 := n2_; have HO318 := n3_; have HO325 := n4_; have HO329 := n5_; have HB := n6_; clear n0_ n1_ n2_ n3_ n4_ n5_ n6_; (try clear hb); (try clear hb2); (try clear hk); (try clear hi)) | (go_at_call 23; (with_reducible refine (balustradelaw16_small.calls 1 t331 t334 t335 _ A10.out).mono ?_); rintro e w24 ⟨v332, v336, rfl, ho0, ho1, hb⟩; have n0_ := Aside0.mk (Kd.N_mono (Kd.N_told (Kd.N_told (Kd.N_old (by (with_reducible repeat (first | apply Kd.N_alloc | apply Kd.N_drewN | apply Kd.N_drew)); exact HO303.out) hb) (Kd.N_base ho0)) (Kd.R_base ho1)) (fun _ h_ => h_.1)); have n1_ := Aside0.mk (Kd.R_elder' (zR HO307.out) (Kd.R_base ho1) hb); have n2_ := Aside0.mk (Kd.N_mono (Kd.N_told (Kd.N_told (Kd.N_old (by (with_reducible repeat (first | apply Kd.N_alloc | apply Kd.N_drewN | apply Kd.N_drew)); exact HO314.out) hb) (Kd.N_base ho0)) (Kd.R_base ho1)) (fun _ h_ => h_.1)); have n3_ := Aside0.mk (Kd.R_elder' (zR HO318.out) (Kd.R_base ho1) hb); have n4_ := Aside0.mk (Kd.N_mono (Kd.N_told (Kd.N_told (Kd.N_old (by (with_reducible repeat (first | apply Kd.N_alloc | apply Kd.N_drewN | apply Kd.N_drew)); exact HO325.out) hb) (Kd.N_base ho0)) (Kd.R_base ho1)) (fun _ h_ => h_.1)); have n5_ := Aside0.mk (Kd.R_elder' (zR HO329.out) (Kd.R_base ho1) hb); have n6_ := Aside0.mk (Kd.N_lower (Kd.N_mono (ok' := fun k_ => some k_ ≠ (v336 : Value).ownBlock ∧ some k_ ≠ (.slice Ao13 t301.length co13 : Value).ownBlock ∧ some k_ ≠ (.slice Ao14 t305.length co14 : Value).ownBlock ∧ some k_ ≠ (.slice Ao17 t312.length co17 : Value).ownBlock ∧ some k_ ≠ (.slice Ao18 t316.length co18 : Value).ownBlock ∧ some k_ ≠ (.slice Ao21 t323.length co21 : Value).ownBlock ∧ some k_ ≠ (.slice Ao22 t327.length co22 : Value).ownBlock) ho0 (fun k_ hk_ => ⟨hk_.2, (Kd.fresh' (Kd.N_lt (by (with_reducible repeat (first | apply Kd.N_alloc | apply Kd.N_drewN | apply Kd.N_drew)); exact HO303.out)) k_ hk_.1), (Kd.fresh' (Kd.R_lt (zR HO307.out)) k_ hk_.1), (Kd.fresh' (Kd.N_lt (by (with_reducible repeat (first | apply Kd.N_alloc | apply Kd.N_drewN | apply Kd.N_drew)); exact HO314.out)) k_ hk_.1), (Kd.fresh' (Kd.R_lt (zR HO318.out)) k_ hk_.1), (Kd.fresh' (Kd.N_lt (by (with_reducible repeat (first | apply Kd.N_alloc | apply Kd.N_drewN | apply Kd.N_drew)); exact HO325.out)) k_ hk_.1), (Kd.fresh' (Kd.R_lt (zR HO329.out)) k_ hk_.1)⟩)) (below_size (zB))); have n7_ := Aside0.mk (Kd.R_lower (Kd.R_new' (Kd.R_new' (Kd.R_new' (Kd.R_mono (ok' := fun k_ => True) ho1 (fun _ hk_ => trivial)) (Kd.R_lt (zR HO307.out))) (Kd.R_lt (zR HO318.out))) (Kd.R_lt (zR HO329.out))) (below_size (zB))); have n8_ := Aside0.mk (below_step (zB) hb); clear HO303; clear HO307; clear HO314; clear HO318; clear HO325; clear HO329; clear HB; have HO303 := n0_; have HO307 := n1_; have HO314 := n2_; have HO318 := n3_; have HO325 := n4_; have HO329 := n5_; have HO333 := n6_; have HO337 := n7_; have HB := n8_; clear n0_ n1_ n2_ n3_ n4_ n5_ n6_ n7_ n8_; (try clear hb); (try clear hb2); (try clear hk); (try clear hi); (try clear ho0); (try clear ho1); obtain ⟨Ao25, co25, eo25⟩ := Kd.N_slice HO333.out; subst eo25; obtain ⟨Ao26, co26, eo26⟩ := Kd.R_slice HO337.out; subst eo26) | (go_at_call 13; (with_reducible refine (fun_Count.calls k _ _ t331 t334 _ _ t335 t338 _ ?side1 ?side2 ?side3 ?side4 A11.out).mono ?_); (case side1 => exact zC (Kd.N_reads' HO333.out).2.2); (case side2 => exact (Kd.N_reads' HO333.out).2.1); (case side3 => exact zC (Kd.R_reads' HO337.out).2.2); (case side4 => exact (Kd.R_reads' HO337.out).2.1); rintro e w27 ⟨rfl, hb⟩; have n0_ := Aside0.mk (Kd.N_below (by (with_reducible repeat (first | apply Kd.N_alloc | apply Kd.N_drewN | apply Kd.N_drew)); exact HO303.out) hb); have n1_ := Aside0.mk (Kd.R_below (zR HO307.out) hb); have n2_ := Aside0.mk (Kd.N_below (by (with_reducible repeat (first | apply Kd.N_alloc | apply Kd.N_drewN | apply Kd.N_drew)); exact HO314.out) hb); have n3_ := Aside0.mk (Kd.R_below (zR HO318.out) hb); have n4_ := Aside0.mk (Kd.N_below (by (with_reducible repeat (first | apply Kd.N_alloc | apply Kd.N_drewN | apply Kd.N_drew)); exact HO325.out) hb); have n5_ := Aside0.mk (Kd.R_below (zR HO329.out) hb); have n6_ := Aside0.mk (Kd.N_below (by (with_reducible repeat (first | apply Kd.N_alloc | apply Kd.N_drewN | apply Kd.N_drew)); exact HO333.out) hb); have n7_ := Aside0.mk (Kd.R_below (zR HO337.out) hb); have n8_ := Aside0.mk (below_step (zB) hb); clear HO303; clear HO307; clear HO314; clear HO318; clear HO325; clear HO329; clear HO333; clear HO337; clear HB; have HO303 := n0_; have HO307 := n1_; have HO314 := n2_; have HO318 := n3_; have HO325 := n4_; have HO329 := n5_; have HO333 := n6_; have HO337 := n7_; have HB := n8_; clear n0_ n1_ n2_ n3_ n4_ n5_ n6_ n7_ n8_; (try clear hb); (try clear hb2); (try clear hk); (try clear hi)))
    go_ret
    exact ⟨zV, zB⟩
   ·replace c9 := Bool.eq_false_iff.mpr c9
    subst c9
    have H1 : (some false) = some r := by rw [if_neg (show ¬ (false = true) by decide)] at H; exact H
    clear H
    have H := H1
    clear H1
    obtain rfl := Option.some.inj H
    go_enter Try.func8, Try.ntmps8
    go_wp2_with (first | ((with_reducible refine gate_callee (f := 23) rfl ?_); refine goesL_ (some 1) rfl rfl Try.func23 (by kernel_rfl) rfl #[.int .i64 1] rfl zE ?_; (with_reducible refine (balustradelaw16_small.calls 1 t301 t304 t305 _ A1.out).mono ?_); rintro e w28 ⟨v302, v306, rfl, ho0, ho1, hb⟩; refine ⟨_, rfl, ?_⟩; have n0_ := Aside0.mk (Kd.N_lower (Kd.N_mono (ok' := fun k_ => some k_ ≠ (v306 : Value).ownBlock) ho0 (fun k_ hk_ => hk_.2)) (below_size (zB))); have n1_ := Aside0.mk (Kd.R_lower (Kd.R_mono (ok' := fun k_ => True) ho1 (fun _ hk_ => trivial)) (below_size (zB))); have n2_ := Aside0.mk (below_step (zB) hb); clear HB; have HO303 := n0_; have HO307 := n1_; have HB := n2_; clear n0_ n1_ n2_; (try clear hb); (try clear hb2); (try clear hk); (try clear hi); (try clear ho0); (try clear ho1); obtain ⟨Ao29, co29, eo29⟩ := Kd.N_slice HO303.out; subst eo29; obtain ⟨Ao30, co30, eo30⟩ := Kd.R_slice HO307.out; subst eo30) | ((with_reducible refine gate_callee (f := 9) rfl ?_); refine goesL_ (some 2) rfl rfl Try.func9 (by kernel_rfl) rfl #[.agg #[.slice Ao29 t301.length co29, .int .i64 t304, .slice Ao30 t305.length co30]] rfl zE ?_; (with_reducible refine (fun_Check.calls k _ _ t301 t304 _ _ t305 t308 t309 t310 t311 _ ?side1 ?side2 ?side3 ?side4 A2.out).mono ?_); (case side1 => exact zC (Kd.N_reads' HO303.out).2.2); (case side2 => exact (Kd.N_reads' HO303.out).2.1); (case side3 => exact zC (Kd.R_reads' HO307.out).2.2); (case side4 => exact (Kd.R_reads' HO307.out).2.1); rintro e w31 ⟨rfl, hb⟩; refine ⟨_, rfl, ?_⟩; have n0_ := Aside0.mk (Kd.N_below (by (with_reducible repeat (first | apply Kd.N_alloc | apply Kd.N_drewN | apply Kd.N_drew)); exact HO303.out) hb); have n1_ := Aside0.mk (Kd.R_below (zR HO307.out) hb); have n2_ := Aside0.mk (below_step (zB) hb); clear HO303; clear HO307; clear HB; have HO303 := n0_; have HO307 := n1_; have HB := n2_; clear n0_ n1_ n2_; (try clear hb); (try clear hb2); (try clear hk); (try clear hi)) | (go_at_call 23; (with_reducible refine (balustradelaw16_small.calls 0 t312 t315 t316 _ A4.out).mono ?_); rintro e w32 ⟨v313, v317, rfl, ho0, ho1, hb⟩; have n0_ := Aside0.mk (Kd.N_mono (Kd.N_told (Kd.N_told (Kd.N_old (by (with_reducible repeat (first | apply Kd.N_alloc | apply Kd.N_drewN | apply Kd.N_drew)); exact HO303.out) hb) (Kd.N_base ho0)) (Kd.R_base ho1)) (fun _ h_ => h_.1)); have n1_ := Aside0.mk (Kd.R_elder' (zR HO307.out) (Kd.R_base ho1) hb); have n2_ := Aside0.mk (Kd.N_lower (Kd.N_mono (ok' := fun k_ => some k_ ≠ (v317 : Value).ownBlock ∧ some k_ ≠ (.slice Ao29 t301.length co29 : Value).ownBlock ∧ some k_ ≠ (.slice Ao30 t305.length co30 : Value).ownBlock) ho0 (fun k_ hk_ => ⟨hk_.2, (Kd.fresh' (Kd.N_lt (by (with_reducible repeat (first | apply Kd.N_alloc | apply Kd.N_drewN | apply Kd.N_drew)); exact HO303.out)) k_ hk_.1), (Kd.fresh' (Kd.R_lt (zR HO307.out)) k_ hk_.1)⟩)) (below_size (zB))); have n3_ := Aside0.mk (Kd.R_lower (Kd.R_new' (Kd.R_mono (ok' := fun k_ => True) ho1 (fun _ hk_ => trivial)) (Kd.R_lt (zR HO307.out))) (below_size (zB))); have n4_ := Aside0.mk (below_step (zB) hb); clear HO303; clear HO307; clear HB; have HO303 := n0_; have HO307 := n1_; have HO314 := n2_; have HO318 := n3_; have HB := n4_; clear n0_ n1_ n2_ n3_ n4_; (try clear hb); (try clear hb2); (try clear hk); (try clear hi); (try clear ho0); (try clear ho1); obtain ⟨Ao33, co33, eo33⟩ := Kd.N_slice HO314.out; subst eo33; obtain ⟨Ao34, co34, eo34⟩ := Kd.R_slice HO318.out; subst eo34) | (go_at_call 9; (with_reducible refine (fun_Check.calls k _ _ t312 t315 _ _ t316 t319 t320 t321 t322 _ ?side1 ?side2 ?side3 ?side4 A5.out).mono ?_); (case side1 => exact zC (Kd.N_reads' HO314.out).2.2); (case side2 => exact (Kd.N_reads' HO314.out).2.1); (case side3 => exact zC (Kd.R_reads' HO318.out).2.2); (case side4 => exact (Kd.R_reads' HO318.out).2.1); rintro e w35 ⟨rfl, hb⟩; have n0_ := Aside0.mk (Kd.N_below (by (with_reducible repeat (first | apply Kd.N_alloc | apply Kd.N_drewN | apply Kd.N_drew)); exact HO303.out) hb); have n1_ := Aside0.mk (Kd.R_below (zR HO307.out) hb); have n2_ := Aside0.mk (Kd.N_below (by (with_reducible repeat (first | apply Kd.N_alloc | apply Kd.N_drewN | apply Kd.N_drew)); exact HO314.out) hb); have n3_ := Aside0.mk (Kd.R_below (zR HO318.out) hb); have n4_ := Aside0.mk (below_step (zB) hb); clear HO303; clear HO307; clear HO314; clear HO318; clear HB; have HO303 := n0_; have HO307 := n1_; have HO314 := n2_; have HO318 := n3_; have HB := n4_; clear n0_ n1_ n2_ n3_ n4_; (try clear hb); (try clear hb2); (try clear hk); (try clear hi)) | (go_at_call 23; (fail_if_success have q_ := HO325.out); (with_reducible refine (balustradelaw16_small.calls 1 t323 t326 t327 _ A7.out).mono ?_); rintro e w36 ⟨v324, v328, rfl, ho0, ho1, hb⟩; have n0_ := Aside0.mk (Kd.N_mono (Kd.N_told (Kd.N_told (Kd.N_old (by (with_reducible repeat (first | apply Kd.N_alloc | apply Kd.N_drewN | apply Kd.N_drew)); exact HO303.out) hb) (Kd.N_base ho0)) (Kd.R_base ho1)) (fun _ h_ => h_.1)); have n1_ := Aside0.mk (Kd.R_elder' (zR HO307.out) (Kd.R_base ho1) hb); have n2_ := Aside0.mk (Kd.N_mono (Kd.N_told (Kd.N_told (Kd.N_old (by (with_reducible repeat (first | apply Kd.N_alloc | apply Kd.N_drewN | apply Kd.N_drew)); exact HO314.out) hb) (Kd.N_base ho0)) (Kd.R_base ho1)) (fun _ h_ => h_.1)); have n3_ := Aside0.mk (Kd.R_elder' (zR HO318.out) (Kd.R_base ho1) hb); have n4_ := Aside0.mk (Kd.N_lower (Kd.N_mono (ok' := fun k_ => some k_ ≠ (v328 : Value).ownBlock ∧ some k_ ≠ (.slice Ao29 t301.length co29 : Value).ownBlock ∧ some k_ ≠ (.slice Ao30 t305.length co30 : Value).ownBlock ∧ some k_ ≠ (.slice Ao33 t312.length co33 : Value).ownBlock ∧ some k_ ≠ (.slice Ao34 t316.length co34 : Value).ownBlock) ho0 (fun k_ hk_ => ⟨hk_.2, (Kd.fresh' (Kd.N_lt (by (with_reducible repeat (first | apply Kd.N_alloc | apply Kd.N_drewN | apply Kd.N_drew)); exact HO303.out)) k_ hk_.1), (Kd.fresh' (Kd.R_lt (zR HO307.out)) k_ hk_.1), (Kd.fresh' (Kd.N_lt (by (with_reducible repeat (first | apply Kd.N_alloc | apply Kd.N_drewN | apply Kd.N_drew)); exact HO314.out)) k_ hk_.1), (Kd.fresh' (Kd.R_lt (zR HO318.out)) k_ hk_.1)⟩)) (below_size (zB))); have n5_ := Aside0.mk (Kd.R_lower (Kd.R_new' (Kd.R_new' (Kd.R_mono (ok' := fun k_ => True) ho1 (fun _ hk_ => trivial)) (Kd.R_lt (zR HO307.out))) (Kd.R_lt (zR HO318.out))) (below_size (zB))); have n6_ := Aside0.mk (below_step (zB) hb); clear HO303; clear HO307; clear HO314; clear HO318; clear HB; have HO303 := n0_; have HO307 := n1_; have HO314 := n2_; have HO318 := n3_; have HO325 := n4_; have HO329 := n5_; have HB := n6_; clear n0_ n1_ n2_ n3_ n4_ n5_ n6_; (try clear hb); (try clear hb2); (try clear hk); (try clear hi); (try clear ho0); (try clear ho1); obtain ⟨Ao37, co37, eo37⟩ := Kd.N_slice HO325.out; subst eo37; obtain ⟨Ao38, co38, eo38⟩ := Kd.R_slice HO329.out; subst eo38) | (go_at_call 11; (with_reducible refine (fun_Plain.calls k _ _ t323 t326 _ _ t327 false _ ?side1 ?side2 ?side3 ?side4 A8.out).mono ?_); (case side1 => exact zC (Kd.N_reads' HO325.out).2.2); (case side2 => exact (Kd.N_reads' HO325.out).2.1); (case side3 => exact zC (Kd.R_reads' HO329.out).2.2); (case side4 => exact (Kd.R_reads' HO329.out).2.1); rintro e w39 ⟨rfl, hb⟩; have n0_ := Aside0.mk (Kd.N_below (by (with_reducible repeat (first | apply Kd.N_alloc | apply Kd.N_drewN | apply Kd.N_drew)); exact HO303.out) hb); have n1_ := Aside0.mk (Kd.R_below (zR HO307.out) hb); have n2_ := Aside0.mk (Kd.N_below (by (with_reducible repeat (first | apply Kd.N_alloc | apply Kd.N_drewN | apply Kd.N_drew)); exact HO314.out) hb); have n3_ := Aside0.mk (Kd.R_below (zR HO318.out) hb); have n4_ := Aside0.mk (Kd.N_below (by (with_reducible repeat (first | apply Kd.N_alloc | apply Kd.N_drewN | apply Kd.N_drew)); exact HO325.out) hb); have n5_ := Aside0.mk (Kd.R_below (zR HO329.out) hb); have n6_ := Aside0.mk (below_step (zB) hb); clear HO303; clear HO307; clear HO314; clear HO318; clear HO325; clear HO329; clear HB; have HO303 := n0_; have HO307 := n1_; have HO314 := n2_; have HO318 := n3_; have HO325 := n4_; have HO329 := n5_; have HB := n6_; clear n0_ n1_ n2_ n3_ n4_ n5_ n6_; (try clear hb); (try clear hb2); (try clear hk); (try clear hi)))
    go_ret
    exact ⟨zV, zB⟩
  ·rw [if_neg c6] at H
   have c6b0 : (t319 == 0 && (t320 == 0 && (t321 == 1 && (t322 == 11)))) = false := by simpa using c6
   (try (have c6b1 : decide (t319 = 0 && (t320 == 0 && (t321 == 1 && (t322 == 11)))) = false := by simpa using c6))
   (try (have c6b2 : (t319 == 0 && (t320 == 0 && (t321 == 1 && (t322 == 11)))) = false := by simpa using c6))
   (try (have c6b3 : ¬ (t319 = 0 && (t320 == 0 && (t321 == 1 && (t322 == 11)))) := by simpa using c6))
   clear c6
   obtain rfl := Option.some.inj H
   go_enter Try.func8, Try.ntmps8
   go_wp2_with (first | ((with_reducible refine gate_callee (f := 23) rfl ?_); refine goesL_ (some 1) rfl rfl Try.func23 (by kernel_rfl) rfl #[.int .i64 1] rfl zE ?_; (with_reducible refine (balustradelaw16_small.calls 1 t301 t304 t305 _ A1.out).mono ?_); rintro e w40 ⟨v302, v306, rfl, ho0, ho1, hb⟩; refine ⟨_, rfl, ?_⟩; have n0_ := Aside0.mk (Kd.N_lower (Kd.N_mono (ok' := fun k_ => some k_ ≠ (v306 : Value).ownBlock) ho0 (fun k_ hk_ => hk_.2)) (below_size (zB))); have n1_ := Aside0.mk (Kd.R_lower (Kd.R_mono (ok' := fun k_ => True) ho1 (fun _ hk_ => trivial)) (below_size (zB))); have n2_ := Aside0.mk (below_step (zB) hb); clear HB; have HO303 := n0_; have HO307 := n1_; have HB := n2_; clear n0_ n1_ n2_; (try clear hb); (try clear hb2); (try clear hk); (try clear hi); (try clear ho0); (try clear ho1); obtain ⟨Ao41, co41, eo41⟩ := Kd.N_slice HO303.out; subst eo41; obtain ⟨Ao42, co42, eo42⟩ := Kd.R_slice HO307.out; subst eo42) | ((with_reducible refine gate_callee (f := 9) rfl ?_); refine goesL_ (some 2) rfl rfl Try.func9 (by kernel_rfl) rfl #[.agg #[.slice Ao41 t301.length co41, .int .i64 t304, .slice Ao42 t305.length co42]] rfl zE ?_; (with_reducible refine (fun_Check.calls k _ _ t301 t304 _ _ t305 t308 t309 t310 t311 _ ?side1 ?side2 ?side3 ?side4 A2.out).mono ?_); (case side1 => exact zC (Kd.N_reads' HO303.out).2.2); (case side2 => exact (Kd.N_reads' HO303.out).2.1); (case side3 => exact zC (Kd.R_reads' HO307.out).2.2); (case side4 => exact (Kd.R_reads' HO307.out).2.1); rintro e w43 ⟨rfl, hb⟩; refine ⟨_, rfl, ?_⟩; have n0_ := Aside0.mk (Kd.N_below (by (with_reducible repeat (first | apply Kd.N_alloc | apply Kd.N_drewN | apply Kd.N_drew)); exact HO303.out) hb); have n1_ := Aside0.mk (Kd.R_below (zR HO307.out) hb); have n2_ := Aside0.mk (below_step (zB) hb); clear HO303; clear HO307; clear HB; have HO303 := n0_; have HO307 := n1_; have HB := n2_; clear n0_ n1_ n2_; (try clear hb); (try clear hb2); (try clear hk); (try clear hi)) | (go_at_call 23; (with_reducible refine (balustradelaw16_small.calls 0 t312 t315 t316 _ A4.out).mono ?_); rintro e w44 ⟨v313, v317, rfl, ho0, ho1, hb⟩; have n0_ := Aside0.mk (Kd.N_mono (Kd.N_told (Kd.N_told (Kd.N_old (by (with_reducible repeat (first | apply Kd.N_alloc | apply Kd.N_drewN | apply Kd.N_drew)); exact HO303.out) hb) (Kd.N_base ho0)) (Kd.R_base ho1)) (fun _ h_ => h_.1)); have n1_ := Aside0.mk (Kd.R_elder' (zR HO307.out) (Kd.R_base ho1) hb); have n2_ := Aside0.mk (Kd.N_lower (Kd.N_mono (ok' := fun k_ => some k_ ≠ (v317 : Value).ownBlock ∧ some k_ ≠ (.slice Ao41 t301.length co41 : Value).ownBlock ∧ some k_ ≠ (.slice Ao42 t305.length co42 : Value).ownBlock) ho0 (fun k_ hk_ => ⟨hk_.2, (Kd.fresh' (Kd.N_lt (by (with_reducible repeat (first | apply Kd.N_alloc | apply Kd.N_drewN | apply Kd.N_drew)); exact HO303.out)) k_ hk_.1), (Kd.fresh' (Kd.R_lt (zR HO307.out)) k_ hk_.1)⟩)) (below_size (zB))); have n3_ := Aside0.mk (Kd.R_lower (Kd.R_new' (Kd.R_mono (ok' := fun k_ => True) ho1 (fun _ hk_ => trivial)) (Kd.R_lt (zR HO307.out))) (below_size (zB))); have n4_ := Aside0.mk (below_step (zB) hb); clear HO303; clear HO307; clear HB; have HO303 := n0_; have HO307 := n1_; have HO314 := n2_; have HO318 := n3_; have HB := n4_; clear n0_ n1_ n2_ n3_ n4_; (try clear hb); (try clear hb2); (try clear hk); (try clear hi); (try clear ho0); (try clear ho1); obtain ⟨Ao45, co45, eo45⟩ := Kd.N_slice HO314.out; subst eo45; obtain ⟨Ao46, co46, eo46⟩ := Kd.R_slice HO318.out; subst eo46) | (go_at_call 9; (with_reducible refine (fun_Check.calls k _ _ t312 t315 _ _ t316 t319 t320 t321 t322 _ ?side1 ?side2 ?side3 ?side4 A5.out).mono ?_); (case side1 => exact zC (Kd.N_reads' HO314.out).2.2); (case side2 => exact (Kd.N_reads' HO314.out).2.1); (case side3 => exact zC (Kd.R_reads' HO318.out).2.2); (case side4 => exact (Kd.R_reads' HO318.out).2.1); rintro e w47 ⟨rfl, hb⟩; have n0_ := Aside0.mk (Kd.N_below (by (with_reducible repeat (first | apply Kd.N_alloc | apply Kd.N_drewN | apply Kd.N_drew)); exact HO303.out) hb); have n1_ := Aside0.mk (Kd.R_below (zR HO307.out) hb); have n2_ := Aside0.mk (Kd.N_below (by (with_reducible repeat (first | apply Kd.N_alloc | apply Kd.N_drewN | apply Kd.N_drew)); exact HO314.out) hb); have n3_ := Aside0.mk (Kd.R_below (zR HO318.out) hb); have n4_ := Aside0.mk (below_step (zB) hb); clear HO303; clear HO307; clear HO314; clear HO318; clear HB; have HO303 := n0_; have HO307 := n1_; have HO314 := n2_; have HO318 := n3_; have HB := n4_; clear n0_ n1_ n2_ n3_ n4_; (try clear hb); (try clear hb2); (try clear hk); (try clear hi)))
   go_ret
   exact ⟨zV, zB⟩
 ·rw [if_neg c3] at H
  have c3b0 : (t308 == 0 && (t309 == 0 && (t310 == 0 && (t311 == 0)))) = false := by simpa using c3
  (try (have c3b1 : decide (t308 = 0 && (t309 == 0 && (t310 == 0 && (t311 == 0)))) = false := by simpa using c3))
  (try (have c3b2 : (t308 == 0 && (t309 == 0 && (t310 == 0 && (t311 == 0)))) = false := by simpa using c3))
  (try (have c3b3 : ¬ (t308 = 0 && (t309 == 0 && (t310 == 0 && (t311 == 0)))) := by simpa using c3))
  clear c3
  obtain rfl := Option.some.inj H
  go_enter Try.func8, Try.ntmps8
  go_wp2_with (first | ((with_reducible refine gate_callee (f := 23) rfl ?_); refine goesL_ (some 1) rfl rfl Try.func23 (by kernel_rfl) rfl #[.int .i64 1] rfl zE ?_; (with_reducible refine (balustradelaw16_small.calls 1 t301 t304 t305 _ A1.out).mono ?_); rintro e w48 ⟨v302, v306, rfl, ho0, ho1, hb⟩; refine ⟨_, rfl, ?_⟩; have n0_ := Aside0.mk (Kd.N_lower (Kd.N_mono (ok' := fun k_ => some k_ ≠ (v306 : Value).ownBlock) ho0 (fun k_ hk_ => hk_.2)) (below_size (zB))); have n1_ := Aside0.mk (Kd.R_lower (Kd.R_mono (ok' := fun k_ => True) ho1 (fun _ hk_ => trivial)) (below_size (zB))); have n2_ := Aside0.mk (below_step (zB) hb); clear HB; have HO303 := n0_; have HO307 := n1_; have HB := n2_; clear n0_ n1_ n2_; (try clear hb); (try clear hb2); (try clear hk); (try clear hi); (try clear ho0); (try clear ho1); obtain ⟨Ao49, co49, eo49⟩ := Kd.N_slice HO303.out; subst eo49; obtain ⟨Ao50, co50, eo50⟩ := Kd.R_slice HO307.out; subst eo50) | ((with_reducible refine gate_callee (f := 9) rfl ?_); refine goesL_ (some 2) rfl rfl Try.func9 (by kernel_rfl) rfl #[.agg #[.slice Ao49 t301.length co49, .int .i64 t304, .slice Ao50 t305.length co50]] rfl zE ?_; (with_reducible refine (fun_Check.calls k _ _ t301 t304 _ _ t305 t308 t309 t310 t311 _ ?side1 ?side2 ?side3 ?side4 A2.out).mono ?_); (case side1 => exact zC (Kd.N_reads' HO303.out).2.2); (case side2 => exact (Kd.N_reads' HO303.out).2.1); (case side3 => exact zC (Kd.R_reads' HO307.out).2.2); (case side4 => exact (Kd.R_reads' HO307.out).2.1); rintro e w51 ⟨rfl, hb⟩; refine ⟨_, rfl, ?_⟩; have n0_ := Aside0.mk (Kd.N_below (by (with_reducible repeat (first | apply Kd.N_alloc | apply Kd.N_drewN | apply Kd.N_drew)); exact HO303.out) hb); have n1_ := Aside0.mk (Kd.R_below (zR HO307.out) hb); have n2_ := Aside0.mk (below_step (zB) hb); clear HO303; clear HO307; clear HB; have HO303 := n0_; have HO307 := n1_; have HB := n2_; clear n0_ n1_ n2_; (try clear hb); (try clear hb2); (try clear hk); (try clear hi)))
  go_ret
  exact ⟨zV, zB⟩
def balustraderef16_kinds.l0 : Nat → List Int → Int → Option (Bool)
 | 0, _, _ => none
 | k + 1, x0, x3 => if x3 < (x0.length : Int) then (if 0 ≤ x3 then (if (rd x0 x3) < 1 then (some false) else (if (rd x0 x3) > 3 then (some false) else (balustraderef16_kinds.l0 k x0 (wrap64 (x3 + 1))))) else (none)) else (some true)
def balustraderef16_kinds.f (k : Nat) (l0 : List Int) : Option (Bool) := balustraderef16_kinds.l0 k l0 0
set_option maxHeartbeats 8000000 in
set_option maxRecDepth 100000 in
theorem balustraderef16_kinds.calls (k : Nat) (A0 : Option Addr) (c0 : Nat) (l0 : List Int) (r : Bool) (w : World) (hr0 : Kd.C (Kd.int .i64) w A0 l0.length l0) (hc0 : l0.length ≤ c0) (h : balustraderef16_kinds.f k l0 = some r) :
  Calls Try.prog 57 #[.slice A0 l0.length c0] w fun e w' => e = .returned (.bool r) ∧ Drawn0 w w' := by
 have HR0 := Aside0.mk hr0
 have HC0 := Aside0.mk hc0
 clear hr0 hc0
 have H : (balustraderef16_kinds.l0 k l0 0) = some r := h
 clear h
 have H' := Aside0.mk H
 clear H
 go_enter Try.func57, Try.ntmps57
 go_wp2
 go_loopg [3] k (fun kq v3 w' => ∃ (x3_1 : Int), v3 = .int .i64 x3_1 ∧ Aside0 (balustraderef16_kinds.l0 kq l0 x3_1 = some r) ∧ Aside0 (kq ≤ k) ∧ Drawn0 w w')
 case atStart => exact ⟨(0), zQ, H', ⟨Nat.le_refl _⟩, zD⟩
 case round =>
  clear H'
  obtain ⟨x3_1, rfl, HA, HK1, ⟨m1, rfl⟩⟩ := hrel
  cases gk with
  | zero => exact absurd HA.out (by simp [balustraderef16_kinds.l0])
  | succ k1 =>
   have H := HA.out
   clear HA
   simp only [balustraderef16_kinds.l0] at H
   by_cases c2 : x3_1 < (l0.length : Int)
   ·rw [if_pos c2] at H
    have c2b0 : decide (x3_1 < (l0.length : Int)) = true := decide_eq_true c2
    clear c2
    by_cases c3 : 0 ≤ x3_1
    ·rw [if_pos c3] at H
     have c3b0 : decide (0 ≤ x3_1) = true := decide_eq_true c3
     clear c3
     by_cases c4 : (rd l0 x3_1) < 1
     ·rw [if_pos c4] at H
      have c4b0 : decide ((rd l0 x3_1) < 1) = true := decide_eq_true c4
      clear c4
      obtain rfl := Option.some.inj H
      have p339 : 0 ≤ (x3_1 : Int) := zO
      have q339 : x3_1 < (l0.length : Int) := zO
      obtain ⟨ad339, e339, hx339_0⟩ := Kd.at_int HR0.out x3_1 p339 q339
      cases e339
      replace p339 := eq_true p339
      replace q339 := eq_true q339
      go_wp2
      go_ret
      exact ⟨zQ, zD⟩
     ·rw [if_neg c4] at H
      have c4b0 : decide ((rd l0 x3_1) < 1) = false := decide_eq_false c4
      clear c4
      by_cases c5 : (rd l0 x3_1) > 3
      ·rw [if_pos c5] at H
       have c5b0 : decide (3 < (rd l0 x3_1)) = true := decide_eq_true c5
       clear c5
       obtain rfl := Option.some.inj H
       have p339 : 0 ≤ (x3_1 : Int) := zO
       have q339 : x3_1 < (l0.length : Int) := zO
       obtain ⟨ad339, e339, hx339_0⟩ := Kd.at_int HR0.out x3_1 p339 q339
       cases e339
       replace p339 := eq_true p339
       replace q339 := eq_true q339
       have p340 : 0 ≤ (x3_1 : Int) := zO
       have q340 : x3_1 < (l0.length : Int) := zO
       obtain ⟨ad340, e340, hx340_0⟩ := Kd.at_int HR0.out x3_1 p340 q340
       obtain rfl : ad339 = ad340 := (by injection e340)
       replace p340 := eq_true p340
       replace q340 := eq_true q340
       go_wp2
       go_ret
       exact ⟨zQ, zD⟩
      ·rw [if_neg c5] at H
       have c5b0 : decide (3 < (rd l0 x3_1)) = false := decide_eq_false c5
       clear c5
       have H' := Aside0.mk H
       clear H
       have p339 : 0 ≤ (x3_1 : Int) := zO
       have q339 : x3_1 < (l0.length : Int) := zO
       obtain ⟨ad339, e339, hx339_0⟩ := Kd.at_int HR0.out x3_1 p339 q339
       cases e339
       replace p339 := eq_true p339
       replace q339 := eq_true q339
       have p340 : 0 ≤ (x3_1 : Int) := zO
       have q340 : x3_1 < (l0.length : Int) := zO
       obtain ⟨ad340, e340, hx340_0⟩ := Kd.at_int HR0.out x3_1 p340 q340
       obtain rfl : ad339 = ad340 := (by injection e340)
       replace p340 := eq_true p340
       replace q340 := eq_true q340
       go_wp2
       go_roundg k1
       case measure => have := HK1.out; omega
       case rel => exact ⟨(wrap64 (x3_1 + 1)), zQ, H', ⟨by have := HK1.out; omega⟩, zD⟩
    ·rw [if_neg c3] at H
     exact absurd H (by simp)
   ·rw [if_neg c2] at H
    have c2b0 : decide (x3_1 < (l0.length : Int)) = false := decide_eq_false c2
    clear c2
    obtain rfl := Option.some.inj H
    go_wp2
    go_ret
    exact ⟨zQ, zD⟩
end Go.Proofs.Ytgbpkbfghonllaa.P

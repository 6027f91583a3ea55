/- A text of this claim, what is not used left out. -/
import Derived.Test.YtomopjomapkmjaaDrDomX
import Derived.Test.YtomopjomapkmjaaDrP0
import Derived.Test.YtomopjomapkmjaaDrP1
import Derived.Test.YtomopjomapkmjaaDrP6
import Derived.Test.YtomopjomapkmjaaDrP7
import Derived.Test.YtomopjomapkmjaaDrP9
import Derived.Test.YtomopjomapkmjaaDrP12
import Derived.Test.YtomopjomapkmjaaDrP14
import Derived.Deep.RegionHeld3
import Derived.Deep.QuietTactic
import Derived.BigQuiet
import Derived.Deep.DeepCutAuto
import Derived.Deep.RegionWith
import Derived.OpenShut
set_option linter.unusedVariables false
set_option linter.unusedSimpArgs false
namespace Go.Proofs.Ytomopjomapkmjaa.P
open Go Go.RowKit Go.Proofs.YtomopjomapkmjaaW.PrintWords Go.Proofs.YtomopjomapkmjaaW.PrintLast Go.Proofs.YtomopjomapkmjaaW.PrintMore Go.Proofs.Ytomopjomapkmjaa.Pure
theorem goodB_of {bl : List (List S29)} {G : S29 → Prop} {m : Nat} (hm : m = 140737488351232) (h : (∀ b ∈ bl, (∀ i ∈ b, G i) ∧ b.length * 88 ≤ m) ∧ bl.length * 24 ≤ m) (hG : ∀ i, G i → i.f8.length * 8 ≤ m) : GoodB bl ∧ bl.length < 4611686018427387904 :=
  ⟨fun b hb => ⟨by have := (h.1 b hb).2; omega, fun i hi => by have := hG i ((h.1 b hb).1 i hi); omega⟩, by have := h.2; omega⟩
theorem dw_meas (n j : Nat) (x : Int) (hx : x = ((j + 1 : Nat) : Int)) (h : j < n) : n - (intOf (.int .i64 x)).toNat < n - (intOf (.int .i64 (j : Int))).toNat := by
  subst hx
  simp [intOf]
  omega
set_option maxHeartbeats 16000000 in
set_option maxRecDepth 100000 in
theorem balustradelaw28_DomRow.walk (a0_0 : ByteArray) (a0_1 a0_2 : Int) (A0_3 : Option Addr) (c0_3 : Nat) (l0_3 : List Int) (A0_4 : Option Addr) (c0_4 : Nat) (l0_4 : List (List S29)) (a1 a2 a3 : Int) (w : World)
    (hr0_3 : Kd.C (Kd.int .i64) w A0_3 l0_3.length l0_3) (hc0_3 : l0_3.length ≤ c0_3) (hr0_4 : Kd.C (Kd.slice 29 k29) w A0_4 l0_4.length l0_4) (hc0_4 : l0_4.length ≤ c0_4) (hg : GoodB l0_4 ∧ l0_4.length < 4611686018427387904) (w1 : (Lit.int .u8 a1).wf = true) (w2 : (Lit.int .u8 a2).wf = true) (w3 : (Lit.int .u8 a3).wf = true) :
    Calls Try.prog 4 #[.agg #[.string a0_0, .int .i64 a0_1, .int .i64 a0_2, .slice A0_3 l0_3.length c0_3, .slice A0_4 l0_4.length c0_4], .int .u8 a1, .int .u8 a2, .int .u8 a3] w fun e w' => e = .returned (.bool true) ∧ Below w.heap.size w w' := by
  have ha1 : 0 ≤ a1 ∧ a1 < 256 := by have := bounds_u8 w1; omega
  have ha2 : 0 ≤ a2 ∧ a2 < 256 := by have := bounds_u8 w2; omega
  have ha3 : 0 ≤ a3 ∧ a3 < 256 := by have := bounds_u8 w3; omega
  have hu32 := Try.underlying32
  obtain ⟨fv, hfv, hfv2⟩ := few_ev l0_4 a0_0 a0_1 a0_2 l0_3 hg.2
  obtain ⟨kF, hF⟩ := hfv.rounds
  have HF := Aside0.mk hF
  obtain ⟨kw, hkw⟩ := works28_ev.rounds
  have HKW := Aside0.mk hkw
  have hb0 := below_alloc (Below.refl w.heap.size w) (.cells #[.string a0_0, .int .i64 a0_1, .int .i64 a0_2, .slice A0_3 l0_3.length c0_3, .slice A0_4 l0_4.length c0_4] 32)
  have HR3 := Aside0.mk hr0_3
  have HR4 := Aside0.mk hr0_4
  have HC3 := Aside0.mk hc0_3
  have HC4 := Aside0.mk hc0_4
  have HB := Aside0.mk hb0
  have BK := Aside0.mk (blk_new w (.cells #[.string a0_0, .int .i64 a0_1, .int .i64 a0_2, .slice A0_3 l0_3.length c0_3, .slice A0_4 l0_4.length c0_4] 32))
  clear hr0_3 hr0_4 hb0 hF hkw hfv hc0_3 hc0_4 w1 w2 w3
  cases fv with
  | false =>
    clear hfv2 hg
    go_enter Try.func4, Try.ntmps4
    go_wp2_with (first | (go_at_call 17; ((with_reducible refine (balustraderef17_Few.calls kF a0_0 a0_1 a0_2 A0_3 c0_3 l0_3 A0_4 c0_4 l0_4 false _ (Kd.C_below HR3.out (by with_reducible first | exact HB.out | exact below_drew1 HB.out)) HC3.out (Kd.C_below HR4.out (by with_reducible first | exact HB.out | exact below_drew1 HB.out)) HC4.out HF.out).mono ?_); rintro e w' ⟨rfl, hb⟩; replace HB := Aside0.mk (below_step (by with_reducible first | exact HB.out | exact below_drew1 HB.out) hb); replace BK := Aside0.mk (blk_below (by with_reducible first | exact BK.out | exact blk_drew BK.out) hb); have kf0 := blk_cell BK.out 0; have kf1 := blk_cell BK.out 1; have kf2 := blk_cell BK.out 2; have kf3 := blk_cell BK.out 3; have kf4 := blk_cell BK.out 4; simp only [List.getElem?_toArray, List.getElem?_cons_zero, List.getElem?_cons_succ] at kf0 kf1 kf2 kf3 kf4; clear hb)) | (go_at_call 18; ((with_reducible refine (balustradelaw28_works.calls kw true _ HKW.out).mono ?_); rintro e w' ⟨rfl, hb⟩; replace HB := Aside0.mk (below_step (by with_reducible first | exact HB.out | exact below_drew1 HB.out) hb); clear hb)))
    go_ret
    exact ⟨rfl, HB.out⟩
  | true =>
    have h40 := hfv2 rfl
    by_cases hz : l0_4.length = 0
    · have t1 : ((l0_4.length : Int) == 0) = true := beq_iff_eq.mpr (by omega)
      have t2 : decide ((l0_4.length : Int) = 0) = true := decide_eq_true (by omega)
      have t3 : (l0_4.length == 0) = true := beq_iff_eq.mpr hz
      have t4 : decide (l0_4.length = 0) = true := decide_eq_true hz
      clear hfv2 hg h40 hz
      go_enter Try.func4, Try.ntmps4
      go_wp2_with (first | (go_at_call 17; ((with_reducible refine (balustraderef17_Few.calls kF a0_0 a0_1 a0_2 A0_3 c0_3 l0_3 A0_4 c0_4 l0_4 true _ (Kd.C_below HR3.out (by with_reducible first | exact HB.out | exact below_drew1 HB.out)) HC3.out (Kd.C_below HR4.out (by with_reducible first | exact HB.out | exact below_drew1 HB.out)) HC4.out HF.out).mono ?_); rintro e w' ⟨rfl, hb⟩; replace HB := Aside0.mk (below_step (by with_reducible first | exact HB.out | exact below_drew1 HB.out) hb); replace BK := Aside0.mk (blk_below (by with_reducible first | exact BK.out | exact blk_drew BK.out) hb); have kf0 := blk_cell BK.out 0; have kf1 := blk_cell BK.out 1; have kf2 := blk_cell BK.out 2; have kf3 := blk_cell BK.out 3; have kf4 := blk_cell BK.out 4; simp only [List.getElem?_toArray, List.getElem?_cons_zero, List.getElem?_cons_succ] at kf0 kf1 kf2 kf3 kf4; clear hb)) | (go_at_call 18; ((with_reducible refine (balustradelaw28_works.calls kw true _ HKW.out).mono ?_); rintro e w' ⟨rfl, hb⟩; replace HB := Aside0.mk (below_step (by with_reducible first | exact HB.out | exact below_drew1 HB.out) hb); clear hb)))
      go_ret
      exact ⟨rfl, HB.out⟩
    have t1 : ((l0_4.length : Int) == 0) = false := beq_eq_false_iff_ne.mpr (by omega)
    have t2 : decide ((l0_4.length : Int) = 0) = false := decide_eq_false (by omega)
    have t3 : (l0_4.length == 0) = false := beq_eq_false_iff_ne.mpr hz
    have t4 : decide (l0_4.length = 0) = false := decide_eq_false hz
    have t5 : ¬ ((l0_4.length : Int) = 0) := by omega
    have hln := succsV_len l0_4
    have hv : ∀ l ∈ succsV l0_4, ∀ t ∈ l, 0 ≤ t ∧ t < ((succsV l0_4).length : Int) := fun l h => (succsV_good l0_4 l h).2
    have hne : succsV l0_4 ≠ [] := fun e => by rw [e] at hln; simp at hln; omega
    obtain ⟨tv, T, htr, dt⟩ := tree_ev l0_4 a0_0 a0_1 a0_2 l0_3 h40 hg.1
    obtain ⟨x, hx, hxn⟩ := mod_at a1 (l0_4.length : Int) ha1.1 ha1.2 (by omega)
    have AX := Aside0.mk (show a1 % (l0_4.length : Int) = (x : Int) by rw [← hx, wrap_id (by omega) (by omega), Int.tmod_eq_emod_of_nonneg ha1.1])
    have AXB := Aside0.mk hx
    obtain ⟨y, hy, hyn⟩ := mod_at a2 (l0_4.length : Int) ha2.1 ha2.2 (by omega)
    have AY := Aside0.mk (show a2 % (l0_4.length : Int) = (y : Int) by rw [← hy, wrap_id (by omega) (by omega), Int.tmod_eq_emod_of_nonneg ha2.1])
    have AYB := Aside0.mk hy
    obtain ⟨z, hz, hzn⟩ := mod_at a3 (l0_4.length : Int) ha3.1 ha3.2 (by omega)
    have AZ := Aside0.mk (show a3 % (l0_4.length : Int) = (z : Int) by rw [← hz, wrap_id (by omega) (by omega), Int.tmod_eq_emod_of_nonneg ha3.1])
    have AZB := Aside0.mk hz
    have hP := rPreds_ev l0_4 a0_0 a0_1 a0_2 l0_3 h40 hg.1
    have hR : Ev (fun k => balustraderef17_Reach.f k a0_0 a0_1 a0_2 l0_3 l0_4) (gtAll (succsV l0_4) (-1)).1 := Ev.bind (rWithout_ev l0_4 a0_0 a0_1 a0_2 l0_3 (-1) h40 hg.1) (Ev.now _)
    have hD := fun i j : Nat => fun (hi : i < (succsV l0_4).length) (hj : j < (succsV l0_4).length) => (dominates_val (by omega) hv hne dt i j hi hj).rounds
    have hE1 := dr_row (by omega) hv hne dt x y z
    have hE2 := fun p => dr_pred (by omega) hv hne dt x z p
    obtain ⟨sv, hsv⟩ : ∃ v, succsV l0_4 = v := ⟨_, rfl⟩
    rw [hsv] at hP hR hD hE1 hE2 hln
    have hrow : rd_L2 (prV sv sv.length) (z : Int) = prRow sv sv.length z := by rw [prV_at sv _ (by omega) (by omega)]; rfl
    have hpl : (prV sv sv.length).length = sv.length := by simp [prV]
    have hprl := prRow_len sv sv.length z
    have hpm := fun p => (prRow_mem sv sv.length z p).1
    obtain ⟨pv, hpv⟩ : ∃ v, prV sv sv.length = v := ⟨_, rfl⟩
    obtain ⟨pr, hpr⟩ : ∃ v, prRow sv sv.length z = v := ⟨_, rfl⟩
    have hl2 := gtAll_len sv (-1)
    obtain ⟨rv, hrv⟩ : ∃ v, (gtAll sv (-1)).1 = v := ⟨_, rfl⟩
    obtain ⟨dv, hdv⟩ : ∃ v : Nat → Nat → Bool, (fun i j => domB sv i j) = v := ⟨_, rfl⟩
    have hdv' : ∀ i j, domB sv i j = dv i j := fun i j => congrFun (congrFun hdv i) j
    simp only [hdv'] at hD hE1 hE2
    rw [hpr] at hrow hprl hpm
    rw [hpv] at hP hpl hrow
    rw [hrv] at hR hl2
    simp only [hrv, hpr] at hE2
    obtain ⟨khtr, htr⟩ := htr.rounds
    have Ahtr := Aside0.mk htr
    obtain ⟨khP, hP⟩ := hP.rounds
    have AhP := Aside0.mk hP
    obtain ⟨khR, hR⟩ := hR.rounds
    have AhR := Aside0.mk hR
    have AD := Aside0.mk hD
    have AE1 := Aside0.mk hE1
    have AE2 := Aside0.mk hE2
    have APM := Aside0.mk hpm
    have AROW := Aside0.mk hrow
    have ALN : Aside0 (pv.length = l0_4.length ∧ rv.length = l0_4.length ∧ x < l0_4.length ∧ y < l0_4.length ∧ z < l0_4.length ∧ sv.length = l0_4.length ∧ l0_4.length ≤ 40 ∧ pr.length ≤ 40) := ⟨⟨by omega, by omega, by omega, by omega, by omega, hln, h40, by omega⟩⟩
    clear htr hP hR hD hE1 hE2 hln hv hne hl2 hrv hdv hdv' hsv dt hxn hx hyn hy hzn hz h40 hfv2 hg hrow hpl hprl hpm hpv hpr ha1 ha2 ha3
    go_enter Try.func4, Try.ntmps4
    go_upto_region 5 with (first | (go_at_call 17; ((with_reducible refine (balustraderef17_Few.calls kF a0_0 a0_1 a0_2 A0_3 c0_3 l0_3 A0_4 c0_4 l0_4 true _ (Kd.C_below HR3.out (by with_reducible first | exact HB.out | exact below_drew1 HB.out)) HC3.out (Kd.C_below HR4.out (by with_reducible first | exact HB.out | exact below_drew1 HB.out)) HC4.out HF.out).mono ?_); rintro e w' ⟨rfl, hb⟩; replace HB := Aside0.mk (below_step (by with_reducible first | exact HB.out | exact below_drew1 HB.out) hb); replace BK := Aside0.mk (blk_below (by with_reducible first | exact BK.out | exact blk_drew BK.out) hb); have kf0 := blk_cell BK.out 0; have kf1 := blk_cell BK.out 1; have kf2 := blk_cell BK.out 2; have kf3 := blk_cell BK.out 3; have kf4 := blk_cell BK.out 4; simp only [List.getElem?_toArray, List.getElem?_cons_zero, List.getElem?_cons_succ] at kf0 kf1 kf2 kf3 kf4; clear hb)) | (go_at_call 19; ((with_reducible refine (dom_Tree.calls khtr a0_0 a0_1 a0_2 A0_3 c0_3 l0_3 A0_4 c0_4 l0_4 tv _ (Kd.C_below HR3.out (by with_reducible first | exact HB.out | exact below_drew1 HB.out)) HC3.out (Kd.C_below HR4.out (by with_reducible first | exact HB.out | exact below_drew1 HB.out)) HC4.out Ahtr.out).mono ?_); rintro e w' ⟨v_, rfl, hR_, hb⟩; obtain ⟨At, ct, rfl⟩ := Kd.R_slice hR_; have RT := Aside0.mk (Kd.R_lower hR_ (below_size (by with_reducible first | exact HB.out | exact below_drew1 HB.out))); replace HB := Aside0.mk (below_step (by with_reducible first | exact HB.out | exact below_drew1 HB.out) hb); replace BK := Aside0.mk (blk_below (by with_reducible first | exact BK.out | exact blk_drew BK.out) hb); have kt0 := blk_cell BK.out 0; have kt1 := blk_cell BK.out 1; have kt2 := blk_cell BK.out 2; have kt3 := blk_cell BK.out 3; have kt4 := blk_cell BK.out 4; simp only [List.getElem?_toArray, List.getElem?_cons_zero, List.getElem?_cons_succ] at kt0 kt1 kt2 kt3 kt4; clear hb hR_)))
    go_quiet (fail)
    replace HB := Aside0.mk (pw_below_drewN HB.out nq)
    replace BK := Aside0.mk (blk_drewN BK.out nq)
    replace RT := Aside0.mk (Kd.R_drewN RT.out nq)
    (try simp only [AX.out, AY.out, AZ.out, AXB.out, AYB.out, AZB.out])
    go_upto_region 6 with (fail)
    (try simp only [AX.out, AY.out, AZ.out, AXB.out, AYB.out, AZB.out])
    go_cut [67] (fun v67 wc => v67 = .bool false ∧ Aside0 (wc.heap[w.heap.size]? = some (.cells #[.string a0_0, .int .i64 a0_1, .int .i64 a0_2, .slice A0_3 l0_3.length c0_3, .slice A0_4 l0_4.length c0_4] 32 (0, 0))) ∧ Aside0 (Below w.heap.size w wc) ∧ Aside0 ((Kd.int .i64).R 3 wc w.heap.size (fun _ => True) (.slice At tv.length ct) tv))
    case first =>
      obtain ⟨k0, h0⟩ := AD.out x z (by have := ALN.out; omega) (by have := ALN.out; omega)
      obtain ⟨k1, h1⟩ := AD.out y z (by have := ALN.out; omega) (by have := ALN.out; omega)
      obtain ⟨k2, h2⟩ := AD.out x y (by have := ALN.out; omega) (by have := ALN.out; omega)
      obtain ⟨k3, h3⟩ := AD.out y x (by have := ALN.out; omega) (by have := ALN.out; omega)
      have hE := AE1.out
      obtain ⟨d0, e0⟩ : ∃ b, dv x z = b := ⟨_, rfl⟩
      rw [e0] at h0 hE
      have H0 := Aside0.mk h0
      clear h0 e0
      obtain ⟨d1, e1⟩ : ∃ b, dv y z = b := ⟨_, rfl⟩
      rw [e1] at h1 hE
      have H1 := Aside0.mk h1
      clear h1 e1
      obtain ⟨d2, e2⟩ : ∃ b, dv x y = b := ⟨_, rfl⟩
      rw [e2] at h2 hE
      have H2 := Aside0.mk h2
      clear h2 e2
      obtain ⟨d3, e3⟩ : ∃ b, dv y x = b := ⟨_, rfl⟩
      rw [e3] at h3 hE
      have H3 := Aside0.mk h3
      clear h3 e3
      cases d0 with
      | false =>
        go_wp2_with (first | (go_at_call 20; ((with_reducible refine (dom_Dominates.calls k0 At ct tv (x : Int) (z : Int) false _ (Kd.R_reads' RT.out).2.2 (Kd.R_reads' RT.out).2.1 H0.out).mono ?_); rintro e w' ⟨rfl, hb⟩; obtain ⟨nd, rfl⟩ := hb; replace HB := Aside0.mk (pw_below_drewN HB.out nd); (try (replace BK := Aside0.mk (blk_drewN BK.out nd))); replace RT := Aside0.mk (Kd.R_drewN RT.out nd); skip)) | (go_at_call 20; (have RT_ := RT.out; simp only [World.drewN_drewN] at RT_; (with_reducible refine (dom_Dominates.calls k0 At ct tv (x : Int) (z : Int) false _ (Kd.R_reads' RT_).2.2 (Kd.R_reads' RT_).2.1 H0.out).mono ?_); rintro e w' ⟨rfl, hb⟩; clear RT_; obtain ⟨nd, rfl⟩ := hb; replace HB := Aside0.mk (pw_below_drewN HB.out nd); (try (replace BK := Aside0.mk (blk_drewN BK.out nd))); replace RT := Aside0.mk (Kd.R_drewN RT.out nd); skip)))
        go_meet
        case rel => exact ⟨rfl, ⟨(by first | exact BK.out | (have h_ := BK.out; simp only [World.drewN_drewN] at h_; exact h_))⟩, ⟨(by first | exact HB.out | (have h_ := HB.out; simp only [World.drewN_drewN] at h_; exact h_))⟩, ⟨(by first | exact RT.out | (have h_ := RT.out; simp only [World.drewN_drewN] at h_; exact h_))⟩⟩
      | true =>
        cases d1 with
        | false =>
          go_wp2_with (first | (go_at_call 20; ((with_reducible refine (dom_Dominates.calls k0 At ct tv (x : Int) (z : Int) true _ (Kd.R_reads' RT.out).2.2 (Kd.R_reads' RT.out).2.1 H0.out).mono ?_); rintro e w' ⟨rfl, hb⟩; obtain ⟨nd, rfl⟩ := hb; replace HB := Aside0.mk (pw_below_drewN HB.out nd); (try (replace BK := Aside0.mk (blk_drewN BK.out nd))); replace RT := Aside0.mk (Kd.R_drewN RT.out nd); skip)) | (go_at_call 20; (have RT_ := RT.out; simp only [World.drewN_drewN] at RT_; (with_reducible refine (dom_Dominates.calls k0 At ct tv (x : Int) (z : Int) true _ (Kd.R_reads' RT_).2.2 (Kd.R_reads' RT_).2.1 H0.out).mono ?_); rintro e w' ⟨rfl, hb⟩; clear RT_; obtain ⟨nd, rfl⟩ := hb; replace HB := Aside0.mk (pw_below_drewN HB.out nd); (try (replace BK := Aside0.mk (blk_drewN BK.out nd))); replace RT := Aside0.mk (Kd.R_drewN RT.out nd); skip)) | (go_at_call 20; ((with_reducible refine (dom_Dominates.calls k1 At ct tv (y : Int) (z : Int) false _ (Kd.R_reads' RT.out).2.2 (Kd.R_reads' RT.out).2.1 H1.out).mono ?_); rintro e w' ⟨rfl, hb⟩; obtain ⟨nd, rfl⟩ := hb; replace HB := Aside0.mk (pw_below_drewN HB.out nd); (try (replace BK := Aside0.mk (blk_drewN BK.out nd))); replace RT := Aside0.mk (Kd.R_drewN RT.out nd); skip)) | (go_at_call 20; (have RT_ := RT.out; simp only [World.drewN_drewN] at RT_; (with_reducible refine (dom_Dominates.calls k1 At ct tv (y : Int) (z : Int) false _ (Kd.R_reads' RT_).2.2 (Kd.R_reads' RT_).2.1 H1.out).mono ?_); rintro e w' ⟨rfl, hb⟩; clear RT_; obtain ⟨nd, rfl⟩ := hb; replace HB := Aside0.mk (pw_below_drewN HB.out nd); (try (replace BK := Aside0.mk (blk_drewN BK.out nd))); replace RT := Aside0.mk (Kd.R_drewN RT.out nd); skip)))
          go_meet
          case rel => exact ⟨rfl, ⟨(by first | exact BK.out | (have h_ := BK.out; simp only [World.drewN_drewN] at h_; exact h_))⟩, ⟨(by first | exact HB.out | (have h_ := HB.out; simp only [World.drewN_drewN] at h_; exact h_))⟩, ⟨(by first | exact RT.out | (have h_ := RT.out; simp only [World.drewN_drewN] at h_; exact h_))⟩⟩
        | true =>
          cases d2 with
          | true =>
            go_wp2_with (first | (go_at_call 20; ((with_reducible refine (dom_Dominates.calls k0 At ct tv (x : Int) (z : Int) true _ (Kd.R_reads' RT.out).2.2 (Kd.R_reads' RT.out).2.1 H0.out).mono ?_); rintro e w' ⟨rfl, hb⟩; obtain ⟨nd, rfl⟩ := hb; replace HB := Aside0.mk (pw_below_drewN HB.out nd); (try (replace BK := Aside0.mk (blk_drewN BK.out nd))); replace RT := Aside0.mk (Kd.R_drewN RT.out nd); skip)) | (go_at_call 20; (have RT_ := RT.out; simp only [World.drewN_drewN] at RT_; (with_reducible refine (dom_Dominates.calls k0 At ct tv (x : Int) (z : Int) true _ (Kd.R_reads' RT_).2.2 (Kd.R_reads' RT_).2.1 H0.out).mono ?_); rintro e w' ⟨rfl, hb⟩; clear RT_; obtain ⟨nd, rfl⟩ := hb; replace HB := Aside0.mk (pw_below_drewN HB.out nd); (try (replace BK := Aside0.mk (blk_drewN BK.out nd))); replace RT := Aside0.mk (Kd.R_drewN RT.out nd); skip)) | (go_at_call 20; ((with_reducible refine (dom_Dominates.calls k1 At ct tv (y : Int) (z : Int) true _ (Kd.R_reads' RT.out).2.2 (Kd.R_reads' RT.out).2.1 H1.out).mono ?_); rintro e w' ⟨rfl, hb⟩; obtain ⟨nd, rfl⟩ := hb; replace HB := Aside0.mk (pw_below_drewN HB.out nd); (try (replace BK := Aside0.mk (blk_drewN BK.out nd))); replace RT := Aside0.mk (Kd.R_drewN RT.out nd); skip)) | (go_at_call 20; (have RT_ := RT.out; simp only [World.drewN_drewN] at RT_; (with_reducible refine (dom_Dominates.calls k1 At ct tv (y : Int) (z : Int) true _ (Kd.R_reads' RT_).2.2 (Kd.R_reads' RT_).2.1 H1.out).mono ?_); rintro e w' ⟨rfl, hb⟩; clear RT_; obtain ⟨nd, rfl⟩ := hb; replace HB := Aside0.mk (pw_below_drewN HB.out nd); (try (replace BK := Aside0.mk (blk_drewN BK.out nd))); replace RT := Aside0.mk (Kd.R_drewN RT.out nd); skip)) | (go_at_call 20; ((with_reducible refine (dom_Dominates.calls k2 At ct tv (x : Int) (y : Int) true _ (Kd.R_reads' RT.out).2.2 (Kd.R_reads' RT.out).2.1 H2.out).mono ?_); rintro e w' ⟨rfl, hb⟩; obtain ⟨nd, rfl⟩ := hb; replace HB := Aside0.mk (pw_below_drewN HB.out nd); (try (replace BK := Aside0.mk (blk_drewN BK.out nd))); replace RT := Aside0.mk (Kd.R_drewN RT.out nd); skip)) | (go_at_call 20; (have RT_ := RT.out; simp only [World.drewN_drewN] at RT_; (with_reducible refine (dom_Dominates.calls k2 At ct tv (x : Int) (y : Int) true _ (Kd.R_reads' RT_).2.2 (Kd.R_reads' RT_).2.1 H2.out).mono ?_); rintro e w' ⟨rfl, hb⟩; clear RT_; obtain ⟨nd, rfl⟩ := hb; replace HB := Aside0.mk (pw_below_drewN HB.out nd); (try (replace BK := Aside0.mk (blk_drewN BK.out nd))); replace RT := Aside0.mk (Kd.R_drewN RT.out nd); skip)))
            go_meet
            case rel => exact ⟨rfl, ⟨(by first | exact BK.out | (have h_ := BK.out; simp only [World.drewN_drewN] at h_; exact h_))⟩, ⟨(by first | exact HB.out | (have h_ := HB.out; simp only [World.drewN_drewN] at h_; exact h_))⟩, ⟨(by first | exact RT.out | (have h_ := RT.out; simp only [World.drewN_drewN] at h_; exact h_))⟩⟩
          | false =>
            obtain rfl : d3 = true := hE rfl rfl rfl
            go_wp2_with (first | (go_at_call 20; ((with_reducible refine (dom_Dominates.calls k0 At ct tv (x : Int) (z : Int) true _ (Kd.R_reads' RT.out).2.2 (Kd.R_reads' RT.out).2.1 H0.out).mono ?_); rintro e w' ⟨rfl, hb⟩; obtain ⟨nd, rfl⟩ := hb; replace HB := Aside0.mk (pw_below_drewN HB.out nd); (try (replace BK := Aside0.mk (blk_drewN BK.out nd))); replace RT := Aside0.mk (Kd.R_drewN RT.out nd); skip)) | (go_at_call 20; (have RT_ := RT.out; simp only [World.drewN_drewN] at RT_; (with_reducible refine (dom_Dominates.calls k0 At ct tv (x : Int) (z : Int) true _ (Kd.R_reads' RT_).2.2 (Kd.R_reads' RT_).2.1 H0.out).mono ?_); rintro e w' ⟨rfl, hb⟩; clear RT_; obtain ⟨nd, rfl⟩ := hb; replace HB := Aside0.mk (pw_below_drewN HB.out nd); (try (replace BK := Aside0.mk (blk_drewN BK.out nd))); replace RT := Aside0.mk (Kd.R_drewN RT.out nd); skip)) | (go_at_call 20; ((with_reducible refine (dom_Dominates.calls k1 At ct tv (y : Int) (z : Int) true _ (Kd.R_reads' RT.out).2.2 (Kd.R_reads' RT.out).2.1 H1.out).mono ?_); rintro e w' ⟨rfl, hb⟩; obtain ⟨nd, rfl⟩ := hb; replace HB := Aside0.mk (pw_below_drewN HB.out nd); (try (replace BK := Aside0.mk (blk_drewN BK.out nd))); replace RT := Aside0.mk (Kd.R_drewN RT.out nd); skip)) | (go_at_call 20; (have RT_ := RT.out; simp only [World.drewN_drewN] at RT_; (with_reducible refine (dom_Dominates.calls k1 At ct tv (y : Int) (z : Int) true _ (Kd.R_reads' RT_).2.2 (Kd.R_reads' RT_).2.1 H1.out).mono ?_); rintro e w' ⟨rfl, hb⟩; clear RT_; obtain ⟨nd, rfl⟩ := hb; replace HB := Aside0.mk (pw_below_drewN HB.out nd); (try (replace BK := Aside0.mk (blk_drewN BK.out nd))); replace RT := Aside0.mk (Kd.R_drewN RT.out nd); skip)) | (go_at_call 20; ((with_reducible refine (dom_Dominates.calls k2 At ct tv (x : Int) (y : Int) false _ (Kd.R_reads' RT.out).2.2 (Kd.R_reads' RT.out).2.1 H2.out).mono ?_); rintro e w' ⟨rfl, hb⟩; obtain ⟨nd, rfl⟩ := hb; replace HB := Aside0.mk (pw_below_drewN HB.out nd); (try (replace BK := Aside0.mk (blk_drewN BK.out nd))); replace RT := Aside0.mk (Kd.R_drewN RT.out nd); skip)) | (go_at_call 20; (have RT_ := RT.out; simp only [World.drewN_drewN] at RT_; (with_reducible refine (dom_Dominates.calls k2 At ct tv (x : Int) (y : Int) false _ (Kd.R_reads' RT_).2.2 (Kd.R_reads' RT_).2.1 H2.out).mono ?_); rintro e w' ⟨rfl, hb⟩; clear RT_; obtain ⟨nd, rfl⟩ := hb; replace HB := Aside0.mk (pw_below_drewN HB.out nd); (try (replace BK := Aside0.mk (blk_drewN BK.out nd))); replace RT := Aside0.mk (Kd.R_drewN RT.out nd); skip)) | (go_at_call 20; ((with_reducible refine (dom_Dominates.calls k3 At ct tv (y : Int) (x : Int) true _ (Kd.R_reads' RT.out).2.2 (Kd.R_reads' RT.out).2.1 H3.out).mono ?_); rintro e w' ⟨rfl, hb⟩; obtain ⟨nd, rfl⟩ := hb; replace HB := Aside0.mk (pw_below_drewN HB.out nd); (try (replace BK := Aside0.mk (blk_drewN BK.out nd))); replace RT := Aside0.mk (Kd.R_drewN RT.out nd); skip)) | (go_at_call 20; (have RT_ := RT.out; simp only [World.drewN_drewN] at RT_; (with_reducible refine (dom_Dominates.calls k3 At ct tv (y : Int) (x : Int) true _ (Kd.R_reads' RT_).2.2 (Kd.R_reads' RT_).2.1 H3.out).mono ?_); rintro e w' ⟨rfl, hb⟩; clear RT_; obtain ⟨nd, rfl⟩ := hb; replace HB := Aside0.mk (pw_below_drewN HB.out nd); (try (replace BK := Aside0.mk (blk_drewN BK.out nd))); replace RT := Aside0.mk (Kd.R_drewN RT.out nd); skip)))
            go_meet
            case rel => exact ⟨rfl, ⟨(by first | exact BK.out | (have h_ := BK.out; simp only [World.drewN_drewN] at h_; exact h_))⟩, ⟨(by first | exact HB.out | (have h_ := HB.out; simp only [World.drewN_drewN] at h_; exact h_))⟩, ⟨(by first | exact RT.out | (have h_ := RT.out; simp only [World.drewN_drewN] at h_; exact h_))⟩⟩
    case rest =>
    clear BK HB RT
    obtain ⟨rfl, BK, HB, RT⟩ := hcut
    obtain ⟨W1, hW1⟩ : ∃ q, q = wc := ⟨_, rfl⟩
    subst hW1
    go_upto_region 8 with (fail)
    go_cut [14, 15] (fun v14 v15 wc => ∃ (Ap : Option Addr) (cp : Nat) (Ar : Option Addr) (cr : Nat), v14 = .slice Ap pr.length cp ∧ v15 = .slice Ar rv.length cr ∧ Aside0 ((Kd.int .i64).C wc Ap pr.length pr) ∧ Aside0 ((Kd.bool).R 4 wc w.heap.size (fun _ => True) (.slice Ar rv.length cr) rv) ∧ Aside0 (wc.heap[w.heap.size]? = some (.cells #[.string a0_0, .int .i64 a0_1, .int .i64 a0_2, .slice A0_3 l0_3.length c0_3, .slice A0_4 l0_4.length c0_4] 32 (0, 0))) ∧ Aside0 (Below w.heap.size w wc) ∧ Aside0 ((Kd.int .i64).R 3 wc w.heap.size (fun _ => True) (.slice At tv.length ct) tv))
    case first =>
      have c0 := blk_cell BK.out 0
      have c1 := blk_cell BK.out 1
      have c2 := blk_cell BK.out 2
      have c3 := blk_cell BK.out 3
      have c4 := blk_cell BK.out 4
      simp only [List.getElem?_toArray, List.getElem?_cons_zero, List.getElem?_cons_succ] at c0 c1 c2 c3 c4
      have pz0 : (0 : Int) ≤ (z : Int) := by omega
      have pz1 : (z : Int) < (pv.length : Int) := by have := ALN.out; omega
      go_region_with (first | (go_at_call 21; ((with_reducible refine (balustraderef17_Preds.calls khP a0_0 a0_1 a0_2 A0_3 c0_3 l0_3 A0_4 c0_4 l0_4 pv _ (Kd.C_below HR3.out (by with_reducible first | exact HB.out | exact below_drew1 HB.out)) HC3.out (Kd.C_below HR4.out (by with_reducible first | exact HB.out | exact below_drew1 HB.out)) HC4.out AhP.out).mono ?_); rintro e w' ⟨v_, rfl, hS_, hb⟩; obtain ⟨Av, cv, rfl⟩ := Kd.S_slice hS_; obtain ⟨adp, Ap, cp, eAp, cpv, hcp, hCp⟩ := at_L2 (Kd.S_reads' hS_).2.2 (z : Int) pz0 pz1; rw [AROW.out] at cpv hcp hCp; subst eAp; have HCp := Aside0.mk hCp; have HCPl := Aside0.mk hcp; (try simp only [Int.toNat_natCast] at cpv); clear hcp hCp; replace HB := Aside0.mk (below_step (by with_reducible first | exact HB.out | exact below_drew1 HB.out) hb); replace BK := Aside0.mk (blk_below (by with_reducible first | exact BK.out | exact blk_drew BK.out) hb); replace RT := Aside0.mk (Kd.R_below (by with_reducible first | exact RT.out | exact Kd.R_drew RT.out) hb); have kp0 := blk_cell BK.out 0; have kp1 := blk_cell BK.out 1; have kp2 := blk_cell BK.out 2; have kp3 := blk_cell BK.out 3; have kp4 := blk_cell BK.out 4; simp only [List.getElem?_toArray, List.getElem?_cons_zero, List.getElem?_cons_succ] at kp0 kp1 kp2 kp3 kp4; clear hb hS_)) | (go_at_call 22; ((with_reducible refine (balustraderef17_Reach.calls khR a0_0 a0_1 a0_2 A0_3 c0_3 l0_3 A0_4 c0_4 l0_4 rv _ (Kd.C_below HR3.out (by with_reducible first | exact HB.out | exact below_drew1 HB.out)) HC3.out (Kd.C_below HR4.out (by with_reducible first | exact HB.out | exact below_drew1 HB.out)) HC4.out AhR.out).mono ?_); rintro e w' ⟨v_, rfl, hR_, hb⟩; obtain ⟨Ar, cr, rfl⟩ := Kd.R_slice hR_; have RR := Aside0.mk (Kd.R_lower hR_ (below_size (by with_reducible first | exact HB.out | exact below_drew1 HB.out))); have cpv2 := (hb.cell (block_lt_of_cell cpv)).trans cpv; replace HCp := Aside0.mk (Kd.C_below HCp.out hb); replace HB := Aside0.mk (below_step (by with_reducible first | exact HB.out | exact below_drew1 HB.out) hb); replace BK := Aside0.mk (blk_below (by with_reducible first | exact BK.out | exact blk_drew BK.out) hb); replace RT := Aside0.mk (Kd.R_below (by with_reducible first | exact RT.out | exact Kd.R_drew RT.out) hb); clear hb hR_)))
      all_goals (go_wp2_with (fail))
      all_goals go_meet
      all_goals exact ⟨Ap, cp, Ar, cr, rfl, rfl, ⟨HCp.out⟩, ⟨RR.out⟩, ⟨BK.out⟩, ⟨HB.out⟩, ⟨RT.out⟩⟩
    case rest =>
    clear BK HB RT
    obtain ⟨Ap, cp, Ar, cr, rfl, rfl, HP, RR, BK, HB, RT⟩ := hcut
    obtain ⟨W2, hW2⟩ : ∃ q, q = wc := ⟨_, rfl⟩
    subst hW2
    go_wp2_with (fail)
    go_loopw [16] (fun v16 wr => ∃ j : Nat, v16 = .int .i64 (j : Int) ∧ Aside0 (j ≤ pr.length) ∧ Aside0 (Below w.heap.size w wr) ∧ Aside0 ((Kd.int .i64).R 3 wr w.heap.size (fun _ => True) (.slice At tv.length ct) tv) ∧ Aside0 ((Kd.int .i64).C wr Ap pr.length pr) ∧ Aside0 ((Kd.bool).R 4 wr w.heap.size (fun _ => True) (.slice Ar rv.length cr) rv)) (fun v16 wr => pr.length - (intOf v16).toNat)
    case atStart => exact ⟨0, rfl, ⟨Nat.zero_le _⟩, ⟨HB.out⟩, ⟨RT.out⟩, ⟨HP.out⟩, ⟨RR.out⟩⟩
    case round =>
    clear HB RT HP RR
    obtain ⟨j, rfl, HJ, HB, RT, HP, RR⟩ := hrel
    by_cases hlt : j < pr.length
    · have HLT := Aside0.mk hlt
      have t6 : decide ((j : Int) < (pr.length : Int)) = true := decide_eq_true (by omega)
      have p1 : (0 : Int) ≤ (j : Int) := by omega
      have p2 : (j : Int) < (pr.length : Int) := by omega
      have hwr : wrap64 ((j : Int) + 1) = ((j + 1 : Nat) : Int) := by have := ALN.out; unfold wrap64; omega
      have HWR := Aside0.mk hwr
      clear hwr
      obtain ⟨hp0, hp1, _⟩ := APM.out pr[j] (List.getElem_mem hlt)
      have hE2 := AE2.out pr[j]
      have hmem : pr[j] ∈ pr := List.getElem_mem hlt
      obtain ⟨p, hp⟩ : ∃ p : Nat, pr[j] = (p : Int) := ⟨pr[j].toNat, by omega⟩
      obtain ⟨qp, eqp, cp_⟩ := Kd.at_int HP.out (j : Int) p1 p2
      have erd : rd pr (j : Int) = (p : Int) := (rd_nat pr j hlt).trans hp
      rw [erd] at cp_
      subst eqp
      (try simp only [Int.toNat_natCast] at cp_)
      rw [hp] at hE2 hp0 hp1 hmem
      rw [Int.toNat_natCast] at hE2
      have p3 : (p : Int) < (rv.length : Int) := by have := ALN.out; omega
      have p4 : (0 : Int) ≤ (p : Int) := by omega
      obtain ⟨qr, eqr, cr_⟩ := Kd.at_bool (Kd.R_reads' RR.out).2.2 (p : Int) p4 p3
      have er : rdOf false rv (p : Int) = rv.getD p false := rfl
      rw [er] at cr_
      subst eqr
      (try simp only [Int.toNat_natCast] at cr_)
      obtain ⟨k0, h0⟩ := AD.out x z (by have := ALN.out; omega) (by have := ALN.out; omega)
      obtain ⟨k1, h1⟩ := AD.out x p (by have := ALN.out; omega) (by have := ALN.out; omega)
      obtain ⟨d0, e0⟩ : ∃ b, dv x z = b := ⟨_, rfl⟩
      obtain ⟨d1, e1⟩ : ∃ b, dv x p = b := ⟨_, rfl⟩
      obtain ⟨br, ebr⟩ : ∃ b, rv.getD p false = b := ⟨_, rfl⟩
      rw [e0] at h0 hE2
      rw [e1] at h1 hE2
      rw [ebr] at cr_ hE2
      have H0 := Aside0.mk h0
      have H1 := Aside0.mk h1
      clear h0 h1 e0 e1 ebr er erd hp
      by_cases hxz : x = z
      · have n1 : ((x : Int) != (z : Int)) = false := by rw [hxz]; simp
        have n2 : (x != z) = false := by rw [hxz]; simp
        have n3 : decide ((x : Int) = (z : Int)) = true := decide_eq_true (by omega)
        clear hE2
        go_wp2_with (fail)
        go_wp2; go_roundw; (case rel => exact ⟨j + 1, by first | (rw [HWR.out]; done) | (rw [HWR.out]) | go_num, ⟨by have := HLT.out; omega⟩, ⟨(by first | exact HB.out | (have h_ := HB.out; simp only [World.drewN_drewN] at h_; exact h_))⟩, ⟨(by first | exact RT.out | (have h_ := RT.out; simp only [World.drewN_drewN] at h_; exact h_))⟩, ⟨(by first | exact HP.out | (have h_ := HP.out; simp only [World.drewN_drewN] at h_; exact h_))⟩, ⟨(by first | exact RR.out | (have h_ := RR.out; simp only [World.drewN_drewN] at h_; exact h_))⟩⟩); (case measure => exact dw_meas _ _ _ HWR.out HLT.out)
      have n1 : ((x : Int) != (z : Int)) = true := by simp; omega
      have n2 : (x != z) = true := by simp [hxz]
      have n3 : decide ((x : Int) = (z : Int)) = false := decide_eq_false (by omega)
      have n4 : decide (x = z) = false := decide_eq_false hxz
      have n5 : ((x : Int) == (z : Int)) = false := beq_eq_false_iff_ne.mpr (by omega)
      have n6 : (x == z) = false := beq_eq_false_iff_ne.mpr hxz
      cases br with
      | false =>
        clear hE2 hxz
        go_wp2_with (fail)
        go_wp2; go_roundw; (case rel => exact ⟨j + 1, by first | (rw [HWR.out]; done) | (rw [HWR.out]) | go_num, ⟨by have := HLT.out; omega⟩, ⟨(by first | exact HB.out | (have h_ := HB.out; simp only [World.drewN_drewN] at h_; exact h_))⟩, ⟨(by first | exact RT.out | (have h_ := RT.out; simp only [World.drewN_drewN] at h_; exact h_))⟩, ⟨(by first | exact HP.out | (have h_ := HP.out; simp only [World.drewN_drewN] at h_; exact h_))⟩, ⟨(by first | exact RR.out | (have h_ := RR.out; simp only [World.drewN_drewN] at h_; exact h_))⟩⟩); (case measure => exact dw_meas _ _ _ HWR.out HLT.out)
      | true =>
        cases d0 with
        | false =>
          clear hE2 hxz
          go_wp2_with (first | (go_at_call 20; ((with_reducible refine (dom_Dominates.calls k0 At ct tv (x : Int) (z : Int) false _ (Kd.R_reads' RT.out).2.2 (Kd.R_reads' RT.out).2.1 H0.out).mono ?_); rintro e w' ⟨rfl, hb⟩; obtain ⟨nd, rfl⟩ := hb; replace HB := Aside0.mk (pw_below_drewN HB.out nd); (try (replace BK := Aside0.mk (blk_drewN BK.out nd))); replace RT := Aside0.mk (Kd.R_drewN RT.out nd); replace HP := Aside0.mk (Kd.C_drewN HP.out nd); replace RR := Aside0.mk (Kd.R_drewN RR.out nd); skip)) | (go_at_call 20; (have RT_ := RT.out; simp only [World.drewN_drewN] at RT_; (with_reducible refine (dom_Dominates.calls k0 At ct tv (x : Int) (z : Int) false _ (Kd.R_reads' RT_).2.2 (Kd.R_reads' RT_).2.1 H0.out).mono ?_); rintro e w' ⟨rfl, hb⟩; clear RT_; obtain ⟨nd, rfl⟩ := hb; replace HB := Aside0.mk (pw_below_drewN HB.out nd); (try (replace BK := Aside0.mk (blk_drewN BK.out nd))); replace RT := Aside0.mk (Kd.R_drewN RT.out nd); replace HP := Aside0.mk (Kd.C_drewN HP.out nd); replace RR := Aside0.mk (Kd.R_drewN RR.out nd); skip)))
          go_wp2; go_roundw; (case rel => exact ⟨j + 1, by first | (rw [HWR.out]; done) | (rw [HWR.out]) | go_num, ⟨by have := HLT.out; omega⟩, ⟨(by first | exact HB.out | (have h_ := HB.out; simp only [World.drewN_drewN] at h_; exact h_))⟩, ⟨(by first | exact RT.out | (have h_ := RT.out; simp only [World.drewN_drewN] at h_; exact h_))⟩, ⟨(by first | exact HP.out | (have h_ := HP.out; simp only [World.drewN_drewN] at h_; exact h_))⟩, ⟨(by first | exact RR.out | (have h_ := RR.out; simp only [World.drewN_drewN] at h_; exact h_))⟩⟩); (case measure => exact dw_meas _ _ _ HWR.out HLT.out)
        | true =>
          obtain rfl : d1 = true := hE2 rfl hxz hmem rfl
          clear hE2 hxz
          go_wp2_with (first | (go_at_call 20; ((with_reducible refine (dom_Dominates.calls k0 At ct tv (x : Int) (z : Int) true _ (Kd.R_reads' RT.out).2.2 (Kd.R_reads' RT.out).2.1 H0.out).mono ?_); rintro e w' ⟨rfl, hb⟩; obtain ⟨nd, rfl⟩ := hb; replace HB := Aside0.mk (pw_below_drewN HB.out nd); (try (replace BK := Aside0.mk (blk_drewN BK.out nd))); replace RT := Aside0.mk (Kd.R_drewN RT.out nd); replace HP := Aside0.mk (Kd.C_drewN HP.out nd); replace RR := Aside0.mk (Kd.R_drewN RR.out nd); skip)) | (go_at_call 20; (have RT_ := RT.out; simp only [World.drewN_drewN] at RT_; (with_reducible refine (dom_Dominates.calls k0 At ct tv (x : Int) (z : Int) true _ (Kd.R_reads' RT_).2.2 (Kd.R_reads' RT_).2.1 H0.out).mono ?_); rintro e w' ⟨rfl, hb⟩; clear RT_; obtain ⟨nd, rfl⟩ := hb; replace HB := Aside0.mk (pw_below_drewN HB.out nd); (try (replace BK := Aside0.mk (blk_drewN BK.out nd))); replace RT := Aside0.mk (Kd.R_drewN RT.out nd); replace HP := Aside0.mk (Kd.C_drewN HP.out nd); replace RR := Aside0.mk (Kd.R_drewN RR.out nd); skip)) | (go_at_call 20; ((with_reducible refine (dom_Dominates.calls k1 At ct tv (x : Int) (p : Int) true _ (Kd.R_reads' RT.out).2.2 (Kd.R_reads' RT.out).2.1 H1.out).mono ?_); rintro e w' ⟨rfl, hb⟩; obtain ⟨nd, rfl⟩ := hb; replace HB := Aside0.mk (pw_below_drewN HB.out nd); (try (replace BK := Aside0.mk (blk_drewN BK.out nd))); replace RT := Aside0.mk (Kd.R_drewN RT.out nd); replace HP := Aside0.mk (Kd.C_drewN HP.out nd); replace RR := Aside0.mk (Kd.R_drewN RR.out nd); skip)) | (go_at_call 20; (have RT_ := RT.out; simp only [World.drewN_drewN] at RT_; (with_reducible refine (dom_Dominates.calls k1 At ct tv (x : Int) (p : Int) true _ (Kd.R_reads' RT_).2.2 (Kd.R_reads' RT_).2.1 H1.out).mono ?_); rintro e w' ⟨rfl, hb⟩; clear RT_; obtain ⟨nd, rfl⟩ := hb; replace HB := Aside0.mk (pw_below_drewN HB.out nd); (try (replace BK := Aside0.mk (blk_drewN BK.out nd))); replace RT := Aside0.mk (Kd.R_drewN RT.out nd); replace HP := Aside0.mk (Kd.C_drewN HP.out nd); replace RR := Aside0.mk (Kd.R_drewN RR.out nd); skip)))
          go_wp2; go_roundw; (case rel => exact ⟨j + 1, by first | (rw [HWR.out]; done) | (rw [HWR.out]) | go_num, ⟨by have := HLT.out; omega⟩, ⟨(by first | exact HB.out | (have h_ := HB.out; simp only [World.drewN_drewN] at h_; exact h_))⟩, ⟨(by first | exact RT.out | (have h_ := RT.out; simp only [World.drewN_drewN] at h_; exact h_))⟩, ⟨(by first | exact HP.out | (have h_ := HP.out; simp only [World.drewN_drewN] at h_; exact h_))⟩, ⟨(by first | exact RR.out | (have h_ := RR.out; simp only [World.drewN_drewN] at h_; exact h_))⟩⟩); (case measure => exact dw_meas _ _ _ HWR.out HLT.out)
    have t6 : decide ((j : Int) < (pr.length : Int)) = false := decide_eq_false (by omega)
    have t7 : decide (j < pr.length) = false := decide_eq_false hlt
    have t8 : decide (pr.length ≤ j) = true := decide_eq_true (by omega)
    have t9 : decide ((pr.length : Int) ≤ (j : Int)) = true := decide_eq_true (by omega)
    go_wp2_with (first | (go_at_call 18; ((with_reducible refine (balustradelaw28_works.calls kw true _ HKW.out).mono ?_); rintro e w' ⟨rfl, hb⟩; replace HB := Aside0.mk (below_step (by with_reducible first | exact HB.out | exact below_drew1 HB.out) hb); clear hb)))
    show bodyPost _ _ _ _ _ _
    go_ret
    exact ⟨rfl, HB.out⟩
end Go.Proofs.Ytomopjomapkmjaa.P

/- A text of this claim, what is not used left out. -/
import Derived.Test.YtomopjomapkmjaaDwDomX
import Derived.Test.YtomopjomapkmjaaDwP1
import Derived.Test.YtomopjomapkmjaaDwP6
import Derived.Test.YtomopjomapkmjaaDwP7
import Derived.Test.YtomopjomapkmjaaDwP9
import Derived.Test.YtomopjomapkmjaaDwP13
import Derived.Test.YtomopjomapkmjaaDwP14
import Derived.Deep.RegionHeld3
import Derived.Deep.QuietTactic
import Derived.BigQuiet
import Derived.OpenShut
set_option linter.unusedVariables false
set_option linter.unusedSimpArgs false
namespace Go.Proofs.Ytomopjomapkmjaa.P
open Go Go.RowKit Go.Proofs.YtomopjomapkmjaaW.PrintWords Go.Proofs.YtomopjomapkmjaaW.PrintLast Go.Proofs.YtomopjomapkmjaaW.PrintMore Go.Proofs.Ytomopjomapkmjaa.Pure
theorem goodB_of {bl : List (List S29)} {G : S29 → Prop} {m : Nat} (hm : m = 140737488351232) (h : (∀ b ∈ bl, (∀ i ∈ b, G i) ∧ b.length * 88 ≤ m) ∧ bl.length * 24 ≤ m) (hG : ∀ i, G i → i.f8.length * 8 ≤ m) : GoodB bl ∧ bl.length < 4611686018427387904 :=
  ⟨fun b hb => ⟨by have := (h.1 b hb).2; omega, fun i hi => by have := hG i ((h.1 b hb).1 i hi); omega⟩, by have := h.2; omega⟩
theorem dw_meas (n j : Nat) (x : Int) (hx : x = ((j + 1 : Nat) : Int)) (h : j < n) : n - (intOf (.int .i64 x)).toNat < n - (intOf (.int .i64 (j : Int))).toNat := by
  subst hx
  simp [intOf]
  omega
theorem dw_dom (k : Nat) (At : Option Addr) (ct : Nat) (tv : List Int) (x j : Int) (db : Bool) (W : World) (n base : Nat) (hr : (Kd.int .i64).R 3 W base (fun _ => True) (.slice At tv.length ct) tv) (h : dom_Dominates.f k tv x j = some db) :
    Calls Try.prog 20 #[.slice At tv.length ct, .int .i64 x, .int .i64 j] (W.drewN n) fun e w'' => e = .returned (.bool db) ∧ ∃ m, w'' = W.drewN m := by
  refine Calls.quiet_of ((dom_Dominates.calls k At ct tv x j db _ (Kd.C_drewN (Kd.R_reads' hr).2.2 n) (Kd.R_reads' hr).2.1 h).mono ?_)
  rintro e w' ⟨he, nd, hn⟩
  exact ⟨he, nd, hn⟩
set_option maxHeartbeats 16000000 in
set_option maxRecDepth 100000 in
theorem balustradelaw28_DomWithout.walk (a0_0 : ByteArray) (a0_1 a0_2 : Int) (A0_3 : Option Addr) (c0_3 : Nat) (l0_3 : List Int) (A0_4 : Option Addr) (c0_4 : Nat) (l0_4 : List (List S29)) (a1 : Int) (w : World)
    (hr0_3 : Kd.C (Kd.int .i64) w A0_3 l0_3.length l0_3) (hc0_3 : l0_3.length ≤ c0_3) (hr0_4 : Kd.C (Kd.slice 29 k29) w A0_4 l0_4.length l0_4) (hc0_4 : l0_4.length ≤ c0_4) (hg : GoodB l0_4 ∧ l0_4.length < 4611686018427387904) (w1 : (Lit.int .u8 a1).wf = true) :
    Calls Try.prog 5 #[.agg #[.string a0_0, .int .i64 a0_1, .int .i64 a0_2, .slice A0_3 l0_3.length c0_3, .slice A0_4 l0_4.length c0_4], .int .u8 a1] w fun e w' => e = .returned (.bool true) ∧ Below w.heap.size w w' := by
  have ha1 : 0 ≤ a1 ∧ a1 < 256 := by have := bounds_u8 w1; omega
  have hu32 := Try.underlying32
  obtain ⟨fv, hfv, hfv2⟩ := few_ev l0_4 a0_0 a0_1 a0_2 l0_3 hg.2
  obtain ⟨kF, hF⟩ := hfv.rounds
  have HF := Aside0.mk hF
  obtain ⟨kw, hkw⟩ := works28_ev.rounds
  have HKW := Aside0.mk hkw
  have hb0 := below_alloc (Below.refl w.heap.size w) (.cells #[.string a0_0, .int .i64 a0_1, .int .i64 a0_2, .slice A0_3 l0_3.length c0_3, .slice A0_4 l0_4.length c0_4] 32)
  have HR3 := Aside0.mk hr0_3
  have HR4 := Aside0.mk hr0_4
  have HC3 := Aside0.mk hc0_3
  have HC4 := Aside0.mk hc0_4
  have HB := Aside0.mk hb0
  have BK := Aside0.mk (blk_new w (.cells #[.string a0_0, .int .i64 a0_1, .int .i64 a0_2, .slice A0_3 l0_3.length c0_3, .slice A0_4 l0_4.length c0_4] 32))
  clear hr0_3 hr0_4 hb0 hF hkw hfv hc0_3 hc0_4 w1
  cases fv with
  | false =>
    clear hfv2 hg
    go_enter Try.func5, Try.ntmps5
    go_wp2_with (first | (go_at_call 17; ((with_reducible refine (balustraderef17_Few.calls kF a0_0 a0_1 a0_2 A0_3 c0_3 l0_3 A0_4 c0_4 l0_4 false _ (Kd.C_below HR3.out (by with_reducible first | exact HB.out | exact below_drew1 HB.out)) HC3.out (Kd.C_below HR4.out (by with_reducible first | exact HB.out | exact below_drew1 HB.out)) HC4.out HF.out).mono ?_); rintro e w' ⟨rfl, hb⟩; replace HB := Aside0.mk (below_step (by with_reducible first | exact HB.out | exact below_drew1 HB.out) hb); replace BK := Aside0.mk (blk_below (by with_reducible first | exact BK.out | exact blk_drew BK.out) hb); have kf0 := blk_cell BK.out 0; have kf1 := blk_cell BK.out 1; have kf2 := blk_cell BK.out 2; have kf3 := blk_cell BK.out 3; have kf4 := blk_cell BK.out 4; simp only [List.getElem?_toArray, List.getElem?_cons_zero, List.getElem?_cons_succ] at kf0 kf1 kf2 kf3 kf4; clear hb)) | (go_at_call 18; ((with_reducible refine (balustradelaw28_works.calls kw true _ HKW.out).mono ?_); rintro e w' ⟨rfl, hb⟩; replace HB := Aside0.mk (below_step (by with_reducible first | exact HB.out | exact below_drew1 HB.out) hb); clear hb)))
    go_ret
    exact ⟨rfl, HB.out⟩
  | true =>
    have h40 := hfv2 rfl
    by_cases hz : l0_4.length = 0
    · have t1 : ((l0_4.length : Int) == 0) = true := beq_iff_eq.mpr (by omega)
      have t2 : decide ((l0_4.length : Int) = 0) = true := decide_eq_true (by omega)
      have t3 : (l0_4.length == 0) = true := beq_iff_eq.mpr hz
      have t4 : decide (l0_4.length = 0) = true := decide_eq_true hz
      clear hfv2 hg h40 hz
      go_enter Try.func5, Try.ntmps5
      go_wp2_with (first | (go_at_call 17; ((with_reducible refine (balustraderef17_Few.calls kF a0_0 a0_1 a0_2 A0_3 c0_3 l0_3 A0_4 c0_4 l0_4 true _ (Kd.C_below HR3.out (by with_reducible first | exact HB.out | exact below_drew1 HB.out)) HC3.out (Kd.C_below HR4.out (by with_reducible first | exact HB.out | exact below_drew1 HB.out)) HC4.out HF.out).mono ?_); rintro e w' ⟨rfl, hb⟩; replace HB := Aside0.mk (below_step (by with_reducible first | exact HB.out | exact below_drew1 HB.out) hb); replace BK := Aside0.mk (blk_below (by with_reducible first | exact BK.out | exact blk_drew BK.out) hb); have kf0 := blk_cell BK.out 0; have kf1 := blk_cell BK.out 1; have kf2 := blk_cell BK.out 2; have kf3 := blk_cell BK.out 3; have kf4 := blk_cell BK.out 4; simp only [List.getElem?_toArray, List.getElem?_cons_zero, List.getElem?_cons_succ] at kf0 kf1 kf2 kf3 kf4; clear hb)) | (go_at_call 18; ((with_reducible refine (balustradelaw28_works.calls kw true _ HKW.out).mono ?_); rintro e w' ⟨rfl, hb⟩; replace HB := Aside0.mk (below_step (by with_reducible first | exact HB.out | exact below_drew1 HB.out) hb); clear hb)))
      go_ret
      exact ⟨rfl, HB.out⟩
    have t1 : ((l0_4.length : Int) == 0) = false := beq_eq_false_iff_ne.mpr (by omega)
    have t2 : decide ((l0_4.length : Int) = 0) = false := decide_eq_false (by omega)
    have t3 : (l0_4.length == 0) = false := beq_eq_false_iff_ne.mpr hz
    have t4 : decide (l0_4.length = 0) = false := decide_eq_false hz
    have t5 : ¬ ((l0_4.length : Int) = 0) := by omega
    have hln := succsV_len l0_4
    have hv : ∀ l ∈ succsV l0_4, ∀ t ∈ l, 0 ≤ t ∧ t < ((succsV l0_4).length : Int) := fun l h => (succsV_good l0_4 l h).2
    have hne : succsV l0_4 ≠ [] := fun e => by rw [e] at hln; simp at hln; omega
    obtain ⟨tv, T, htr, dt⟩ := tree_ev l0_4 a0_0 a0_1 a0_2 l0_3 h40 hg.1
    obtain ⟨x, hx, hxn⟩ := mod_at a1 (l0_4.length : Int) ha1.1 ha1.2 (by omega)
    have hW := rWithout_ev l0_4 a0_0 a0_1 a0_2 l0_3 (x : Int) h40 hg.1
    have hR : Ev (fun k => balustraderef17_Reach.f k a0_0 a0_1 a0_2 l0_3 l0_4) (gtAll (succsV l0_4) (-1)).1 := Ev.bind (rWithout_ev l0_4 a0_0 a0_1 a0_2 l0_3 (-1) h40 hg.1) (Ev.now _)
    have hD := fun i : Nat => fun hi : i < (succsV l0_4).length => (dominates_val (by omega) hv hne dt x i (by omega) hi).rounds
    have hE := fun i : Nat => domB_eq (succsV l0_4) x i
    obtain ⟨sv, hsv⟩ : ∃ v, succsV l0_4 = v := ⟨_, rfl⟩
    rw [hsv] at hW hR hD hE hln
    have hl1 := gtAll_len sv (x : Int)
    have hl2 := gtAll_len sv (-1)
    obtain ⟨wv, hwv⟩ : ∃ v, (gtAll sv (x : Int)).1 = v := ⟨_, rfl⟩
    obtain ⟨rv, hrv⟩ : ∃ v, (gtAll sv (-1)).1 = v := ⟨_, rfl⟩
    obtain ⟨dv, hdv⟩ : ∃ v : Nat → Bool, (fun i => domB sv x i) = v := ⟨_, rfl⟩
    have hdv' : ∀ i, domB sv x i = dv i := fun i => congrFun hdv i
    simp only [hdv'] at hD hE
    rw [hwv] at hW hl1
    rw [hrv] at hR hl2
    simp only [hwv, hrv] at hE
    obtain ⟨khtr, htr⟩ := htr.rounds
    have Ahtr := Aside0.mk htr
    obtain ⟨khW, hW⟩ := hW.rounds
    have AhW := Aside0.mk hW
    obtain ⟨khR, hR⟩ := hR.rounds
    have AhR := Aside0.mk hR
    have AD := Aside0.mk hD
    have AE := Aside0.mk hE
    have ALN : Aside0 (wv.length = l0_4.length ∧ rv.length = l0_4.length ∧ x < l0_4.length ∧ sv.length = l0_4.length ∧ l0_4.length ≤ 40) := ⟨⟨by omega, by omega, by omega, hln, h40⟩⟩
    have hx2 : a1 % (l0_4.length : Int) = (x : Int) := by rw [← hx, wrap_id (by omega) (by omega), Int.tmod_eq_emod_of_nonneg ha1.1]
    have AX := Aside0.mk hx
    have AX2 := Aside0.mk hx2
    clear hx2
    clear htr hW hR hD hE hln hv hne hl1 hl2 hwv hrv hdv hdv' hsv dt hxn hx h40 hfv2 hg hz
    go_enter Try.func5, Try.ntmps5
    go_upto_region 5 with (first | (go_at_call 17; ((with_reducible refine (balustraderef17_Few.calls kF a0_0 a0_1 a0_2 A0_3 c0_3 l0_3 A0_4 c0_4 l0_4 true _ (Kd.C_below HR3.out (by with_reducible first | exact HB.out | exact below_drew1 HB.out)) HC3.out (Kd.C_below HR4.out (by with_reducible first | exact HB.out | exact below_drew1 HB.out)) HC4.out HF.out).mono ?_); rintro e w' ⟨rfl, hb⟩; replace HB := Aside0.mk (below_step (by with_reducible first | exact HB.out | exact below_drew1 HB.out) hb); replace BK := Aside0.mk (blk_below (by with_reducible first | exact BK.out | exact blk_drew BK.out) hb); have kf0 := blk_cell BK.out 0; have kf1 := blk_cell BK.out 1; have kf2 := blk_cell BK.out 2; have kf3 := blk_cell BK.out 3; have kf4 := blk_cell BK.out 4; simp only [List.getElem?_toArray, List.getElem?_cons_zero, List.getElem?_cons_succ] at kf0 kf1 kf2 kf3 kf4; clear hb)) | (go_at_call 19; ((with_reducible refine (dom_Tree.calls khtr a0_0 a0_1 a0_2 A0_3 c0_3 l0_3 A0_4 c0_4 l0_4 tv _ (Kd.C_below HR3.out (by with_reducible first | exact HB.out | exact below_drew1 HB.out)) HC3.out (Kd.C_below HR4.out (by with_reducible first | exact HB.out | exact below_drew1 HB.out)) HC4.out Ahtr.out).mono ?_); rintro e w' ⟨v_, rfl, hR_, hb⟩; obtain ⟨At, ct, rfl⟩ := Kd.R_slice hR_; have RT := Aside0.mk (Kd.R_lower hR_ (below_size (by with_reducible first | exact HB.out | exact below_drew1 HB.out))); replace HB := Aside0.mk (below_step (by with_reducible first | exact HB.out | exact below_drew1 HB.out) hb); replace BK := Aside0.mk (blk_below (by with_reducible first | exact BK.out | exact blk_drew BK.out) hb); have kt0 := blk_cell BK.out 0; have kt1 := blk_cell BK.out 1; have kt2 := blk_cell BK.out 2; have kt3 := blk_cell BK.out 3; have kt4 := blk_cell BK.out 4; simp only [List.getElem?_toArray, List.getElem?_cons_zero, List.getElem?_cons_succ] at kt0 kt1 kt2 kt3 kt4; clear hb hR_)))
    simp only [AX2.out]
    go_region_held3 (fun w' => w'.cell? ⟨w.heap.size, 0, none⟩ = some (.string a0_0) ∧ w'.cell? ⟨w.heap.size, 1, none⟩ = some (.int .i64 a0_1) ∧ w'.cell? ⟨w.heap.size, 2, none⟩ = some (.int .i64 a0_2) ∧ w'.cell? ⟨w.heap.size, 3, none⟩ = some (.slice A0_3 l0_3.length c0_3) ∧ w'.cell? ⟨w.heap.size, 4, none⟩ = some (.slice A0_4 l0_4.length c0_4)) (first | exact ⟨(blk_cell BK.out 0).trans rfl, (blk_cell BK.out 1).trans rfl, (blk_cell BK.out 2).trans rfl, (blk_cell BK.out 3).trans rfl, (blk_cell BK.out 4).trans rfl⟩ | exact ⟨(blk_cell (blk_drew BK.out) 0).trans rfl, (blk_cell (blk_drew BK.out) 1).trans rfl, (blk_cell (blk_drew BK.out) 2).trans rfl, (blk_cell (blk_drew BK.out) 3).trans rfl, (blk_cell (blk_drew BK.out) 4).trans rfl⟩) (first | (go_at_call 23; ((with_reducible refine (balustraderef17_Without.calls khW a0_0 a0_1 a0_2 A0_3 c0_3 l0_3 A0_4 c0_4 l0_4 (x : Int) wv _ (Kd.C_below HR3.out (by with_reducible first | exact HB.out | exact below_drew1 HB.out)) HC3.out (Kd.C_below HR4.out (by with_reducible first | exact HB.out | exact below_drew1 HB.out)) HC4.out AhW.out).mono ?_); rintro e w' ⟨v_, rfl, hR_, hb⟩; obtain ⟨Aw, cw, rfl⟩ := Kd.R_slice hR_; have RW := Aside0.mk (Kd.R_lower hR_ (below_size (by with_reducible first | exact HB.out | exact below_drew1 HB.out))); replace HB := Aside0.mk (below_step (by with_reducible first | exact HB.out | exact below_drew1 HB.out) hb); replace BK := Aside0.mk (blk_below (by with_reducible first | exact BK.out | exact blk_drew BK.out) hb); replace RT := Aside0.mk (Kd.R_below (by with_reducible first | exact RT.out | exact Kd.R_drew RT.out) hb); clear hb hR_)) | (go_at_call 22; ((with_reducible refine (balustraderef17_Reach.calls khR a0_0 a0_1 a0_2 A0_3 c0_3 l0_3 A0_4 c0_4 l0_4 rv _ (Kd.C_below HR3.out (by with_reducible first | exact HB.out | exact below_drew1 HB.out)) HC3.out (Kd.C_below HR4.out (by with_reducible first | exact HB.out | exact below_drew1 HB.out)) HC4.out AhR.out).mono ?_); rintro e w' ⟨v_, rfl, hR_, hb⟩; obtain ⟨Ar, cr, rfl⟩ := Kd.R_slice hR_; have RR := Aside0.mk (Kd.R_lower hR_ (below_size (by with_reducible first | exact HB.out | exact below_drew1 HB.out))); replace HB := Aside0.mk (below_step (by with_reducible first | exact HB.out | exact below_drew1 HB.out) hb); replace BK := Aside0.mk (blk_below (by with_reducible first | exact BK.out | exact blk_drew BK.out) hb); replace RT := Aside0.mk (Kd.R_below (by with_reducible first | exact RT.out | exact Kd.R_drew RT.out) hb); replace RW := Aside0.mk (Kd.R_below (by with_reducible first | exact RW.out | exact Kd.R_drew RW.out) hb); clear hb hR_)))
    go_wp2_with (fail)
    go_loopw [9] (fun v9 wr => ∃ j : Nat, v9 = .int .i64 (j : Int) ∧ Aside0 (j ≤ l0_4.length) ∧ Aside0 (Below w.heap.size w wr) ∧ Aside0 ((Kd.int .i64).R 3 wr w.heap.size (fun _ => True) (.slice At tv.length ct) tv) ∧ Aside0 ((Kd.bool).R 4 wr w.heap.size (fun _ => True) (.slice Aw wv.length cw) wv) ∧ Aside0 ((Kd.bool).R 4 wr w.heap.size (fun _ => True) (.slice Ar rv.length cr) rv)) (fun v9 wr => l0_4.length - (intOf v9).toNat)
    case atStart => exact ⟨0, rfl, ⟨Nat.zero_le _⟩, ⟨(by with_reducible first | exact HB.out | exact below_drew1 HB.out)⟩, ⟨(by with_reducible first | exact RT.out | exact Kd.R_drew RT.out)⟩, ⟨(by with_reducible first | exact RW.out | exact Kd.R_drew RW.out)⟩, ⟨(by with_reducible first | exact RR.out | exact Kd.R_drew RR.out)⟩⟩
    case round =>
    clear HB RT RW RR
    obtain ⟨j, rfl, HJ, HB, RT, RW, RR⟩ := hrel
    by_cases hlt : j < l0_4.length
    · have HLT := Aside0.mk hlt
      have p1 : (0 : Int) ≤ (j : Int) := by omega
      have p2 : (j : Int) < (rv.length : Int) := by have := ALN.out; omega
      have p3 : (j : Int) < (wv.length : Int) := by have := ALN.out; omega
      have p4 : (x : Int) < (rv.length : Int) := by have := ALN.out; omega
      have p5 : (0 : Int) ≤ (x : Int) := by omega
      have t6 : decide ((j : Int) < (rv.length : Int)) = true := decide_eq_true p2
      have hwr : wrap64 ((j : Int) + 1) = ((j + 1 : Nat) : Int) := by have := ALN.out; unfold wrap64; omega
      have HWR := Aside0.mk hwr
      clear hwr
      obtain ⟨qr, eqr, cx⟩ := Kd.at_bool (Kd.R_reads' RR.out).2.2 (x : Int) p5 p4
      obtain ⟨qr2, eqr2, cj⟩ := Kd.at_bool (Kd.R_reads' RR.out).2.2 (j : Int) p1 p2
      obtain ⟨qw, eqw, cwj⟩ := Kd.at_bool (Kd.R_reads' RW.out).2.2 (j : Int) p1 p3
      rw [eqr] at eqr2
      obtain rfl : qr = qr2 := by injection eqr2
      subst eqr eqw
      clear eqr2
      obtain ⟨kD, hkD⟩ := AD.out j (by have := ALN.out; omega)
      have HKD := Aside0.mk hkD
      clear hkD
      have hEj := AE.out j
      have ex : rdOf false rv (x : Int) = rv.getD x false := rfl
      have ej : rdOf false rv (j : Int) = rv.getD j false := rfl
      have ew : rdOf false wv (j : Int) = wv.getD j false := rfl
      rw [ex] at cx
      rw [ej] at cj
      rw [ew] at cwj
      (try simp only [Int.toNat_natCast] at cx cj cwj)
      obtain ⟨bx, hbx⟩ : ∃ b, rv.getD x false = b := ⟨_, rfl⟩
      obtain ⟨bj, hbj⟩ : ∃ b, rv.getD j false = b := ⟨_, rfl⟩
      obtain ⟨bw, hbw⟩ : ∃ b, wv.getD j false = b := ⟨_, rfl⟩
      rw [hbx] at cx hEj
      rw [hbj] at cj hEj
      rw [hbw] at cwj hEj
      clear ex ej ew hbx hbj hbw
      obtain ⟨db, hdb⟩ : ∃ b, dv j = b := ⟨_, rfl⟩
      rw [hdb] at HKD hEj
      clear hdb
      cases bx with
      | false =>
        clear hEj
        go_wp2_with (fail)
        go_quiet (fail)
        go_wp2; go_roundw; (case rel => exact ⟨j + 1, by first | (rw [HWR.out]; done) | (rw [HWR.out]) | go_num, ⟨by have := HLT.out; omega⟩, ⟨by (repeat (first | exact HB.out | (with_reducible refine pw_below_drewN ?_ _) | (with_reducible refine below_drew1 ?_)))⟩, ⟨by (repeat (first | exact RT.out | (with_reducible refine Kd.R_drewN ?_ _) | (with_reducible refine Kd.R_drew ?_)))⟩, ⟨by (repeat (first | exact RW.out | (with_reducible refine Kd.R_drewN ?_ _) | (with_reducible refine Kd.R_drew ?_)))⟩, ⟨by (repeat (first | exact RR.out | (with_reducible refine Kd.R_drewN ?_ _) | (with_reducible refine Kd.R_drew ?_)))⟩⟩); (case measure => exact dw_meas _ _ _ HWR.out HLT.out)
      | true =>
        have hdb := hEj rfl
        cases bj with
        | false =>
          simp only [Bool.false_and] at hdb
          subst hdb
          clear hEj
          go_wp2_with (fail)
          go_quiet (first | (go_at_call 20; exact dw_dom kD At ct tv (x : Int) (j : Int) false _ _ w.heap.size RT.out HKD.out))
          go_wp2; go_roundw; (case rel => exact ⟨j + 1, by first | (rw [HWR.out]; done) | (rw [HWR.out]) | go_num, ⟨by have := HLT.out; omega⟩, ⟨by (repeat (first | exact HB.out | (with_reducible refine pw_below_drewN ?_ _) | (with_reducible refine below_drew1 ?_)))⟩, ⟨by (repeat (first | exact RT.out | (with_reducible refine Kd.R_drewN ?_ _) | (with_reducible refine Kd.R_drew ?_)))⟩, ⟨by (repeat (first | exact RW.out | (with_reducible refine Kd.R_drewN ?_ _) | (with_reducible refine Kd.R_drew ?_)))⟩, ⟨by (repeat (first | exact RR.out | (with_reducible refine Kd.R_drewN ?_ _) | (with_reducible refine Kd.R_drew ?_)))⟩⟩); (case measure => exact dw_meas _ _ _ HWR.out HLT.out)
        | true =>
          simp only [Bool.true_and] at hdb
          subst hdb
          clear hEj
          cases bw with
          | false =>
            (try simp only [Bool.not_false, Bool.not_true] at HKD)
            go_wp2_with (fail)
            go_quiet (first | (go_at_call 20; exact dw_dom kD At ct tv (x : Int) (j : Int) true _ _ w.heap.size RT.out HKD.out))
            go_wp2; go_roundw; (case rel => exact ⟨j + 1, by first | (rw [HWR.out]; done) | (rw [HWR.out]) | go_num, ⟨by have := HLT.out; omega⟩, ⟨by (repeat (first | exact HB.out | (with_reducible refine pw_below_drewN ?_ _) | (with_reducible refine below_drew1 ?_)))⟩, ⟨by (repeat (first | exact RT.out | (with_reducible refine Kd.R_drewN ?_ _) | (with_reducible refine Kd.R_drew ?_)))⟩, ⟨by (repeat (first | exact RW.out | (with_reducible refine Kd.R_drewN ?_ _) | (with_reducible refine Kd.R_drew ?_)))⟩, ⟨by (repeat (first | exact RR.out | (with_reducible refine Kd.R_drewN ?_ _) | (with_reducible refine Kd.R_drew ?_)))⟩⟩); (case measure => exact dw_meas _ _ _ HWR.out HLT.out)
          | true =>
            (try simp only [Bool.not_false, Bool.not_true] at HKD)
            go_wp2_with (fail)
            go_quiet (first | (go_at_call 20; exact dw_dom kD At ct tv (x : Int) (j : Int) false _ _ w.heap.size RT.out HKD.out))
            go_wp2; go_roundw; (case rel => exact ⟨j + 1, by first | (rw [HWR.out]; done) | (rw [HWR.out]) | go_num, ⟨by have := HLT.out; omega⟩, ⟨by (repeat (first | exact HB.out | (with_reducible refine pw_below_drewN ?_ _) | (with_reducible refine below_drew1 ?_)))⟩, ⟨by (repeat (first | exact RT.out | (with_reducible refine Kd.R_drewN ?_ _) | (with_reducible refine Kd.R_drew ?_)))⟩, ⟨by (repeat (first | exact RW.out | (with_reducible refine Kd.R_drewN ?_ _) | (with_reducible refine Kd.R_drew ?_)))⟩, ⟨by (repeat (first | exact RR.out | (with_reducible refine Kd.R_drewN ?_ _) | (with_reducible refine Kd.R_drew ?_)))⟩⟩); (case measure => exact dw_meas _ _ _ HWR.out HLT.out)
    have t6 : decide ((j : Int) < (rv.length : Int)) = false := decide_eq_false (by have := ALN.out; omega)
    have t7 : decide (j < rv.length) = false := decide_eq_false (by have := ALN.out; omega)
    have t8 : decide (rv.length ≤ j) = true := decide_eq_true (by have := ALN.out; omega)
    have t9 : decide ((rv.length : Int) ≤ (j : Int)) = true := decide_eq_true (by have := ALN.out; omega)
    go_wp2_with (first | (go_at_call 18; ((with_reducible refine (balustradelaw28_works.calls kw true _ HKW.out).mono ?_); rintro e w' ⟨rfl, hb⟩; replace HB := Aside0.mk (below_step (by with_reducible first | exact HB.out | exact below_drew1 HB.out) hb); clear hb)))
    show bodyPost _ _ _ _ _ _
    go_ret
    exact ⟨rfl, HB.out⟩
end Go.Proofs.Ytomopjomapkmjaa.P

/- A part of it. -/
import Derived.Test.YtomopjomapkmjaaBpZ
import Derived.Test.YtomopjomapkmjaaBpBBdT
import Derived.Test.YtomopjomapkmjaaBpB7
import Derived.Outline
set_option linter.unusedVariables false
set_option linter.unusedSimpArgs false
namespace Go.Proofs.Ytomopjomapkmjaa.B
open Go Go.RowKit Go.Proofs.YtomopjomapkmjaaW.PrintWords Go.Proofs.YtomopjomapkmjaaW.PrintLast Go.Proofs.YtomopjomapkmjaaW.PrintMore Go.Proofs.Ytomopjomapkmjaa.Pure
attribute [local go_sem] max2_int min2_int max_two min_two
set_option maxHeartbeats 16000000 in
set_option maxRecDepth 100000 in
theorem told_begin {w0 w : World} {base g gx N : Nat} {V : BV} {X : XV} (hB : Both w0 base w g gx V X) (hR : Rel V X) (hS : Small N V) (hN : N < 500) (hW : Below base w0 w) (hb0 : base = w0.heap.size) (dd n : Int) (x : S29) (A8 : Option Addr) (c8 : Nat) (hx8 : x.f8.length ≤ 20) (hC : (Kd.int .i64).C w0 A8 x.f8.length x.f8) (hc8 : x.f8.length ≤ c8) (hd : dd = 2) :
  Calls Try.prog 25 #[.pointer (some ⟨g, 0, none⟩), .pointer (some ⟨gx, 0, none⟩), .agg #[.int .i64 dd, .int .i64 n, .int .i64 x.f0, .int .i64 x.f1, .int .i64 x.f2, .int .i64 x.f3, .int .i64 x.f4, .int .i64 x.f5, .int .i64 x.f6, .int .i64 x.f7, .slice A8 x.f8.length c8]] w (ToldEnd w0 base g gx N) := by
 subst hb0
 have HBO := Aside0.mk (hB.below (below_alloc (Below.refl w.heap.size w) (.cells #[.int .i64 dd, .int .i64 n, .int .i64 x.f0, .int .i64 x.f1, .int .i64 x.f2, .int .i64 x.f3, .int .i64 x.f4, .int .i64 x.f5, .int .i64 x.f6, .int .i64 x.f7, .slice A8 x.f8.length c8] 54)))
 have BK := Aside0.mk (blk_new w (.cells #[.int .i64 dd, .int .i64 n, .int .i64 x.f0, .int .i64 x.f1, .int .i64 x.f2, .int .i64 x.f3, .int .i64 x.f4, .int .i64 x.f5, .int .i64 x.f6, .int .i64 x.f7, .slice A8 x.f8.length c8] 54))
 have HW := Aside0.mk (below_alloc hW (.cells #[.int .i64 dd, .int .i64 n, .int .i64 x.f0, .int .i64 x.f1, .int .i64 x.f2, .int .i64 x.f3, .int .i64 x.f4, .int .i64 x.f5, .int .i64 x.f6, .int .i64 x.f7, .slice A8 x.f8.length c8] 54))
 have HZ : Aside0 (w0.heap.size ≤ w.heap.size) := ⟨hW.size⟩
 have HRL := Aside0.mk hR
 have HSM := Aside0.mk hS
 have HNN := Aside0.mk hN
 have HC8 := Aside0.mk (And.intro hC (And.intro hc8 hx8))
 clear hB hR hS hN hW hC hc8 hx8
 subst hd
 have hsz : (w.alloc (.cells #[.int .i64 2, .int .i64 n, .int .i64 x.f0, .int .i64 x.f1, .int .i64 x.f2, .int .i64 x.f3, .int .i64 x.f4, .int .i64 x.f5, .int .i64 x.f6, .int .i64 x.f7, .slice A8 x.f8.length c8] 54)).heap.size = w.heap.size + 1 := by simp
 have HZ1 := Aside0.mk hsz
 clear hsz
 have k0 := blk_cell BK.out 0
 have k1 := blk_cell BK.out 1
 simp only [List.getElem?_toArray, List.getElem?_cons_zero, List.getElem?_cons_succ] at k0 k1
 go_enter Try.func25, Try.ntmps25
 go_upto_region 13 with (fail)
 generalize w.alloc (.cells #[.int .i64 2, .int .i64 n, .int .i64 x.f0, .int .i64 x.f1, .int .i64 x.f2, .int .i64 x.f3, .int .i64 x.f4, .int .i64 x.f5, .int .i64 x.f6, .int .i64 x.f7, .slice A8 x.f8.length c8] 54) = W1 at HBO BK HW HZ1 k0 k1 ⊢
 obtain ⟨okb, okx, hb_, hx_, d1, d2, d3, d4⟩ := HBO.out
 have hx2 := hx_
 obtain ⟨x1, x2, x3, f, vr, vb, vs, hxc, hxr, hxB, hxg⟩ := hx2
 try dsimp only at hxc hxr hxB hxg
 obtain ⟨Ar, cr, rfl⟩ := Kd.R_slice hxr
 obtain ⟨Ab, cb, rfl⟩ := Kd.S_slice hxB
 obtain ⟨Ag, cg, rfl⟩ := Kd.R_slice hxg
 have HXC := Aside0.mk hxc
 have HC3 := Aside0.mk (And.intro (Kd.R_reads' hxr).2.2 (Kd.R_reads' hxr).2.1)
 have HC4 : Aside0 ((Kd.slice 29 k29).C _ Ab X.bl.length X.bl ∧ X.bl.length ≤ cb) := ⟨⟨kX_C (Kd.S_reads' hxB).2.2 HW.out, (Kd.S_reads' hxB).2.1⟩⟩
 have HC5 := Aside0.mk (And.intro (Kd.R_reads' hxg).2.2 (Kd.R_reads' hxg).2.1)
 have HXG := Aside0.mk hxg
 have c0 := blk_cell HXC.out 0
 have c1 := blk_cell HXC.out 1
 have c2 := blk_cell HXC.out 2
 have c3 := blk_cell HXC.out 3
 have c4 := blk_cell HXC.out 4
 have c5 := blk_cell HXC.out 5
 have c6 := blk_cell HXC.out 6
 simp only [List.getElem?_toArray, List.getElem?_cons_zero, List.getElem?_cons_succ] at c0 c1 c2 c3 c4 c5 c6
 have hp0 : 0 ≤ X.at_ := by have := HRL.out.p0; rw [HRL.out.pl] at this; exact this
 have hp1 : X.at_ < (X.bl.length : Int) := by have := HRL.out.p1; rw [HRL.out.pl, HRL.out.bl] at this; exact this
 have hrl : (X.bl.getD X.at_.toNat []).length < 4611686018427387904 := by have := (HSM.out.row X.at_.toNat).1; have := HNN.out; rw [← HRL.out.bl]; omega
 have hov := over_val X.nm X.pa X.rt X.rg X.bl X.bg X.at_ X.at_ hp0 hp1 hrl
 have hbe : beginB V n = beginX X n := HRL.out.mayBegin n
 have HEQ : Aside0 (beginX X n = beginX X n) := ⟨rfl⟩
 unfold beginX at hbe
 obtain ⟨o, eo⟩ : ∃ o, overB (X.bl.getD X.at_.toNat []) = o := ⟨_, rfl⟩
 rw [eo] at hov hbe
 have HOV := Aside0.mk hov
 have EO := Aside0.mk eo
 have hgl : X.bg.length < 1000000 := by rw [HRL.out.nb]; have := HSM.out.2.1; have := HNN.out; omega
 clear hxr hxc hxB hxg hx_ hb_ d1 d2 d3 d4 x1 x2 x3 hov eo hp0 hp1 hrl
 cases o with
 | false =>
  rw [Bool.false_and] at hbe
  refine start_ (n := 43) (S := fun w' => w'.cell? ⟨gx, 0, none⟩ = some (.string X.nm) ∧ w'.cell? ⟨gx, 1, none⟩ = some (.int .i64 X.pa) ∧ w'.cell? ⟨gx, 2, none⟩ = some (.int .i64 X.rt) ∧ w'.cell? ⟨gx, 3, none⟩ = some (.slice Ar X.rg.length cr) ∧ w'.cell? ⟨gx, 4, none⟩ = some (.slice Ab X.bl.length cb) ∧ w'.cell? ⟨gx, 5, none⟩ = some (.slice Ag X.bg.length cg) ∧ w'.cell? ⟨gx, 6, none⟩ = some (.int .i64 X.at_) ∧ w'.cell? ⟨w.heap.size, 1, none⟩ = some (.int .i64 n)) (ds := []) #[false, false, false, false, false, false, false, false, false, false, false, false, false, false, false, false, false, false, false, false, false, false, false, false, false, false, false, false, false, false, false, false, false, false, false, false, false, false, false, false, false, false, false] (by kernel_rfl) rfl rfl ⟨c0, c1, c2, c3, c4, c5, c6, k1⟩ (fun hHeld => ?_)
  refine pT 0 (some 77) (zb 43 1) (h := ?_)
  refine pT 1 (some 78) (zb 43 3) (h := ?_)
  refine pT 3 (some 80) (zb 43 11) (h := ?_)
  refine pT 4 (some 81) (zb 43 27) (h := ?_)
  refine pT 5 (some 82) (zb 43 59) (h := ?_)
  refine take_ (i := 2) (N := some 79) (v := ?_) (a' := ?_) (zb 43 63) rfl rfl (by kernel_rfl) (fun _ _ _ h => h) (Or.inl ⟨by rfl, ?_⟩) hHeld ?_ ?_
  rotate_left
  ·rintro w' ⟨s0, s1, s2, s3, s4, s5, s6, s7⟩
   go_simp
   with_reducible rfl
  rotate_left
  ·simp only [Act.put, List.setIfInBounds_toArray, List.set_cons_zero, List.set_cons_succ, i64_w, i32_w]
   rfl
  refine take_ (i := 6) (N := some 83) (v := ?_) (a' := ?_) (zb 43 127) rfl rfl (by kernel_rfl) (fun _ _ _ h => h) (Or.inl ⟨by rfl, ?_⟩) hHeld ?_ ?_
  rotate_left
  ·rintro w' ⟨s0, s1, s2, s3, s4, s5, s6, s7⟩
   go_simp
   with_reducible rfl
  rotate_left
  ·simp only [Act.put, List.setIfInBounds_toArray, List.set_cons_zero, List.set_cons_succ, i64_w, i32_w]
   rfl
  refine one_ (i := 7) (N := some 84) (zb 43 255) rfl rfl (by kernel_rfl) (by decide) (fun K hK => ?_)
  refine goes_ Try.func27 (by kernel_rfl) rfl #[.agg #[.string X.nm, .int .i64 X.pa, .int .i64 X.rt, .slice Ar X.rg.length cr, .slice Ab X.bl.length cb, .slice Ag X.bg.length cg, .int .i64 X.at_], .int .i64 X.at_] (by rfl) rfl rfl (by simp only [List.map_toArray, List.map_cons, List.map_nil]; first | rfl | go_simp) ?_
  with_reducible refine (balustraderef24_Over.calls X.nm X.pa X.rt Ar cr X.rg Ab cb X.bl Ag cg X.bg X.at_ X.at_ false _ (by with_reducible first | exact HC3.out.1 | exact Kd.C_drew HC3.out.1) HC3.out.2 (by with_reducible first | exact HC4.out.1 | exact Kd.C_drew HC4.out.1) HC4.out.2 (by with_reducible first | exact HC5.out.1 | exact Kd.C_drew HC5.out.1) HC5.out.2 HOV.out).mono ?_
  rintro e w2 ⟨rfl, hb⟩
  refine ⟨_, rfl, ?_⟩
  replace hb := below_step (below_drew (Below.refl W1.heap.size W1)) hb
  have HB2 := Aside0.mk hb
  clear hb
  refine hK.out _ _ ⟨(blk_cell (blk_below HXC.out HB2.out) 0).trans rfl, (blk_cell (blk_below HXC.out HB2.out) 1).trans rfl, (blk_cell (blk_below HXC.out HB2.out) 2).trans rfl, (blk_cell (blk_below HXC.out HB2.out) 3).trans rfl, (blk_cell (blk_below HXC.out HB2.out) 4).trans rfl, (blk_cell (blk_below HXC.out HB2.out) 5).trans rfl, (blk_cell (blk_below HXC.out HB2.out) 6).trans rfl, (blk_cell (blk_below BK.out HB2.out) 1).trans rfl⟩ (fun hHeld => ?_)
  clear hK K
  refine norm_ (a' := ?_) ?_ ?_
  rotate_left
  ·show Act.put _ (some 84) _ = _
   simp only [Act.put, List.setIfInBounds_toArray, List.set_cons_zero, List.set_cons_succ, i64_w, i32_w]
   rfl
  refine pT 8 (some 85) (zb 43 511) (h := ?_)
  refine pU 9 (some 86) (zb 43 1023) (h := ?_)
  refine pU 10 (some 87) (zb 43 2047) (h := ?_)
  refine pU 11 (some 88) (zb 43 4095) (h := ?_)
  refine pT 12 (some 89) (zb 43 8191) (h := ?_)
  refine pT 13 (some 90) (zb 43 16383) (h := ?_)
  refine pU 14 (some 91) (zb 43 32767) (h := ?_)
  refine pU 15 (some 92) (zb 43 65535) (h := ?_)
  refine pU 16 (some 93) (zb 43 131071) (h := ?_)
  refine pU 17 (some 94) (zb 43 262143) (h := ?_)
  refine pU 18 (some 95) (zb 43 524287) (h := ?_)
  refine pU 19 (some 96) (zb 43 1048575) (h := ?_)
  refine pU 20 (some 97) (zb 43 2097151) (h := ?_)
  refine pU 21 (some 98) (zb 43 4194303) (h := ?_)
  refine pT 22 (some 99) (zb 43 8388607) (h := ?_)
  refine pT 23 (some 100) (zb 43 16777215) (h := ?_)
  refine pU 24 (some 101) (zb 43 33554431) (h := ?_)
  refine pU 25 (some 102) (zb 43 67108863) (h := ?_)
  refine pU 26 (some 103) (zb 43 134217727) (h := ?_)
  refine pU 27 (some 104) (zb 43 268435455) (h := ?_)
  refine pU 28 (some 105) (zb 43 536870911) (h := ?_)
  refine pU 29 (some 106) (zb 43 1073741823) (h := ?_)
  refine pU 30 (some 107) (zb 43 2147483647) (h := ?_)
  refine pU 31 (some 108) (zb 43 4294967295) (h := ?_)
  refine pU 32 (some 109) (zb 43 8589934591) (h := ?_)
  refine pU 33 (some 110) (zb 43 17179869183) (h := ?_)
  refine pU 34 (some 111) (zb 43 34359738367) (h := ?_)
  refine pU 35 (some 112) (zb 43 68719476735) (h := ?_)
  refine pU 36 (some 113) (zb 43 137438953471) (h := ?_)
  refine pU 37 (some 114) (zb 43 274877906943) (h := ?_)
  refine pU 38 (some 115) (zb 43 549755813887) (h := ?_)
  refine pU 39 (some 116) (zb 43 1099511627775) (h := ?_)
  refine pU 40 (some 117) (zb 43 2199023255551) (h := ?_)
  refine pT 41 (some 118) (zb 43 4398046511103) (h := ?_)
  refine pT 42 (some 8) (zb 43 8796093022207) (h := ?_)
  refine done_ (by kernel_rfl) ?_
  have HBO2 := Aside0.mk (HBO.out.below HB2.out)
  have BK2 := Aside0.mk (blk_below BK.out HB2.out)
  have HW2 := Aside0.mk (below_step HW.out HB2.out)
  have HKF := Aside0.mk hbe
  clear c0 c1 c2 c3 c4 c5 c6 k1 HXC HC3 HC4 HC5 HXG hbe hHeld
  have k0 := blk_cell BK2.out 0
  have k1 := blk_cell BK2.out 1
  simp only [List.getElem?_toArray, List.getElem?_cons_zero, List.getElem?_cons_succ] at k0 k1
  go_wp2_with ((go_at_call 31; ((refine (Begin_bad (V := V) HBO2.out.choose_spec.choose_spec.1 HRL.out.fit n HKF.out).mono ?_); rintro e w8 ⟨rfl, hd⟩; have hb := hd.below; replace HBO2 := Aside0.mk (HBO2.out.below hb); replace BK2 := Aside0.mk (blk_below BK2.out hb); replace HW2 := Aside0.mk (below_step HW2.out hb); clear hb hd)))
  go_ret
  exact ⟨_, _, by first | rfl | exact ret_b (by simp), HRL.out, HSM.out.up, HBO2.out, HW2.out⟩
 | true =>
  rw [Bool.true_and] at hbe
  by_cases a1 : 0 ≤ n
  ·have t1 : decide (0 ≤ n) = true := decide_eq_true a1
   rw [t1, Bool.true_and] at hbe
   by_cases a2 : n < (X.bg.length : Int)
   ·have t2 : decide (n < (X.bg.length : Int)) = true := decide_eq_true a2
    rw [t2, Bool.true_and] at hbe
    obtain ⟨q, cg', eq_, hq1, hq2, qcs, hqb⟩ := Kd.R_form HXG.out (by omega)
    obtain ⟨ad, ead, cq⟩ := Kd.at_bool HC5.out.1 n a1 a2
    injection eq_ with eq1 _ _
    subst eq1
    injection ead with ead
    subst ead
    have e0 : rdOf false X.bg n = X.bg.getD n.toNat false := rfl
    rw [e0, add_plain] at cq
    have hqj := (blk_cell hqb n.toNat).symm.trans cq
    have HQB := Aside0.mk hqb
    have HQJ := Aside0.mk hqj
    obtain ⟨y, ey⟩ : ∃ y, X.bg.getD n.toNat false = y := ⟨_, rfl⟩
    rw [ey] at cq hqj hbe HQJ
    have EY := Aside0.mk ey
    have w1_ : IntKind.i64.wrap ((X.bg.length : Int) - 1) = (X.bg.length : Int) - 1 := by rw [IntKind.wrap_i64]; omega
    have w2_ : wrap64 ((X.bg.length : Int) - 1) = (X.bg.length : Int) - 1 := by rw [← i64_w]; exact w1_
    have w3_ : ¬ ((X.bg.length : Int) - 1 < n) := by omega
    have w4_ : (if 0 < n then n else 0) = n := by split <;> omega
    clear hqj e0 ey
    cases y with
    | true =>
     rw [Bool.not_true] at hbe
     refine start_ (n := 43) (S := fun w' => w'.cell? ⟨gx, 0, none⟩ = some (.string X.nm) ∧ w'.cell? ⟨gx, 1, none⟩ = some (.int .i64 X.pa) ∧ w'.cell? ⟨gx, 2, none⟩ = some (.int .i64 X.rt) ∧ w'.cell? ⟨gx, 3, none⟩ = some (.slice Ar X.rg.length cr) ∧ w'.cell? ⟨gx, 4, none⟩ = some (.slice Ab X.bl.length cb) ∧ w'.cell? ⟨gx, 5, none⟩ = some (.slice (some ⟨q, 0, none⟩) X.bg.length cg) ∧ w'.cell? ⟨gx, 6, none⟩ = some (.int .i64 X.at_) ∧ w'.cell? ⟨w.heap.size, 1, none⟩ = some (.int .i64 n) ∧ w'.cell? ⟨q, n.toNat, none⟩ = some (.bool true)) (ds := []) #[false, false, false, false, false, false, false, false, false, false, false, false, false, false, false, false, false, false, false, false, false, false, false, false, false, false, false, false, false, false, false, false, false, false, false, false, false, false, false, false, false, false, false] (by kernel_rfl) rfl rfl ⟨c0, c1, c2, c3, c4, c5, c6, k1, cq⟩ (fun hHeld => ?_)
     refine pT 0 (some 77) (zb 43 1) (h := ?_)
     refine pT 1 (some 78) (zb 43 3) (h := ?_)
     refine pT 3 (some 80) (zb 43 11) (h := ?_)
     refine pT 4 (some 81) (zb 43 27) (h := ?_)
     refine pT 5 (some 82) (zb 43 59) (h := ?_)
     refine take_ (i := 2) (N := some 79) (v := ?_) (a' := ?_) (zb 43 63) rfl rfl (by kernel_rfl) (fun _ _ _ h => h) (Or.inl ⟨by rfl, ?_⟩) hHeld ?_ ?_
     rotate_left
     ·rintro w' ⟨s0, s1, s2, s3, s4, s5, s6, s7, s8⟩
      go_simp
      with_reducible rfl
     rotate_left
     ·simp only [Act.put, List.setIfInBounds_toArray, List.set_cons_zero, List.set_cons_succ, i64_w, i32_w]
      rfl
     refine take_ (i := 6) (N := some 83) (v := ?_) (a' := ?_) (zb 43 127) rfl rfl (by kernel_rfl) (fun _ _ _ h => h) (Or.inl ⟨by rfl, ?_⟩) hHeld ?_ ?_
     rotate_left
     ·rintro w' ⟨s0, s1, s2, s3, s4, s5, s6, s7, s8⟩
      go_simp
      with_reducible rfl
     rotate_left
     ·simp only [Act.put, List.setIfInBounds_toArray, List.set_cons_zero, List.set_cons_succ, i64_w, i32_w]
      rfl
     refine one_ (i := 7) (N := some 84) (zb 43 255) rfl rfl (by kernel_rfl) (by decide) (fun K hK => ?_)
     refine goes_ Try.func27 (by kernel_rfl) rfl #[.agg #[.string X.nm, .int .i64 X.pa, .int .i64 X.rt, .slice Ar X.rg.length cr, .slice Ab X.bl.length cb, .slice (some ⟨q, 0, none⟩) X.bg.length cg, .int .i64 X.at_], .int .i64 X.at_] (by rfl) rfl rfl (by simp only [List.map_toArray, List.map_cons, List.map_nil]; first | rfl | go_simp) ?_
     with_reducible refine (balustraderef24_Over.calls X.nm X.pa X.rt Ar cr X.rg Ab cb X.bl (some ⟨q, 0, none⟩) cg X.bg X.at_ X.at_ true _ (by with_reducible first | exact HC3.out.1 | exact Kd.C_drew HC3.out.1) HC3.out.2 (by with_reducible first | exact HC4.out.1 | exact Kd.C_drew HC4.out.1) HC4.out.2 (by with_reducible first | exact HC5.out.1 | exact Kd.C_drew HC5.out.1) HC5.out.2 HOV.out).mono ?_
     rintro e w2 ⟨rfl, hb⟩
     refine ⟨_, rfl, ?_⟩
     replace hb := below_step (below_drew (Below.refl W1.heap.size W1)) hb
     have HB2 := Aside0.mk hb
     clear hb
     refine hK.out _ _ ⟨(blk_cell (blk_below HXC.out HB2.out) 0).trans rfl, (blk_cell (blk_below HXC.out HB2.out) 1).trans rfl, (blk_cell (blk_below HXC.out HB2.out) 2).trans rfl, (blk_cell (blk_below HXC.out HB2.out) 3).trans rfl, (blk_cell (blk_below HXC.out HB2.out) 4).trans rfl, (blk_cell (blk_below HXC.out HB2.out) 5).trans rfl, (blk_cell (blk_below HXC.out HB2.out) 6).trans rfl, (blk_cell (blk_below BK.out HB2.out) 1).trans rfl, (blk_cell (blk_below HQB.out HB2.out) n.toNat).trans HQJ.out⟩ (fun hHeld => ?_)
     clear hK K
     refine norm_ (a' := ?_) ?_ ?_
     rotate_left
     ·show Act.put _ (some 84) _ = _
      simp only [Act.put, List.setIfInBounds_toArray, List.set_cons_zero, List.set_cons_succ, i64_w, i32_w]
      rfl
     refine pT 8 (some 85) (zb 43 511) (h := ?_)
     refine pT 9 (some 86) (zb 43 1023) (h := ?_)
     refine take_ (i := 10) (N := some 87) (v := ?_) (a' := ?_) (zb 43 2047) rfl rfl (by kernel_rfl) (fun _ _ _ h => h) (Or.inl ⟨by rfl, ?_⟩) hHeld ?_ ?_
     rotate_left
     ·rintro w' ⟨s0, s1, s2, s3, s4, s5, s6, s7, s8⟩
      go_simp
      with_reducible rfl
     rotate_left
     ·simp only [Act.put, List.setIfInBounds_toArray, List.set_cons_zero, List.set_cons_succ, i64_w, i32_w]
      rfl
     refine pT 11 (some 88) (zb 43 4095) (h := ?_)
     refine pT 12 (some 89) (zb 43 8191) (h := ?_)
     refine pT 13 (some 90) (zb 43 16383) (h := ?_)
     refine pT 14 (some 91) (zb 43 32767) (h := ?_)
     refine pT 16 (some 93) (zb 43 98303) (h := ?_)
     refine pT 17 (some 94) (zb 43 229375) (h := ?_)
     refine pT 18 (some 95) (zb 43 491519) (h := ?_)
     refine take_ (i := 15) (N := some 92) (v := ?_) (a' := ?_) (zb 43 524287) rfl rfl (by kernel_rfl) (fun _ _ _ h => h) (Or.inl ⟨by rfl, ?_⟩) hHeld ?_ ?_
     rotate_left
     ·rintro w' ⟨s0, s1, s2, s3, s4, s5, s6, s7, s8⟩
      go_simp
      with_reducible rfl
     rotate_left
     ·simp only [Act.put, List.setIfInBounds_toArray, List.set_cons_zero, List.set_cons_succ, i64_w, i32_w]
      rfl
     refine take_ (i := 19) (N := some 96) (v := ?_) (a' := ?_) (zb 43 1048575) rfl rfl (by kernel_rfl) (fun _ _ _ h => h) (Or.inl ⟨by rfl, ?_⟩) hHeld ?_ ?_
     rotate_left
     ·rintro w' ⟨s0, s1, s2, s3, s4, s5, s6, s7, s8⟩
      go_simp
      with_reducible rfl
     rotate_left
     ·simp only [Act.put, List.setIfInBounds_toArray, List.set_cons_zero, List.set_cons_succ, i64_w, i32_w]
      rfl
     refine pT 20 (some 97) (zb 43 2097151) (h := ?_)
     refine pT 21 (some 98) (zb 43 4194303) (h := ?_)
     refine pT 22 (some 99) (zb 43 8388607) (h := ?_)
     refine pT 23 (some 100) (zb 43 16777215) (h := ?_)
     refine pT 24 (some 101) (zb 43 33554431) (h := ?_)
     refine pT 25 (some 102) (zb 43 67108863) (h := ?_)
     refine pT 26 (some 103) (zb 43 134217727) (h := ?_)
     refine pT 28 (some 105) (zb 43 402653183) (h := ?_)
     refine pT 30 (some 107) (zb 43 1476395007) (h := ?_)
     refine pT 31 (some 108) (zb 43 3623878655) (h := ?_)
     refine pT 32 (some 109) (zb 43 7918845951) (h := ?_)
     refine take_ (i := 27) (N := some 104) (v := ?_) (a' := ?_) (zb 43 8053063679) rfl rfl (by kernel_rfl) (fun _ _ _ h => h) (Or.inl ⟨by rfl, ?_⟩) hHeld ?_ ?_
     rotate_left
     ·rintro w' ⟨s0, s1, s2, s3, s4, s5, s6, s7, s8⟩
      go_simp
      with_reducible rfl
     rotate_left
     ·simp only [Act.put, List.setIfInBounds_toArray, List.set_cons_zero, List.set_cons_succ, i64_w, i32_w]
      rfl
     refine take_ (i := 29) (N := some 106) (v := ?_) (a' := ?_) (zb 43 8589934591) rfl rfl (by kernel_rfl) (fun _ _ _ h => h) (Or.inl ⟨by rfl, ?_⟩) hHeld ?_ ?_
     rotate_left
     ·rintro w' ⟨s0, s1, s2, s3, s4, s5, s6, s7, s8⟩
      go_simp
      with_reducible rfl
     rotate_left
     ·simp only [Act.put, List.setIfInBounds_toArray, List.set_cons_zero, List.set_cons_succ, i64_w, i32_w]
      rfl
     refine take_ (i := 33) (N := some 110) (v := ?_) (a' := ?_) (zb 43 17179869183) rfl rfl (by kernel_rfl) (fun _ _ _ h => h) (Or.inl ⟨by rfl, ?_⟩) hHeld ?_ ?_
     rotate_left
     ·rintro w' ⟨s0, s1, s2, s3, s4, s5, s6, s7, s8⟩
      go_simp
      with_reducible rfl
     rotate_left
     ·simp only [Act.put, List.setIfInBounds_toArray, List.set_cons_zero, List.set_cons_succ, i64_w, i32_w]
      rfl
     refine pT 34 (some 111) (zb 43 34359738367) (h := ?_)
     refine pT 35 (some 112) (zb 43 68719476735) (h := ?_)
     refine pT 36 (some 113) (zb 43 137438953471) (h := ?_)
     refine pT 37 (some 114) (zb 43 274877906943) (h := ?_)
     refine pT 38 (some 115) (zb 43 549755813887) (h := ?_)
     refine take_ (i := 39) (N := some 116) (v := ?_) (a' := ?_) (zb 43 1099511627775) rfl rfl (by kernel_rfl) (fun _ _ _ h => h) (Or.inl ⟨by rfl, ?_⟩) hHeld ?_ ?_
     rotate_left
     ·rintro w' ⟨s0, s1, s2, s3, s4, s5, s6, s7, s8⟩
      go_simp
      with_reducible rfl
     rotate_left
     ·simp only [Act.put, List.setIfInBounds_toArray, List.set_cons_zero, List.set_cons_succ, i64_w, i32_w]
      rfl
     refine pT 40 (some 117) (zb 43 2199023255551) (h := ?_)
     refine pT 41 (some 118) (zb 43 4398046511103) (h := ?_)
     refine pT 42 (some 8) (zb 43 8796093022207) (h := ?_)
     refine done_ (by kernel_rfl) ?_
     have HBO2 := Aside0.mk (HBO.out.below HB2.out)
     have BK2 := Aside0.mk (blk_below BK.out HB2.out)
     have HW2 := Aside0.mk (below_step HW.out HB2.out)
     have HKF := Aside0.mk hbe
     clear c0 c1 c2 c3 c4 c5 c6 k1 HXC HC3 HC4 HC5 HXG hbe hHeld
     have k0 := blk_cell BK2.out 0
     have k1 := blk_cell BK2.out 1
     simp only [List.getElem?_toArray, List.getElem?_cons_zero, List.getElem?_cons_succ] at k0 k1
     go_wp2_with ((go_at_call 31; ((refine (Begin_bad (V := V) HBO2.out.choose_spec.choose_spec.1 HRL.out.fit n HKF.out).mono ?_); rintro e w8 ⟨rfl, hd⟩; have hb := hd.below; replace HBO2 := Aside0.mk (HBO2.out.below hb); replace BK2 := Aside0.mk (blk_below BK2.out hb); replace HW2 := Aside0.mk (below_step HW2.out hb); clear hb hd)))
     go_ret
     exact ⟨_, _, by first | rfl | exact ret_b (by simp), HRL.out, HSM.out.up, HBO2.out, HW2.out⟩
    | false =>
     rw [Bool.not_false] at hbe
     refine start_ (n := 43) (S := fun w' => w'.cell? ⟨gx, 0, none⟩ = some (.string X.nm) ∧ w'.cell? ⟨gx, 1, none⟩ = some (.int .i64 X.pa) ∧ w'.cell? ⟨gx, 2, none⟩ = some (.int .i64 X.rt) ∧ w'.cell? ⟨gx, 3, none⟩ = some (.slice Ar X.rg.length cr) ∧ w'.cell? ⟨gx, 4, none⟩ = some (.slice Ab X.bl.length cb) ∧ w'.cell? ⟨gx, 5, none⟩ = some (.slice (some ⟨q, 0, none⟩) X.bg.length cg) ∧ w'.cell? ⟨gx, 6, none⟩ = some (.int .i64 X.at_) ∧ w'.cell? ⟨w.heap.size, 1, none⟩ = some (.int .i64 n) ∧ w'.cell? ⟨q, n.toNat, none⟩ = some (.bool false)) (ds := []) #[false, false, false, false, false, false, false, false, false, false, false, false, false, false, false, false, false, false, false, false, false, false, false, false, false, false, false, false, false, false, false, false, false, false, false, false, false, false, false, false, false, false, false] (by kernel_rfl) rfl rfl ⟨c0, c1, c2, c3, c4, c5, c6, k1, cq⟩ (fun hHeld => ?_)
     refine pT 0 (some 77) (zb 43 1) (h := ?_)
     refine pT 1 (some 78) (zb 43 3) (h := ?_)
     refine pT 3 (some 80) (zb 43 11) (h := ?_)
     refine pT 4 (some 81) (zb 43 27) (h := ?_)
     refine pT 5 (some 82) (zb 43 59) (h := ?_)
     refine take_ (i := 2) (N := some 79) (v := ?_) (a' := ?_) (zb 43 63) rfl rfl (by kernel_rfl) (fun _ _ _ h => h) (Or.inl ⟨by rfl, ?_⟩) hHeld ?_ ?_
     rotate_left
     ·rintro w' ⟨s0, s1, s2, s3, s4, s5, s6, s7, s8⟩
      go_simp
      with_reducible rfl
     rotate_left
     ·simp only [Act.put, List.setIfInBounds_toArray, List.set_cons_zero, List.set_cons_succ, i64_w, i32_w]
      rfl
     refine take_ (i := 6) (N := some 83) (v := ?_) (a' := ?_) (zb 43 127) rfl rfl (by kernel_rfl) (fun _ _ _ h => h) (Or.inl ⟨by rfl, ?_⟩) hHeld ?_ ?_
     rotate_left
     ·rintro w' ⟨s0, s1, s2, s3, s4, s5, s6, s7, s8⟩
      go_simp
      with_reducible rfl
     rotate_left
     ·simp only [Act.put, List.setIfInBounds_toArray, List.set_cons_zero, List.set_cons_succ, i64_w, i32_w]
      rfl
     refine one_ (i := 7) (N := some 84) (zb 43 255) rfl rfl (by kernel_rfl) (by decide) (fun K hK => ?_)
     refine goes_ Try.func27 (by kernel_rfl) rfl #[.agg #[.string X.nm, .int .i64 X.pa, .int .i64 X.rt, .slice Ar X.rg.length cr, .slice Ab X.bl.length cb, .slice (some ⟨q, 0, none⟩) X.bg.length cg, .int .i64 X.at_], .int .i64 X.at_] (by rfl) rfl rfl (by simp only [List.map_toArray, List.map_cons, List.map_nil]; first | rfl | go_simp) ?_
     with_reducible refine (balustraderef24_Over.calls X.nm X.pa X.rt Ar cr X.rg Ab cb X.bl (some ⟨q, 0, none⟩) cg X.bg X.at_ X.at_ true _ (by with_reducible first | exact HC3.out.1 | exact Kd.C_drew HC3.out.1) HC3.out.2 (by with_reducible first | exact HC4.out.1 | exact Kd.C_drew HC4.out.1) HC4.out.2 (by with_reducible first | exact HC5.out.1 | exact Kd.C_drew HC5.out.1) HC5.out.2 HOV.out).mono ?_
     rintro e w2 ⟨rfl, hb⟩
     refine ⟨_, rfl, ?_⟩
     replace hb := below_step (below_drew (Below.refl W1.heap.size W1)) hb
     have HB2 := Aside0.mk hb
     clear hb
     refine hK.out _ _ ⟨(blk_cell (blk_below HXC.out HB2.out) 0).trans rfl, (blk_cell (blk_below HXC.out HB2.out) 1).trans rfl, (blk_cell (blk_below HXC.out HB2.out) 2).trans rfl, (blk_cell (blk_below HXC.out HB2.out) 3).trans rfl, (blk_cell (blk_below HXC.out HB2.out) 4).trans rfl, (blk_cell (blk_below HXC.out HB2.out) 5).trans rfl, (blk_cell (blk_below HXC.out HB2.out) 6).trans rfl, (blk_cell (blk_below BK.out HB2.out) 1).trans rfl, (blk_cell (blk_below HQB.out HB2.out) n.toNat).trans HQJ.out⟩ (fun hHeld => ?_)
     clear hK K
     refine norm_ (a' := ?_) ?_ ?_
     rotate_left
     ·show Act.put _ (some 84) _ = _
      simp only [Act.put, List.setIfInBounds_toArray, List.set_cons_zero, List.set_cons_succ, i64_w, i32_w]
      rfl
     refine pT 8 (some 85) (zb 43 511) (h := ?_)
     refine pT 9 (some 86) (zb 43 1023) (h := ?_)
     refine take_ (i := 10) (N := some 87) (v := ?_) (a' := ?_) (zb 43 2047) rfl rfl (by kernel_rfl) (fun _ _ _ h => h) (Or.inl ⟨by rfl, ?_⟩) hHeld ?_ ?_
     rotate_left
     ·rintro w' ⟨s0, s1, s2, s3, s4, s5, s6, s7, s8⟩
      go_simp
      with_reducible rfl
     rotate_left
     ·simp only [Act.put, List.setIfInBounds_toArray, List.set_cons_zero, List.set_cons_succ, i64_w, i32_w]
      rfl
     refine pT 11 (some 88) (zb 43 4095) (h := ?_)
     refine pT 12 (some 89) (zb 43 8191) (h := ?_)
     refine pT 13 (some 90) (zb 43 16383) (h := ?_)
     refine pT 14 (some 91) (zb 43 32767) (h := ?_)
     refine pT 16 (some 93) (zb 43 98303) (h := ?_)
     refine pT 17 (some 94) (zb 43 229375) (h := ?_)
     refine pT 18 (some 95) (zb 43 491519) (h := ?_)
     refine take_ (i := 15) (N := some 92) (v := ?_) (a' := ?_) (zb 43 524287) rfl rfl (by kernel_rfl) (fun _ _ _ h => h) (Or.inl ⟨by rfl, ?_⟩) hHeld ?_ ?_
     rotate_left
     ·rintro w' ⟨s0, s1, s2, s3, s4, s5, s6, s7, s8⟩
      go_simp
      with_reducible rfl
     rotate_left
     ·simp only [Act.put, List.setIfInBounds_toArray, List.set_cons_zero, List.set_cons_succ, i64_w, i32_w]
      rfl
     refine take_ (i := 19) (N := some 96) (v := ?_) (a' := ?_) (zb 43 1048575) rfl rfl (by kernel_rfl) (fun _ _ _ h => h) (Or.inl ⟨by rfl, ?_⟩) hHeld ?_ ?_
     rotate_left
     ·rintro w' ⟨s0, s1, s2, s3, s4, s5, s6, s7, s8⟩
      go_simp
      with_reducible rfl
     rotate_left
     ·simp only [Act.put, List.setIfInBounds_toArray, List.set_cons_zero, List.set_cons_succ, i64_w, i32_w]
      rfl
     refine pT 20 (some 97) (zb 43 2097151) (h := ?_)
     refine pT 21 (some 98) (zb 43 4194303) (h := ?_)
     refine pT 22 (some 99) (zb 43 8388607) (h := ?_)
     refine pT 23 (some 100) (zb 43 16777215) (h := ?_)
     refine pT 24 (some 101) (zb 43 33554431) (h := ?_)
     refine pT 25 (some 102) (zb 43 67108863) (h := ?_)
     refine pT 26 (some 103) (zb 43 134217727) (h := ?_)
     refine pT 28 (some 105) (zb 43 402653183) (h := ?_)
     refine pT 30 (some 107) (zb 43 1476395007) (h := ?_)
     refine pT 31 (some 108) (zb 43 3623878655) (h := ?_)
     refine pT 32 (some 109) (zb 43 7918845951) (h := ?_)
     refine take_ (i := 27) (N := some 104) (v := ?_) (a' := ?_) (zb 43 8053063679) rfl rfl (by kernel_rfl) (fun _ _ _ h => h) (Or.inl ⟨by rfl, ?_⟩) hHeld ?_ ?_
     rotate_left
     ·rintro w' ⟨s0, s1, s2, s3, s4, s5, s6, s7, s8⟩
      go_simp
      with_reducible rfl
     rotate_left
     ·simp only [Act.put, List.setIfInBounds_toArray, List.set_cons_zero, List.set_cons_succ, i64_w, i32_w]
      rfl
     refine take_ (i := 29) (N := some 106) (v := ?_) (a' := ?_) (zb 43 8589934591) rfl rfl (by kernel_rfl) (fun _ _ _ h => h) (Or.inl ⟨by rfl, ?_⟩) hHeld ?_ ?_
     rotate_left
     ·rintro w' ⟨s0, s1, s2, s3, s4, s5, s6, s7, s8⟩
      go_simp
      with_reducible rfl
     rotate_left
     ·simp only [Act.put, List.setIfInBounds_toArray, List.set_cons_zero, List.set_cons_succ, i64_w, i32_w]
      rfl
     refine take_ (i := 33) (N := some 110) (v := ?_) (a' := ?_) (zb 43 17179869183) rfl rfl (by kernel_rfl) (fun _ _ _ h => h) (Or.inl ⟨by rfl, ?_⟩) hHeld ?_ ?_
     rotate_left
     ·rintro w' ⟨s0, s1, s2, s3, s4, s5, s6, s7, s8⟩
      go_simp
      with_reducible rfl
     rotate_left
     ·simp only [Act.put, List.setIfInBounds_toArray, List.set_cons_zero, List.set_cons_succ, i64_w, i32_w]
      rfl
     refine pT 34 (some 111) (zb 43 34359738367) (h := ?_)
     refine pT 35 (some 112) (zb 43 68719476735) (h := ?_)
     refine pT 36 (some 113) (zb 43 137438953471) (h := ?_)
     refine pT 37 (some 114) (zb 43 274877906943) (h := ?_)
     refine pT 38 (some 115) (zb 43 549755813887) (h := ?_)
     refine take_ (i := 39) (N := some 116) (v := ?_) (a' := ?_) (zb 43 1099511627775) rfl rfl (by kernel_rfl) (fun _ _ _ h => h) (Or.inl ⟨by rfl, ?_⟩) hHeld ?_ ?_
     rotate_left
     ·rintro w' ⟨s0, s1, s2, s3, s4, s5, s6, s7, s8⟩
      go_simp
      with_reducible rfl
     rotate_left
     ·simp only [Act.put, List.setIfInBounds_toArray, List.set_cons_zero, List.set_cons_succ, i64_w, i32_w]
      rfl
     refine pT 40 (some 117) (zb 43 2199023255551) (h := ?_)
     refine pT 41 (some 118) (zb 43 4398046511103) (h := ?_)
     refine pT 42 (some 8) (zb 43 8796093022207) (h := ?_)
     refine done_ (by kernel_rfl) ?_
     have HBO2 := Aside0.mk (HBO.out.below HB2.out)
     have BK2 := Aside0.mk (blk_below BK.out HB2.out)
     have HW2 := Aside0.mk (below_step HW.out HB2.out)
     have HX2 := Aside0.mk (blk_below HXC.out HB2.out)
     have HQ2 := Aside0.mk (blk_below HQB.out HB2.out)
     have HKT := Aside0.mk hbe
     have HQN : Aside0 (q ≠ gx ∧ q ≠ w.heap.size) := ⟨⟨fun e => by subst e; exact absurd (blk_ne HQB.out HXC.out (by decide)) (fun h => h rfl), fun e => by subst e; exact absurd (blk_ne HQB.out BK.out (by decide)) (fun h => h rfl)⟩⟩
     have HBX_ : Aside0 (beginX X n = true) := ⟨by unfold beginX; rw [EO.out, EY.out, t1, t2]; rfl⟩
     have HQL : Aside0 (w0.heap.size ≤ q) := ⟨hq1⟩
     clear c0 c1 c2 c3 c4 c5 c6 k1 HXC HC3 HC4 HC5 HXG hbe hHeld BK HB2 HQB cq hq1 hq2 HW HBO w1_ w2_ w3_ w4_ HOV HZ1
     go_upto_region 15 with (fail)
     have k0 := blk_cell BK2.out 0
     have k1 := blk_cell BK2.out 1
     simp only [List.getElem?_toArray, List.getElem?_cons_zero, List.getElem?_cons_succ] at k0 k1
     have c0 := blk_cell HX2.out 0
     have c1 := blk_cell HX2.out 1
     have c2 := blk_cell HX2.out 2
     have c3 := blk_cell HX2.out 3
     have c4 := blk_cell HX2.out 4
     have c5 := blk_cell HX2.out 5
     simp only [List.getElem?_toArray, List.getElem?_cons_zero, List.getElem?_cons_succ] at c0 c1 c2 c3 c4 c5
     have zq := blk_frozen HQ2.out n.toNat
     have cq2 := (blk_cell HQ2.out n.toNat).trans HQJ.out
     refine start_ (n := 8) (S := fun w' => w'.cell? ⟨gx, 5, none⟩ = some (.slice (some ⟨q, 0, none⟩) X.bg.length cg) ∧ w'.cell? ⟨w.heap.size, 1, none⟩ = some (.int .i64 n)) (ds := [7]) #[false, false, false, false, false, false, false, false] (by kernel_rfl) rfl rfl ⟨c5, k1⟩ (fun hHeld => ?_)
     refine pT 0 (some 120) (zb 8 1) (h := ?_)
     refine pT 1 (some 121) (zb 8 3) (h := ?_)
     refine pT 2 (some 122) (zb 8 7) (h := ?_)
     refine pT 4 (some 124) (zb 8 23) (h := ?_)
     refine take_ (i := 3) (N := some 123) (v := ?_) (a' := ?_) (zb 8 31) rfl rfl (by kernel_rfl) (fun _ _ _ h => h) (Or.inl ⟨by rfl, ?_⟩) hHeld ?_ ?_
     rotate_left
     ·rintro w' ⟨s0, s1⟩
      go_simp
      with_reducible rfl
     rotate_left
     ·simp only [Act.put, List.setIfInBounds_toArray, List.set_cons_zero, List.set_cons_succ, i64_w, i32_w]
      rfl
     refine take_ (i := 5) (N := some 125) (v := ?_) (a' := ?_) (zb 8 63) rfl rfl (by kernel_rfl) (fun _ _ _ h => h) (Or.inl ⟨by rfl, ?_⟩) hHeld ?_ ?_
     rotate_left
     ·rintro w' ⟨s0, s1⟩
      go_simp
      with_reducible rfl
     rotate_left
     ·simp only [Act.put, List.setIfInBounds_toArray, List.set_cons_zero, List.set_cons_succ, i64_w, i32_w]
      rfl
     refine pT 6 (some 126) (zb 8 127) (h := ?_)
     refine last_ (i := 7) (N := none) (zb 8 255) rfl rfl (by kernel_rfl) (by decide) (fun K hK => ?_)
     refine skip_ (w1 := ?_) (by rfl) rfl ?_ ?_
     rotate_left
     ·go_simp
      rfl
     refine hK.out _ _ ?_
     clear hK K
     refine done_ (by kernel_rfl) ?_
     have HB3 := Aside0.mk (HBO2.out.below (below_drew (Below.refl w2.heap.size w2)))
     have HD := Aside0.mk (blk_drew HX2.out)
     have HBK3 : Aside0 ((w2.setCell ⟨q, n.toNat, none⟩ (.bool true)).drew.heap[w.heap.size]? = some (.cells #[.int .i64 2, .int .i64 n, .int .i64 x.f0, .int .i64 x.f1, .int .i64 x.f2, .int .i64 x.f3, .int .i64 x.f4, .int .i64 x.f5, .int .i64 x.f6, .int .i64 x.f7, .slice A8 x.f8.length c8] 54 (0, 0))) := ⟨blk_drew (blk_far BK2.out (p := ⟨q, n.toNat, none⟩) (fun e => HQN.out.2 e.symm) _)⟩
     have HX3 : Aside0 ((w2.setCell ⟨q, n.toNat, none⟩ (.bool true)).drew.heap[gx]? = some (.cells #[.string X.nm, .int .i64 X.pa, .int .i64 X.rt, .slice Ar X.rg.length cr, .slice Ab X.bl.length cb, .slice (some ⟨q, 0, none⟩) X.bg.length cg, .int .i64 X.at_] 52 (0, 0))) := ⟨blk_drew (blk_far HX2.out (p := ⟨q, n.toNat, none⟩) (fun e => HQN.out.1 e.symm) _)⟩
     have HW3 : Aside0 (Below w0.heap.size w0 (w2.setCell ⟨q, n.toNat, none⟩ (.bool true)).drew) := ⟨below_drew (HW2.out.setCell (by exact HQL.out) _)⟩
     have HBO3 : Aside0 (Both w0 w0.heap.size (w2.setCell ⟨q, n.toNat, none⟩ (.bool true)).drew g gx V ⟨X.nm, X.pa, X.rt, X.rg, X.bl, X.bg.set n.toNat true, X.at_⟩) := ⟨by
      obtain ⟨okb, okx, b1, b2, b3, b4, b5, b6⟩ := HBO2.out
      exact (both_x b1 b2 b3 b4 b5 b6 (xt_st b2 c5 n.toNat true)).below (below_drew (Below.refl _ _))⟩
     generalize (w2.setCell ⟨q, n.toNat, none⟩ (.bool true)).drew = W3 at HBK3 HX3 HW3 HBO3 ⊢
     clear HB3 HD hHeld k0 k1 c0 c1 c2 c3 c4 c5 zq cq2 BK2 HW2 HBO2 HX2 HQ2
     have k0 := blk_cell HBK3.out 0
     have k1 := blk_cell HBK3.out 1
     simp only [List.getElem?_toArray, List.getElem?_cons_zero, List.getElem?_cons_succ] at k0 k1
     have c0 := blk_cell HX3.out 0
     have c1 := blk_cell HX3.out 1
     have c2 := blk_cell HX3.out 2
     have c3 := blk_cell HX3.out 3
     have c4 := blk_cell HX3.out 4
     have c5 := blk_cell HX3.out 5
     have c6 := blk_cell HX3.out 6
     simp only [List.getElem?_toArray, List.getElem?_cons_zero, List.getElem?_cons_succ] at c0 c1 c2 c3 c4 c5 c6
     have z6 := blk_frozen HX3.out 6
     go_upto_region 17 with (fail)
     have HBK4 : Aside0 ((W3.setCell ⟨gx, 6, none⟩ (.int .i64 n)).heap[w.heap.size]? = some (.cells #[.int .i64 2, .int .i64 n, .int .i64 x.f0, .int .i64 x.f1, .int .i64 x.f2, .int .i64 x.f3, .int .i64 x.f4, .int .i64 x.f5, .int .i64 x.f6, .int .i64 x.f7, .slice A8 x.f8.length c8] 54 (0, 0))) := ⟨blk_far HBK3.out (p := ⟨gx, 6, none⟩) (fun e => absurd (blk_ne HX3.out HBK3.out (by decide)) (fun h => h e.symm)) _⟩
     have HW4 : Aside0 (Below w0.heap.size w0 (W3.setCell ⟨gx, 6, none⟩ (.int .i64 n))) := ⟨HW3.out.setCell (by obtain ⟨_, _, _, b2, _⟩ := HBO3.out; exact b2.1) _⟩
     have HBO4 : Aside0 (Both w0 w0.heap.size (W3.setCell ⟨gx, 6, none⟩ (.int .i64 n)) g gx V ⟨X.nm, X.pa, X.rt, X.rg, X.bl, X.bg.set n.toNat true, n⟩) := ⟨by
      obtain ⟨okb, okx, b1, b2, b3, b4, b5, b6⟩ := HBO3.out
      exact both_x b1 b2 b3 b4 b5 b6 (xt_at b2 n)⟩
     generalize W3.setCell ⟨gx, 6, none⟩ (.int .i64 n) = W4 at HBK4 HW4 HBO4 ⊢
     clear k0 k1 c0 c1 c2 c3 c4 c5 c6 z6 HBK3 HX3 HW3 HBO3
     have k0 := blk_cell HBK4.out 0
     have k1 := blk_cell HBK4.out 1
     simp only [List.getElem?_toArray, List.getElem?_cons_zero, List.getElem?_cons_succ] at k0 k1
     obtain ⟨okb, okx, b1, b2, b3, b4, b5, b6⟩ := HBO4.out
     have HBB := Aside0.mk (And.intro b1 (And.intro b2 (And.intro b3 (And.intro b4 (And.intro b5 b6)))))
     clear b1 b2 b3 b4 b5 b6
     go_wp2_with ((go_at_call 31; ((refine (Begin_at (V := V) HBB.out.1 HRL.out.fit HW4.out n HKT.out).mono ?_); rintro e w8 ⟨rfl, hb, ht⟩; have HB8 := Aside0.mk hb; have HBO8 := Aside0.mk (both_b HBB.out.1 HBB.out.2.1 HBB.out.2.2.1 HBB.out.2.2.2.1 HBB.out.2.2.2.2.1 HBB.out.2.2.2.2.2 ht); clear hb ht)))
     go_ret
     exact ⟨_, _, by first | rfl | exact ret_b (by simp), HRL.out.begin_ n HBX_.out, ⟨HSM.out.up.1, HSM.out.up.2⟩, HBO8.out, HB8.out⟩
   ·have t2 : decide (n < (X.bg.length : Int)) = false := decide_eq_false a2
    rw [t2, Bool.false_and] at hbe
    refine start_ (n := 43) (S := fun w' => w'.cell? ⟨gx, 0, none⟩ = some (.string X.nm) ∧ w'.cell? ⟨gx, 1, none⟩ = some (.int .i64 X.pa) ∧ w'.cell? ⟨gx, 2, none⟩ = some (.int .i64 X.rt) ∧ w'.cell? ⟨gx, 3, none⟩ = some (.slice Ar X.rg.length cr) ∧ w'.cell? ⟨gx, 4, none⟩ = some (.slice Ab X.bl.length cb) ∧ w'.cell? ⟨gx, 5, none⟩ = some (.slice Ag X.bg.length cg) ∧ w'.cell? ⟨gx, 6, none⟩ = some (.int .i64 X.at_) ∧ w'.cell? ⟨w.heap.size, 1, none⟩ = some (.int .i64 n)) (ds := []) #[false, false, false, false, false, false, false, false, false, false, false, false, false, false, false, false, false, false, false, false, false, false, false, false, false, false, false, false, false, false, false, false, false, false, false, false, false, false, false, false, false, false, false] (by kernel_rfl) rfl rfl ⟨c0, c1, c2, c3, c4, c5, c6, k1⟩ (fun hHeld => ?_)
    refine pT 0 (some 77) (zb 43 1) (h := ?_)
    refine pT 1 (some 78) (zb 43 3) (h := ?_)
    refine pT 3 (some 80) (zb 43 11) (h := ?_)
    refine pT 4 (some 81) (zb 43 27) (h := ?_)
    refine pT 5 (some 82) (zb 43 59) (h := ?_)
    refine take_ (i := 2) (N := some 79) (v := ?_) (a' := ?_) (zb 43 63) rfl rfl (by kernel_rfl) (fun _ _ _ h => h) (Or.inl ⟨by rfl, ?_⟩) hHeld ?_ ?_
    rotate_left
    ·rintro w' ⟨s0, s1, s2, s3, s4, s5, s6, s7⟩
     go_simp
     with_reducible rfl
    rotate_left
    ·simp only [Act.put, List.setIfInBounds_toArray, List.set_cons_zero, List.set_cons_succ, i64_w, i32_w]
     rfl
    refine take_ (i := 6) (N := some 83) (v := ?_) (a' := ?_) (zb 43 127) rfl rfl (by kernel_rfl) (fun _ _ _ h => h) (Or.inl ⟨by rfl, ?_⟩) hHeld ?_ ?_
    rotate_left
    ·rintro w' ⟨s0, s1, s2, s3, s4, s5, s6, s7⟩
     go_simp
     with_reducible rfl
    rotate_left
    ·simp only [Act.put, List.setIfInBounds_toArray, List.set_cons_zero, List.set_cons_succ, i64_w, i32_w]
     rfl
    refine one_ (i := 7) (N := some 84) (zb 43 255) rfl rfl (by kernel_rfl) (by decide) (fun K hK => ?_)
    refine goes_ Try.func27 (by kernel_rfl) rfl #[.agg #[.string X.nm, .int .i64 X.pa, .int .i64 X.rt, .slice Ar X.rg.length cr, .slice Ab X.bl.length cb, .slice Ag X.bg.length cg, .int .i64 X.at_], .int .i64 X.at_] (by rfl) rfl rfl (by simp only [List.map_toArray, List.map_cons, List.map_nil]; first | rfl | go_simp) ?_
    with_reducible refine (balustraderef24_Over.calls X.nm X.pa X.rt Ar cr X.rg Ab cb X.bl Ag cg X.bg X.at_ X.at_ true _ (by with_reducible first | exact HC3.out.1 | exact Kd.C_drew HC3.out.1) HC3.out.2 (by with_reducible first | exact HC4.out.1 | exact Kd.C_drew HC4.out.1) HC4.out.2 (by with_reducible first | exact HC5.out.1 | exact Kd.C_drew HC5.out.1) HC5.out.2 HOV.out).mono ?_
    rintro e w2 ⟨rfl, hb⟩
    refine ⟨_, rfl, ?_⟩
    replace hb := below_step (below_drew (Below.refl W1.heap.size W1)) hb
    have HB2 := Aside0.mk hb
    clear hb
    refine hK.out _ _ ⟨(blk_cell (blk_below HXC.out HB2.out) 0).trans rfl, (blk_cell (blk_below HXC.out HB2.out) 1).trans rfl, (blk_cell (blk_below HXC.out HB2.out) 2).trans rfl, (blk_cell (blk_below HXC.out HB2.out) 3).trans rfl, (blk_cell (blk_below HXC.out HB2.out) 4).trans rfl, (blk_cell (blk_below HXC.out HB2.out) 5).trans rfl, (blk_cell (blk_below HXC.out HB2.out) 6).trans rfl, (blk_cell (blk_below BK.out HB2.out) 1).trans rfl⟩ (fun hHeld => ?_)
    clear hK K
    refine norm_ (a' := ?_) ?_ ?_
    rotate_left
    ·show Act.put _ (some 84) _ = _
     simp only [Act.put, List.setIfInBounds_toArray, List.set_cons_zero, List.set_cons_succ, i64_w, i32_w]
     rfl
    refine pT 8 (some 85) (zb 43 511) (h := ?_)
    refine pT 9 (some 86) (zb 43 1023) (h := ?_)
    refine take_ (i := 10) (N := some 87) (v := ?_) (a' := ?_) (zb 43 2047) rfl rfl (by kernel_rfl) (fun _ _ _ h => h) (Or.inl ⟨by rfl, ?_⟩) hHeld ?_ ?_
    rotate_left
    ·rintro w' ⟨s0, s1, s2, s3, s4, s5, s6, s7⟩
     go_simp
     with_reducible rfl
    rotate_left
    ·simp only [Act.put, List.setIfInBounds_toArray, List.set_cons_zero, List.set_cons_succ, i64_w, i32_w]
     rfl
    refine pT 11 (some 88) (zb 43 4095) (h := ?_)
    refine pT 12 (some 89) (zb 43 8191) (h := ?_)
    refine pT 13 (some 90) (zb 43 16383) (h := ?_)
    refine pT 14 (some 91) (zb 43 32767) (h := ?_)
    refine pT 16 (some 93) (zb 43 98303) (h := ?_)
    refine pT 17 (some 94) (zb 43 229375) (h := ?_)
    refine pT 18 (some 95) (zb 43 491519) (h := ?_)
    refine take_ (i := 15) (N := some 92) (v := ?_) (a' := ?_) (zb 43 524287) rfl rfl (by kernel_rfl) (fun _ _ _ h => h) (Or.inl ⟨by rfl, ?_⟩) hHeld ?_ ?_
    rotate_left
    ·rintro w' ⟨s0, s1, s2, s3, s4, s5, s6, s7⟩
     go_simp
     with_reducible rfl
    rotate_left
    ·simp only [Act.put, List.setIfInBounds_toArray, List.set_cons_zero, List.set_cons_succ, i64_w, i32_w]
     rfl
    refine take_ (i := 19) (N := some 96) (v := ?_) (a' := ?_) (zb 43 1048575) rfl rfl (by kernel_rfl) (fun _ _ _ h => h) (Or.inl ⟨by rfl, ?_⟩) hHeld ?_ ?_
    rotate_left
    ·rintro w' ⟨s0, s1, s2, s3, s4, s5, s6, s7⟩
     go_simp
     with_reducible rfl
    rotate_left
    ·simp only [Act.put, List.setIfInBounds_toArray, List.set_cons_zero, List.set_cons_succ, i64_w, i32_w]
     rfl
    refine pT 20 (some 97) (zb 43 2097151) (h := ?_)
    refine pT 21 (some 98) (zb 43 4194303) (h := ?_)
    refine pT 22 (some 99) (zb 43 8388607) (h := ?_)
    refine pT 23 (some 100) (zb 43 16777215) (h := ?_)
    refine pU 24 (some 101) (zb 43 33554431) (h := ?_)
    refine pU 25 (some 102) (zb 43 67108863) (h := ?_)
    refine pU 26 (some 103) (zb 43 134217727) (h := ?_)
    refine pU 27 (some 104) (zb 43 268435455) (h := ?_)
    refine pU 28 (some 105) (zb 43 536870911) (h := ?_)
    refine pU 29 (some 106) (zb 43 1073741823) (h := ?_)
    refine pU 30 (some 107) (zb 43 2147483647) (h := ?_)
    refine pU 31 (some 108) (zb 43 4294967295) (h := ?_)
    refine pU 32 (some 109) (zb 43 8589934591) (h := ?_)
    refine pU 33 (some 110) (zb 43 17179869183) (h := ?_)
    refine pU 34 (some 111) (zb 43 34359738367) (h := ?_)
    refine pU 35 (some 112) (zb 43 68719476735) (h := ?_)
    refine pU 36 (some 113) (zb 43 137438953471) (h := ?_)
    refine pU 37 (some 114) (zb 43 274877906943) (h := ?_)
    refine pU 38 (some 115) (zb 43 549755813887) (h := ?_)
    refine pU 39 (some 116) (zb 43 1099511627775) (h := ?_)
    refine pU 40 (some 117) (zb 43 2199023255551) (h := ?_)
    refine pT 41 (some 118) (zb 43 4398046511103) (h := ?_)
    refine pT 42 (some 8) (zb 43 8796093022207) (h := ?_)
    refine done_ (by kernel_rfl) ?_
    have HBO2 := Aside0.mk (HBO.out.below HB2.out)
    have BK2 := Aside0.mk (blk_below BK.out HB2.out)
    have HW2 := Aside0.mk (below_step HW.out HB2.out)
    have HKF := Aside0.mk hbe
    clear c0 c1 c2 c3 c4 c5 c6 k1 HXC HC3 HC4 HC5 HXG hbe hHeld
    have k0 := blk_cell BK2.out 0
    have k1 := blk_cell BK2.out 1
    simp only [List.getElem?_toArray, List.getElem?_cons_zero, List.getElem?_cons_succ] at k0 k1
    go_wp2_with ((go_at_call 31; ((refine (Begin_bad (V := V) HBO2.out.choose_spec.choose_spec.1 HRL.out.fit n HKF.out).mono ?_); rintro e w8 ⟨rfl, hd⟩; have hb := hd.below; replace HBO2 := Aside0.mk (HBO2.out.below hb); replace BK2 := Aside0.mk (blk_below BK2.out hb); replace HW2 := Aside0.mk (below_step HW2.out hb); clear hb hd)))
    go_ret
    exact ⟨_, _, by first | rfl | exact ret_b (by simp), HRL.out, HSM.out.up, HBO2.out, HW2.out⟩
  ·have t1 : decide (0 ≤ n) = false := decide_eq_false a1
   rw [t1, Bool.false_and] at hbe
   refine start_ (n := 43) (S := fun w' => w'.cell? ⟨gx, 0, none⟩ = some (.string X.nm) ∧ w'.cell? ⟨gx, 1, none⟩ = some (.int .i64 X.pa) ∧ w'.cell? ⟨gx, 2, none⟩ = some (.int .i64 X.rt) ∧ w'.cell? ⟨gx, 3, none⟩ = some (.slice Ar X.rg.length cr) ∧ w'.cell? ⟨gx, 4, none⟩ = some (.slice Ab X.bl.length cb) ∧ w'.cell? ⟨gx, 5, none⟩ = some (.slice Ag X.bg.length cg) ∧ w'.cell? ⟨gx, 6, none⟩ = some (.int .i64 X.at_) ∧ w'.cell? ⟨w.heap.size, 1, none⟩ = some (.int .i64 n)) (ds := []) #[false, false, false, false, false, false, false, false, false, false, false, false, false, false, false, false, false, false, false, false, false, false, false, false, false, false, false, false, false, false, false, false, false, false, false, false, false, false, false, false, false, false, false] (by kernel_rfl) rfl rfl ⟨c0, c1, c2, c3, c4, c5, c6, k1⟩ (fun hHeld => ?_)
   refine pT 0 (some 77) (zb 43 1) (h := ?_)
   refine pT 1 (some 78) (zb 43 3) (h := ?_)
   refine pT 3 (some 80) (zb 43 11) (h := ?_)
   refine pT 4 (some 81) (zb 43 27) (h := ?_)
   refine pT 5 (some 82) (zb 43 59) (h := ?_)
   refine take_ (i := 2) (N := some 79) (v := ?_) (a' := ?_) (zb 43 63) rfl rfl (by kernel_rfl) (fun _ _ _ h => h) (Or.inl ⟨by rfl, ?_⟩) hHeld ?_ ?_
   rotate_left
   ·rintro w' ⟨s0, s1, s2, s3, s4, s5, s6, s7⟩
    go_simp
    with_reducible rfl
   rotate_left
   ·simp only [Act.put, List.setIfInBounds_toArray, List.set_cons_zero, List.set_cons_succ, i64_w, i32_w]
    rfl
   refine take_ (i := 6) (N := some 83) (v := ?_) (a' := ?_) (zb 43 127) rfl rfl (by kernel_rfl) (fun _ _ _ h => h) (Or.inl ⟨by rfl, ?_⟩) hHeld ?_ ?_
   rotate_left
   ·rintro w' ⟨s0, s1, s2, s3, s4, s5, s6, s7⟩
    go_simp
    with_reducible rfl
   rotate_left
   ·simp only [Act.put, List.setIfInBounds_toArray, List.set_cons_zero, List.set_cons_succ, i64_w, i32_w]
    rfl
   refine one_ (i := 7) (N := some 84) (zb 43 255) rfl rfl (by kernel_rfl) (by decide) (fun K hK => ?_)
   refine goes_ Try.func27 (by kernel_rfl) rfl #[.agg #[.string X.nm, .int .i64 X.pa, .int .i64 X.rt, .slice Ar X.rg.length cr, .slice Ab X.bl.length cb, .slice Ag X.bg.length cg, .int .i64 X.at_], .int .i64 X.at_] (by rfl) rfl rfl (by simp only [List.map_toArray, List.map_cons, List.map_nil]; first | rfl | go_simp) ?_
   with_reducible refine (balustraderef24_Over.calls X.nm X.pa X.rt Ar cr X.rg Ab cb X.bl Ag cg X.bg X.at_ X.at_ true _ (by with_reducible first | exact HC3.out.1 | exact Kd.C_drew HC3.out.1) HC3.out.2 (by with_reducible first | exact HC4.out.1 | exact Kd.C_drew HC4.out.1) HC4.out.2 (by with_reducible first | exact HC5.out.1 | exact Kd.C_drew HC5.out.1) HC5.out.2 HOV.out).mono ?_
   rintro e w2 ⟨rfl, hb⟩
   refine ⟨_, rfl, ?_⟩
   replace hb := below_step (below_drew (Below.refl W1.heap.size W1)) hb
   have HB2 := Aside0.mk hb
   clear hb
   refine hK.out _ _ ⟨(blk_cell (blk_below HXC.out HB2.out) 0).trans rfl, (blk_cell (blk_below HXC.out HB2.out) 1).trans rfl, (blk_cell (blk_below HXC.out HB2.out) 2).trans rfl, (blk_cell (blk_below HXC.out HB2.out) 3).trans rfl, (blk_cell (blk_below HXC.out HB2.out) 4).trans rfl, (blk_cell (blk_below HXC.out HB2.out) 5).trans rfl, (blk_cell (blk_below HXC.out HB2.out) 6).trans rfl, (blk_cell (blk_below BK.out HB2.out) 1).trans rfl⟩ (fun hHeld => ?_)
   clear hK K
   refine norm_ (a' := ?_) ?_ ?_
   rotate_left
   ·show Act.put _ (some 84) _ = _
    simp only [Act.put, List.setIfInBounds_toArray, List.set_cons_zero, List.set_cons_succ, i64_w, i32_w]
    rfl
   refine pT 8 (some 85) (zb 43 511) (h := ?_)
   refine pT 9 (some 86) (zb 43 1023) (h := ?_)
   refine take_ (i := 10) (N := some 87) (v := ?_) (a' := ?_) (zb 43 2047) rfl rfl (by kernel_rfl) (fun _ _ _ h => h) (Or.inl ⟨by rfl, ?_⟩) hHeld ?_ ?_
   rotate_left
   ·rintro w' ⟨s0, s1, s2, s3, s4, s5, s6, s7⟩
    go_simp
    with_reducible rfl
   rotate_left
   ·simp only [Act.put, List.setIfInBounds_toArray, List.set_cons_zero, List.set_cons_succ, i64_w, i32_w]
    rfl
   refine pT 11 (some 88) (zb 43 4095) (h := ?_)
   refine pT 12 (some 89) (zb 43 8191) (h := ?_)
   refine pT 13 (some 90) (zb 43 16383) (h := ?_)
   refine pU 14 (some 91) (zb 43 32767) (h := ?_)
   refine pU 15 (some 92) (zb 43 65535) (h := ?_)
   refine pU 16 (some 93) (zb 43 131071) (h := ?_)
   refine pU 17 (some 94) (zb 43 262143) (h := ?_)
   refine pU 18 (some 95) (zb 43 524287) (h := ?_)
   refine pU 19 (some 96) (zb 43 1048575) (h := ?_)
   refine pU 20 (some 97) (zb 43 2097151) (h := ?_)
   refine pU 21 (some 98) (zb 43 4194303) (h := ?_)
   refine pT 22 (some 99) (zb 43 8388607) (h := ?_)
   refine pT 23 (some 100) (zb 43 16777215) (h := ?_)
   refine pU 24 (some 101) (zb 43 33554431) (h := ?_)
   refine pU 25 (some 102) (zb 43 67108863) (h := ?_)
   refine pU 26 (some 103) (zb 43 134217727) (h := ?_)
   refine pU 27 (some 104) (zb 43 268435455) (h := ?_)
   refine pU 28 (some 105) (zb 43 536870911) (h := ?_)
   refine pU 29 (some 106) (zb 43 1073741823) (h := ?_)
   refine pU 30 (some 107) (zb 43 2147483647) (h := ?_)
   refine pU 31 (some 108) (zb 43 4294967295) (h := ?_)
   refine pU 32 (some 109) (zb 43 8589934591) (h := ?_)
   refine pU 33 (some 110) (zb 43 17179869183) (h := ?_)
   refine pU 34 (some 111) (zb 43 34359738367) (h := ?_)
   refine pU 35 (some 112) (zb 43 68719476735) (h := ?_)
   refine pU 36 (some 113) (zb 43 137438953471) (h := ?_)
   refine pU 37 (some 114) (zb 43 274877906943) (h := ?_)
   refine pU 38 (some 115) (zb 43 549755813887) (h := ?_)
   refine pU 39 (some 116) (zb 43 1099511627775) (h := ?_)
   refine pU 40 (some 117) (zb 43 2199023255551) (h := ?_)
   refine pT 41 (some 118) (zb 43 4398046511103) (h := ?_)
   refine pT 42 (some 8) (zb 43 8796093022207) (h := ?_)
   refine done_ (by kernel_rfl) ?_
   have HBO2 := Aside0.mk (HBO.out.below HB2.out)
   have BK2 := Aside0.mk (blk_below BK.out HB2.out)
   have HW2 := Aside0.mk (below_step HW.out HB2.out)
   have HKF := Aside0.mk hbe
   clear c0 c1 c2 c3 c4 c5 c6 k1 HXC HC3 HC4 HC5 HXG hbe hHeld
   have k0 := blk_cell BK2.out 0
   have k1 := blk_cell BK2.out 1
   simp only [List.getElem?_toArray, List.getElem?_cons_zero, List.getElem?_cons_succ] at k0 k1
   go_wp2_with ((go_at_call 31; ((refine (Begin_bad (V := V) HBO2.out.choose_spec.choose_spec.1 HRL.out.fit n HKF.out).mono ?_); rintro e w8 ⟨rfl, hd⟩; have hb := hd.below; replace HBO2 := Aside0.mk (HBO2.out.below hb); replace BK2 := Aside0.mk (blk_below BK2.out hb); replace HW2 := Aside0.mk (below_step HW2.out hb); clear hb hd)))
   go_ret
   exact ⟨_, _, by first | rfl | exact ret_b (by simp), HRL.out, HSM.out.up, HBO2.out, HW2.out⟩
end Go.Proofs.Ytomopjomapkmjaa.B

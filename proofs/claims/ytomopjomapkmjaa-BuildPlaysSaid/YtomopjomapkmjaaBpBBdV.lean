/- A part of it. -/
import Derived.Test.YtomopjomapkmjaaBpZ
import Derived.Test.YtomopjomapkmjaaBpBBdT
import Derived.Test.YtomopjomapkmjaaBpB11
import Derived.Outline
set_option linter.unusedVariables false
set_option linter.unusedSimpArgs false
namespace Go.Proofs.Ytomopjomapkmjaa.B
open Go Go.RowKit Go.Proofs.YtomopjomapkmjaaW.PrintWords Go.Proofs.YtomopjomapkmjaaW.PrintLast Go.Proofs.YtomopjomapkmjaaW.PrintMore Go.Proofs.Ytomopjomapkmjaa.Pure
attribute [local go_sem] max2_int min2_int max_two min_two
set_option maxHeartbeats 16000000 in
set_option maxRecDepth 100000 in
theorem told_put {w0 w : World} {base g gx N : Nat} {V : BV} {X : XV} (hB : Both w0 base w g gx V X) (hR : Rel V X) (hS : Small N V) (hN : N < 500) (hW : Below base w0 w) (hb0 : base = w0.heap.size) (dd n : Int) (x : S29) (A8 : Option Addr) (c8 : Nat) (hx8 : x.f8.length ≤ 20) (hC : (Kd.int .i64).C w0 A8 x.f8.length x.f8) (hc8 : x.f8.length ≤ c8) (hd : dd ≠ 0 ∧ dd ≠ 1 ∧ dd ≠ 2) :
  Calls Try.prog 25 #[.pointer (some ⟨g, 0, none⟩), .pointer (some ⟨gx, 0, none⟩), .agg #[.int .i64 dd, .int .i64 n, .int .i64 x.f0, .int .i64 x.f1, .int .i64 x.f2, .int .i64 x.f3, .int .i64 x.f4, .int .i64 x.f5, .int .i64 x.f6, .int .i64 x.f7, .slice A8 x.f8.length c8]] w (ToldEnd w0 base g gx N) := by
 subst hb0
 have HBO := Aside0.mk (hB.below (below_alloc (Below.refl w.heap.size w) (.cells #[.int .i64 dd, .int .i64 n, .int .i64 x.f0, .int .i64 x.f1, .int .i64 x.f2, .int .i64 x.f3, .int .i64 x.f4, .int .i64 x.f5, .int .i64 x.f6, .int .i64 x.f7, .slice A8 x.f8.length c8] 54)))
 have BK := Aside0.mk (blk_new w (.cells #[.int .i64 dd, .int .i64 n, .int .i64 x.f0, .int .i64 x.f1, .int .i64 x.f2, .int .i64 x.f3, .int .i64 x.f4, .int .i64 x.f5, .int .i64 x.f6, .int .i64 x.f7, .slice A8 x.f8.length c8] 54))
 have HW := Aside0.mk (below_alloc hW (.cells #[.int .i64 dd, .int .i64 n, .int .i64 x.f0, .int .i64 x.f1, .int .i64 x.f2, .int .i64 x.f3, .int .i64 x.f4, .int .i64 x.f5, .int .i64 x.f6, .int .i64 x.f7, .slice A8 x.f8.length c8] 54))
 have HZ : Aside0 (w0.heap.size ≤ w.heap.size) := ⟨hW.size⟩
 have HRL := Aside0.mk hR
 have HSM := Aside0.mk hS
 have HNN := Aside0.mk hN
 have HC8 := Aside0.mk (And.intro hC (And.intro hc8 hx8))
 clear hB hR hS hN hW hC hc8 hx8
 have hsz : (w.alloc (.cells #[.int .i64 dd, .int .i64 n, .int .i64 x.f0, .int .i64 x.f1, .int .i64 x.f2, .int .i64 x.f3, .int .i64 x.f4, .int .i64 x.f5, .int .i64 x.f6, .int .i64 x.f7, .slice A8 x.f8.length c8] 54)).heap.size = w.heap.size + 1 := by simp
 have HZ1 := Aside0.mk hsz
 clear hsz
 have t0 : (dd == 0) = false := beq_eq_false_iff_ne.mpr hd.1
 have t1 : (dd == 1) = false := beq_eq_false_iff_ne.mpr hd.2.1
 have t2 : (dd == 2) = false := beq_eq_false_iff_ne.mpr hd.2.2
 have s0 : decide (dd = 0) = false := decide_eq_false hd.1
 have s1 : decide (dd = 1) = false := decide_eq_false hd.2.1
 have s2 : decide (dd = 2) = false := decide_eq_false hd.2.2
 clear hd
 have k0 := blk_cell BK.out 0
 have k1 := blk_cell BK.out 1
 have k2 := blk_cell BK.out 2
 have k3 := blk_cell BK.out 3
 have k4 := blk_cell BK.out 4
 have k5 := blk_cell BK.out 5
 have k6 := blk_cell BK.out 6
 have k7 := blk_cell BK.out 7
 have k8 := blk_cell BK.out 8
 have k9 := blk_cell BK.out 9
 have k10 := blk_cell BK.out 10
 simp only [List.getElem?_toArray, List.getElem?_cons_zero, List.getElem?_cons_succ] at k0 k1 k2 k3 k4 k5 k6 k7 k8 k9 k10
 go_enter Try.func25, Try.ntmps25
 go_upto_region 18 with (fail)
 clear t0 t1 t2 s0 s1 s2 k0 k1
 generalize w.alloc (.cells #[.int .i64 dd, .int .i64 n, .int .i64 x.f0, .int .i64 x.f1, .int .i64 x.f2, .int .i64 x.f3, .int .i64 x.f4, .int .i64 x.f5, .int .i64 x.f6, .int .i64 x.f7, .slice A8 x.f8.length c8] 54) = W1 at HBO BK HW HZ1 k2 k3 k4 k5 k6 k7 k8 k9 k10 ⊢
 have HCX := Aside0.mk (Kd.C_below HC8.out.1 HW.out)
 obtain ⟨okb, okx, hb_, hx_, d1, d2, d3, d4⟩ := HBO.out
 have hx2 := hx_
 obtain ⟨x1, x2, x3, f, vr, vb, vs, hxc, hxr, hxB, hxg⟩ := hx2
 obtain ⟨Ar, cr, rfl⟩ := Kd.R_slice hxr
 obtain ⟨Ab, cb, rfl⟩ := Kd.S_slice hxB
 obtain ⟨Ag, cg, rfl⟩ := Kd.R_slice hxg
 have HXC := Aside0.mk hxc
 have HC3 := Aside0.mk (And.intro (Kd.R_reads' hxr).2.2 (Kd.R_reads' hxr).2.1)
 have HC4 : Aside0 ((Kd.slice 29 k29).C _ Ab X.bl.length X.bl ∧ X.bl.length ≤ cb) := ⟨⟨kX_C (Kd.S_reads' hxB).2.2 HW.out, (Kd.S_reads' hxB).2.1⟩⟩
 have HC5 := Aside0.mk (And.intro (Kd.R_reads' hxg).2.2 (Kd.R_reads' hxg).2.1)
 have c0 := blk_cell HXC.out 0
 have c1 := blk_cell HXC.out 1
 have c2 := blk_cell HXC.out 2
 have c3 := blk_cell HXC.out 3
 have c4 := blk_cell HXC.out 4
 have c5 := blk_cell HXC.out 5
 have c6 := blk_cell HXC.out 6
 simp only [List.getElem?_toArray, List.getElem?_cons_zero, List.getElem?_cons_succ] at c0 c1 c2 c3 c4 c5 c6
 have hp0 : 0 ≤ X.at_ := by have := HRL.out.p0; rw [HRL.out.pl] at this; exact this
 have hp1 : X.at_ < (X.bl.length : Int) := by have := HRL.out.p1; rw [HRL.out.pl, HRL.out.bl] at this; exact this
 have hrl : (X.bl.getD X.at_.toNat []).length ≤ 500 := by have := (HSM.out.row X.at_.toNat).1; have := HNN.out; rw [← HRL.out.bl]; omega
 have h20 := HC8.out.2.2
 have HPL := Aside0.mk (And.intro hp0 (And.intro hp1 hrl))
 obtain ⟨kP, hP⟩ := (put_ev X.nm X.pa X.rt X.rg X.bl X.bg X.at_ x (by omega) hp0 hp1 (by omega)).rounds
 have hbe : putB V x = putX X x := HRL.out.mayPut x
 obtain ⟨m, em⟩ : ∃ m, putX X x = m := ⟨_, rfl⟩
 rw [em] at hbe
 have HPV := Aside0.mk (hP.trans (congrArg some em))
 have EM := Aside0.mk em
 have HBE := Aside0.mk hbe
 have HLL : Aside0 (V.rg.length < 1000000 ∧ V.bl.length < 1000000 ∧ (V.bl.getD V.at_.toNat []).length < 1000000) := ⟨⟨by have := HSM.out.1; have := HNN.out; omega, by have := HSM.out.2.1; have := HNN.out; omega, by have := (HSM.out.row V.at_.toNat).1; have := HNN.out; omega⟩⟩
 clear hxr hxc hxB hxg hx_ hb_ d1 d2 d3 d4 x1 x2 x3 hp0 hp1 hrl h20 hP em hbe
 refine start_ (n := 7) (S := fun w' => w'.cell? ⟨gx, 0, none⟩ = some (.string X.nm) ∧ w'.cell? ⟨gx, 1, none⟩ = some (.int .i64 X.pa) ∧ w'.cell? ⟨gx, 2, none⟩ = some (.int .i64 X.rt) ∧ w'.cell? ⟨gx, 3, none⟩ = some (.slice Ar X.rg.length cr) ∧ w'.cell? ⟨gx, 4, none⟩ = some (.slice Ab X.bl.length cb) ∧ w'.cell? ⟨gx, 5, none⟩ = some (.slice Ag X.bg.length cg) ∧ w'.cell? ⟨gx, 6, none⟩ = some (.int .i64 X.at_) ∧ w'.cell? ⟨w.heap.size, 2, none⟩ = some (.int .i64 x.f0) ∧ w'.cell? ⟨w.heap.size, 3, none⟩ = some (.int .i64 x.f1) ∧ w'.cell? ⟨w.heap.size, 4, none⟩ = some (.int .i64 x.f2) ∧ w'.cell? ⟨w.heap.size, 5, none⟩ = some (.int .i64 x.f3) ∧ w'.cell? ⟨w.heap.size, 6, none⟩ = some (.int .i64 x.f4) ∧ w'.cell? ⟨w.heap.size, 7, none⟩ = some (.int .i64 x.f5) ∧ w'.cell? ⟨w.heap.size, 8, none⟩ = some (.int .i64 x.f6) ∧ w'.cell? ⟨w.heap.size, 9, none⟩ = some (.int .i64 x.f7) ∧ w'.cell? ⟨w.heap.size, 10, none⟩ = some (.slice A8 x.f8.length c8)) (ds := []) #[false, false, false, false, false, false, false] (by kernel_rfl) rfl rfl ⟨c0, c1, c2, c3, c4, c5, c6, k2, k3, k4, k5, k6, k7, k8, k9, k10⟩ (fun hHeld => ?_)
 refine pT 0 (some 138) #[true, false, false, false, false, false, false] (h := ?_)
 refine pT 1 (some 139) #[true, true, false, false, false, false, false] (h := ?_)
 refine pT 3 (some 141) #[true, true, false, true, false, false, false] (h := ?_)
 refine take_ (i := 2) (N := some 140) (v := ?_) (a' := ?_) #[true, true, true, true, false, false, false] rfl rfl (by kernel_rfl) (fun _ _ _ h => h) (Or.inl ⟨by rfl, ?_⟩) hHeld ?_ ?_
 rotate_left
 ·rintro w' ⟨s0, s1, s2, s3, s4, s5, s6, s7, s8, s9, s10, s11, s12, s13, s14, s15⟩
  go_simp
  with_reducible rfl
 rotate_left
 ·simp only [Act.put, List.setIfInBounds_toArray, List.set_cons_zero, List.set_cons_succ, i64_w, i32_w]
  rfl
 refine take_ (i := 4) (N := some 142) (v := ?_) (a' := ?_) #[true, true, true, true, true, false, false] rfl rfl (by kernel_rfl) (fun _ _ _ h => h) (Or.inl ⟨by rfl, ?_⟩) hHeld ?_ ?_
 rotate_left
 ·rintro w' ⟨s0, s1, s2, s3, s4, s5, s6, s7, s8, s9, s10, s11, s12, s13, s14, s15⟩
  go_simp
  with_reducible rfl
 rotate_left
 ·simp only [Act.put, List.setIfInBounds_toArray, List.set_cons_zero, List.set_cons_succ, i64_w, i32_w]
  rfl
 refine one_ (i := 5) (N := some 143) #[true, true, true, true, true, true, false] rfl rfl (by kernel_rfl) (by decide) (fun K hK => ?_)
 refine goes_ Try.func55 (by kernel_rfl) rfl #[.agg #[.string X.nm, .int .i64 X.pa, .int .i64 X.rt, .slice Ar X.rg.length cr, .slice Ab X.bl.length cb, .slice Ag X.bg.length cg, .int .i64 X.at_], .agg #[.int .i64 x.f0, .int .i64 x.f1, .int .i64 x.f2, .int .i64 x.f3, .int .i64 x.f4, .int .i64 x.f5, .int .i64 x.f6, .int .i64 x.f7, .slice A8 x.f8.length c8]] (by rfl) rfl rfl (by simp only [List.map_toArray, List.map_cons, List.map_nil]; first | rfl | go_simp) ?_
 with_reducible refine (balustraderef24_Put.calls kP X.nm X.pa X.rt Ar cr X.rg Ab cb X.bl Ag cg X.bg X.at_ x.f0 x.f1 x.f2 x.f3 x.f4 x.f5 x.f6 x.f7 A8 c8 x.f8 m _ (by with_reducible first | exact HC3.out.1 | exact Kd.C_drew HC3.out.1) HC3.out.2 (by with_reducible first | exact HC4.out.1 | exact Kd.C_drew HC4.out.1) HC4.out.2 (by with_reducible first | exact HC5.out.1 | exact Kd.C_drew HC5.out.1) HC5.out.2 (by with_reducible first | exact HCX.out | exact Kd.C_drew HCX.out) HC8.out.2.1 HPV.out).mono ?_
 rintro e w2 ⟨rfl, hb⟩
 refine ⟨_, rfl, ?_⟩
 replace hb := below_step (below_drew (Below.refl W1.heap.size W1)) hb
 have HB2 := Aside0.mk hb
 clear hb
 refine hK.out _ _ ⟨(blk_cell (blk_below HXC.out HB2.out) 0).trans rfl, (blk_cell (blk_below HXC.out HB2.out) 1).trans rfl, (blk_cell (blk_below HXC.out HB2.out) 2).trans rfl, (blk_cell (blk_below HXC.out HB2.out) 3).trans rfl, (blk_cell (blk_below HXC.out HB2.out) 4).trans rfl, (blk_cell (blk_below HXC.out HB2.out) 5).trans rfl, (blk_cell (blk_below HXC.out HB2.out) 6).trans rfl, (blk_cell (blk_below BK.out HB2.out) 2).trans rfl, (blk_cell (blk_below BK.out HB2.out) 3).trans rfl, (blk_cell (blk_below BK.out HB2.out) 4).trans rfl, (blk_cell (blk_below BK.out HB2.out) 5).trans rfl, (blk_cell (blk_below BK.out HB2.out) 6).trans rfl, (blk_cell (blk_below BK.out HB2.out) 7).trans rfl, (blk_cell (blk_below BK.out HB2.out) 8).trans rfl, (blk_cell (blk_below BK.out HB2.out) 9).trans rfl, (blk_cell (blk_below BK.out HB2.out) 10).trans rfl⟩ (fun hHeld => ?_)
 clear hK K
 refine norm_ (a' := ?_) ?_ ?_
 rotate_left
 ·show Act.put _ (some 143) _ = _
  simp only [Act.put, List.setIfInBounds_toArray, List.set_cons_zero, List.set_cons_succ, i64_w, i32_w]
  rfl
 refine pT 6 (some 9) #[true, true, true, true, true, true, true] (h := ?_)
 refine done_ (by kernel_rfl) ?_
 have HBO2 := Aside0.mk (HBO.out.below HB2.out)
 have BK2 := Aside0.mk (blk_below BK.out HB2.out)
 have HW2 := Aside0.mk (below_step HW.out HB2.out)
 have HCX2 := Aside0.mk (Kd.C_below HCX.out HB2.out)
 clear c0 c1 c2 c3 c4 c5 c6 k2 k3 k4 k5 k6 k7 k8 k9 k10 HXC HC3 HC4 HC5 hHeld HBO BK HW HCX HPV HB2
 have k0 := blk_cell BK2.out 0
 have k1 := blk_cell BK2.out 1
 have k2 := blk_cell BK2.out 2
 have k3 := blk_cell BK2.out 3
 have k4 := blk_cell BK2.out 4
 have k5 := blk_cell BK2.out 5
 have k6 := blk_cell BK2.out 6
 have k7 := blk_cell BK2.out 7
 have k8 := blk_cell BK2.out 8
 have k9 := blk_cell BK2.out 9
 have k10 := blk_cell BK2.out 10
 simp only [List.getElem?_toArray, List.getElem?_cons_zero, List.getElem?_cons_succ] at k0 k1 k2 k3 k4 k5 k6 k7 k8 k9 k10
 cases m with
 | false =>
  go_wp2_with ((go_at_call 12; ((refine (Put_bad (V := V) HBO2.out.choose_spec.choose_spec.1 HRL.out.fit ⟨HLL.out.1, HLL.out.2.1⟩ x A8 c8 (by have := HC8.out.2.2; omega) HCX2.out HC8.out.2.1 HBE.out).mono ?_); rintro e w8 ⟨rfl, hb⟩; replace HBO2 := Aside0.mk (HBO2.out.below hb); replace BK2 := Aside0.mk (blk_below BK2.out hb); replace HW2 := Aside0.mk (below_step HW2.out hb); clear hb)))
  go_ret
  exact ⟨_, _, by first | rfl | exact ret_b (by simp), HRL.out, HSM.out.up, HBO2.out, HW2.out⟩
 | true =>
  go_upto_region 20 with (fail)
  obtain ⟨okb, okx, hb_, hx_, d1, d2, d3, d4⟩ := HBO2.out
  have hx2 := hx_
  obtain ⟨x1, x2, x3, f, vr, vb, vs, hxc, hxr, hxB, hxg⟩ := hx2
  obtain ⟨j, hj⟩ : ∃ j : Nat, X.at_ = (j : Int) := ⟨X.at_.toNat, by have := HPL.out.1; omega⟩
  obtain ⟨q, cb, rfl, hq, hq2, cellsq, hq3⟩ := Kd.S_form hxB (by have := HPL.out.1; have := HPL.out.2.1; omega)
  have hjl : j < X.bl.length := by have := HPL.out.2.1; omega
  obtain ⟨oki, Ai, ci, hci, hfi, hoki, hRI, hput⟩ := xt_lend x3 hxB j hjl
  have HXV : Aside0 ((⟨X.nm, X.pa, X.rt, X.rg, X.bl.set X.at_.toNat (X.bl.getD X.at_.toNat [] ++ [x]), X.bg, X.at_⟩ : XV) = ⟨X.nm, X.pa, X.rt, X.rg, X.bl.set j (X.bl.getD j [] ++ [x]), X.bg, (j : Int)⟩) := ⟨by rw [hj, Int.toNat_natCast]⟩
  have HROW : Aside0 ((X.bl.getD j []).length ≤ 500) := ⟨by have := HPL.out.2.2; rw [hj, Int.toNat_natCast] at this; exact this⟩
  rw [hj] at hxc
  have HPT := Aside0.mk (fun (W w1 : World) (v1 : Value) (b1 : List (List S29)) => xt_put (W := W) (w1 := w1) (v1 := v1) (b1 := b1) (j := j) x1 x2 x3 hxc hxr hxB hxg hoki hRI.1)
  have HPU := Aside0.mk (fun (W w1 : World) (v1 : Value) => @hput W w1 x v1)
  have HIN : Aside0 (∀ k, (Value.slice Ai (X.bl.getD j []).length ci).ownBlock = some k → k ≠ gx ∧ k ≠ q ∧ k ≠ w.heap.size ∧ k < w2.heap.size) := ⟨fun k e => ⟨fun e2 => x2 (e2 ▸ (hoki k (hRI.1 k e)).1.1), (hoki k (hRI.1 k e)).2, fun e2 => by subst e2; exact absurd (blk_ne (Kd.R_typed hRI _ e).choose_spec BK2.out (by decide)) (fun h => h rfl), Kd.R_lt hRI k e⟩⟩
  have HQG : Aside0 (q ≠ gx ∧ q ≠ w.heap.size ∧ w0.heap.size ≤ q) := ⟨⟨fun e => x2 (e ▸ ((Kd.S_R hxB).1 q rfl).1), fun e => by subst e; exact absurd (blk_ne hq3 BK2.out (by decide)) (fun h => h rfl), hq⟩⟩
  have HRI := Aside0.mk hRI
  have HCI := Aside0.mk hci
  have HXC := Aside0.mk hxc
  have HQ3 := Aside0.mk hq3
  have HBX := Aside0.mk (And.intro hb_ (And.intro hx_ (And.intro d1 (And.intro d2 (And.intro d3 d4)))))
  clear x1 x2 x3 hxc hxr hxB hxg hx_ hb_ d1 d2 d3 d4 hq hq2 hq3 hoki hRI hput hfi hci hj
  obtain ⟨row, erow⟩ : ∃ r, X.bl.getD j [] = r := ⟨_, rfl⟩
  rw [erow] at HXV HROW HPT HPU HIN HRI HCI
  obtain ⟨row2, er2⟩ : ∃ r, row ++ [x] = r := ⟨_, rfl⟩
  rw [er2] at HXV HPU
  have ER2 := Aside0.mk er2
  clear erow er2
  have p1 : (0 : Int) ≤ (j : Int) := by omega
  have p2 : (j : Int) < (X.bl.length : Int) := by omega
  have cci := HCI.out
  have c0 := blk_cell HXC.out 0
  have c1 := blk_cell HXC.out 1
  have c2 := blk_cell HXC.out 2
  have c3 := blk_cell HXC.out 3
  have c4 := blk_cell HXC.out 4
  have c5 := blk_cell HXC.out 5
  have c6 := blk_cell HXC.out 6
  simp only [List.getElem?_toArray, List.getElem?_cons_zero, List.getElem?_cons_succ] at c0 c1 c2 c3 c4 c5 c6
  refine start_ (n := 26) (S := fun w' => w'.cell? ⟨gx, 4, none⟩ = some (.slice (some ⟨q, 0, none⟩) X.bl.length cb) ∧ w'.cell? ⟨gx, 6, none⟩ = some (.int .i64 (j : Int)) ∧ w'.cell? ⟨q, j, none⟩ = some (.slice Ai row.length ci) ∧ w'.cell? ⟨w.heap.size, 2, none⟩ = some (.int .i64 x.f0) ∧ w'.cell? ⟨w.heap.size, 3, none⟩ = some (.int .i64 x.f1) ∧ w'.cell? ⟨w.heap.size, 4, none⟩ = some (.int .i64 x.f2) ∧ w'.cell? ⟨w.heap.size, 5, none⟩ = some (.int .i64 x.f3) ∧ w'.cell? ⟨w.heap.size, 6, none⟩ = some (.int .i64 x.f4) ∧ w'.cell? ⟨w.heap.size, 7, none⟩ = some (.int .i64 x.f5) ∧ w'.cell? ⟨w.heap.size, 8, none⟩ = some (.int .i64 x.f6) ∧ w'.cell? ⟨w.heap.size, 9, none⟩ = some (.int .i64 x.f7) ∧ w'.cell? ⟨w.heap.size, 10, none⟩ = some (.slice A8 x.f8.length c8)) (ds := [25]) #[false, false, false, false, false, false, false, false, false, false, false, false, false, false, false, false, false, false, false, false, false, false, false, false, false, false] (by kernel_rfl) rfl rfl ⟨c4, c6, cci, k2, k3, k4, k5, k6, k7, k8, k9, k10⟩ (fun hHeld => ?_)
  refine pT 0 (some 145) (zb 26 1) (h := ?_)
  refine pT 1 (some 146) (zb 26 3) (h := ?_)
  refine pT 2 (some 147) (zb 26 7) (h := ?_)
  refine pT 3 (some 148) (zb 26 15) (h := ?_)
  refine pT 5 (some 150) (zb 26 47) (h := ?_)
  refine pT 6 (some 151) (zb 26 111) (h := ?_)
  refine pT 7 (some 152) (zb 26 239) (h := ?_)
  refine pT 9 (some 154) (zb 26 751) (h := ?_)
  refine pT 10 (some 155) (zb 26 1775) (h := ?_)
  refine pT 11 (some 156) (zb 26 3823) (h := ?_)
  refine pT 12 (some 157) (zb 26 7919) (h := ?_)
  refine pT 14 (some 159) (zb 26 24303) (h := ?_)
  refine pT 15 (some 160) (zb 26 57071) (h := ?_)
  refine pT 16 (some 161) (zb 26 122607) (h := ?_)
  refine pT 20 (some 165) (zb 26 1171183) (h := ?_)
  refine take_ (i := 4) (N := some 149) (v := ?_) (a' := ?_) (zb 26 1171199) rfl rfl (by kernel_rfl) (fun _ _ _ h => h) (Or.inl ⟨by rfl, ?_⟩) hHeld ?_ ?_
  rotate_left
  ·rintro w' ⟨s0, s1, s2, s3, s4, s5, s6, s7, s8, s9, s10, s11⟩
   go_simp
   with_reducible rfl
  rotate_left
  ·simp only [Act.put, List.setIfInBounds_toArray, List.set_cons_zero, List.set_cons_succ, i64_w, i32_w]
   rfl
  refine take_ (i := 8) (N := some 153) (v := ?_) (a' := ?_) (zb 26 1171455) rfl rfl (by kernel_rfl) (fun _ _ _ h => h) (Or.inl ⟨by rfl, ?_⟩) hHeld ?_ ?_
  rotate_left
  ·rintro w' ⟨s0, s1, s2, s3, s4, s5, s6, s7, s8, s9, s10, s11⟩
   go_simp
   with_reducible rfl
  rotate_left
  ·simp only [Act.put, List.setIfInBounds_toArray, List.set_cons_zero, List.set_cons_succ, i64_w, i32_w]
   rfl
  refine take_ (i := 13) (N := some 158) (v := ?_) (a' := ?_) (zb 26 1179647) rfl rfl (by kernel_rfl) (fun _ _ _ h => h) (Or.inl ⟨by rfl, ?_⟩) hHeld ?_ ?_
  rotate_left
  ·rintro w' ⟨s0, s1, s2, s3, s4, s5, s6, s7, s8, s9, s10, s11⟩
   go_simp
   with_reducible rfl
  rotate_left
  ·simp only [Act.put, List.setIfInBounds_toArray, List.set_cons_zero, List.set_cons_succ, i64_w, i32_w]
   rfl
  refine take_ (i := 17) (N := some 162) (v := ?_) (a' := ?_) (zb 26 1310719) rfl rfl (by kernel_rfl) (fun _ _ _ h => h) (Or.inl ⟨by rfl, ?_⟩) hHeld ?_ ?_
  rotate_left
  ·rintro w' ⟨s0, s1, s2, s3, s4, s5, s6, s7, s8, s9, s10, s11⟩
   go_simp
   with_reducible rfl
  rotate_left
  ·simp only [Act.put, List.setIfInBounds_toArray, List.set_cons_zero, List.set_cons_succ, i64_w, i32_w]
   rfl
  refine pT 18 (some 163) (zb 26 1572863) (h := ?_)
  refine take_ (i := 19) (N := some 164) (v := ?_) (a' := ?_) (zb 26 2097151) rfl rfl (by kernel_rfl) (fun _ _ _ h => h) (Or.inl ⟨by rfl, ?_⟩) hHeld ?_ ?_
  rotate_left
  ·rintro w' ⟨s0, s1, s2, s3, s4, s5, s6, s7, s8, s9, s10, s11⟩
   go_simp
   with_reducible rfl
  rotate_left
  ·simp only [Act.put, List.setIfInBounds_toArray, List.set_cons_zero, List.set_cons_succ, i64_w, i32_w]
   rfl
  refine take_ (i := 21) (N := some 166) (v := ?_) (a' := ?_) (zb 26 4194303) rfl rfl (by kernel_rfl) (fun _ _ _ h => h) (Or.inl ⟨by rfl, ?_⟩) hHeld ?_ ?_
  rotate_left
  ·rintro w' ⟨s0, s1, s2, s3, s4, s5, s6, s7, s8, s9, s10, s11⟩
   go_simp
   with_reducible rfl
  rotate_left
  ·simp only [Act.put, List.setIfInBounds_toArray, List.set_cons_zero, List.set_cons_succ, i64_w, i32_w]
   rfl
  refine one_ (i := 22) (N := some 167) (zb 26 8388607) rfl rfl (by kernel_rfl) (by decide) (fun K hK => ?_)
  refine value_ (w1 := ?_) (v := ?_) (by rfl) rfl ?_ ?_
  rotate_left 2
  ·go_simp
   constructor
   ·rfl
   ·rfl
  refine hK.out _ _ ⟨(blk_cell (blk_alloc HXC.out _) 4).trans rfl, (blk_cell (blk_alloc HXC.out _) 6).trans rfl, ((below_alloc (Below.refl _ _) _).cell (block_lt_of_cell HCI.out)).trans HCI.out, (blk_cell (blk_alloc BK2.out _) 2).trans rfl, (blk_cell (blk_alloc BK2.out _) 3).trans rfl, (blk_cell (blk_alloc BK2.out _) 4).trans rfl, (blk_cell (blk_alloc BK2.out _) 5).trans rfl, (blk_cell (blk_alloc BK2.out _) 6).trans rfl, (blk_cell (blk_alloc BK2.out _) 7).trans rfl, (blk_cell (blk_alloc BK2.out _) 8).trans rfl, (blk_cell (blk_alloc BK2.out _) 9).trans rfl, (blk_cell (blk_alloc BK2.out _) 10).trans rfl⟩ (fun hHeld => ?_)
  clear hK K
  refine norm_ (a' := ?_) ?_ ?_
  rotate_left
  ·show Act.put _ (some 167) _ = _
   simp only [Act.put, List.setIfInBounds_toArray, List.set_cons_zero, List.set_cons_succ, i64_w, i32_w]
   rfl
  refine one_ (i := 23) (N := some 168) (zb 26 16777215) rfl rfl (by kernel_rfl) (by decide) (fun K hK => ?_)
  refine R_append_at (Kd.fixed k29 w0) (w0 := w0) w0.heap.size (by rfl) (.tmp 164) (.tmp 167) 35 29 (.agg #[.int .i64 0, .int .i64 0, .int .i64 0, .int .i64 0, .int .i64 0, .int .i64 0, .int .i64 0, .int .i64 0, .slice none 0 0]) 88 (by rfl) Try.underlying35 info29 rfl (by show 0 < 9; decide) (by omega) (.slice Ai row.length ci) row x [.int .i64 x.f0, .int .i64 x.f1, .int .i64 x.f2, .int .i64 x.f3, .int .i64 x.f4, .int .i64 x.f5, .int .i64 x.f6, .int .i64 x.f7, .slice A8 x.f8.length c8] (fun k => oki k ∨ w2.heap.size ≤ k) (fun _ => False) (by rfl) _ (by rfl) (by repeat (first | (with_reducible exact blk_new _ _) | (with_reducible refine blk_drew ?_))) (k29_mk w0 x HC8.out.2.1 HC8.out.1) (fun _ hk => hk.elim) (fun k hk => .inr (by first | exact hk | (simp at hk; omega))) (by exact Kd.R_alloc (Kd.R_mono HRI.out (fun _ hk => .inl hk)) _) (by repeat (first | (with_reducible exact HW2.out) | (with_reducible refine below_alloc ?_ _) | (with_reducible refine below_drew ?_))) (by have := HW2.out.size; first | exact this | (simp; omega)) (by have := HROW.out; omega) ?_
  intro v1 w5 ho hb hg hat
  rw [ER2.out] at ho
  obtain ⟨A1, c1_, rfl⟩ := Kd.R_slice ho
  have HGR : Aside0 (w2.grownBy w5 (Value.slice Ai row.length ci).ownBlock) := ⟨(grown_of_below (by repeat (first | (with_reducible exact Below.refl _ _) | (with_reducible refine below_alloc ?_ _) | (with_reducible refine below_drew ?_))) _).trans hg⟩
  have HC5 : Aside0 (w5.heap[gx]? = some (.cells #[.string X.nm, .int .i64 X.pa, .int .i64 X.rt, vr, .slice (some ⟨q, 0, none⟩) X.bl.length cb, vs, .int .i64 (j : Int)] 52 (0, 0))) := ⟨blk_grown (by exact blk_alloc HXC.out _) hg (fun e => (HIN.out _ e.symm).1 rfl)⟩
  have HQ5 : Aside0 (w5.heap[q]? = some (.cells cellsq 35 (0, 0))) := ⟨blk_grown (by exact blk_alloc HQ3.out _) hg (fun e => (HIN.out _ e.symm).2.1 rfl)⟩
  have HCI5 : Aside0 (w5.cell? ⟨q, j, none⟩ = some (.slice Ai row.length ci)) := ⟨hg.cell (by exact ((below_alloc (Below.refl _ _) _).cell (block_lt_of_cell HCI.out)).trans HCI.out) (fun e => (HIN.out _ e.symm).2.1 rfl)⟩
  have BK5 : Aside0 (w5.heap[w.heap.size]? = some (.cells #[.int .i64 dd, .int .i64 n, .int .i64 x.f0, .int .i64 x.f1, .int .i64 x.f2, .int .i64 x.f3, .int .i64 x.f4, .int .i64 x.f5, .int .i64 x.f6, .int .i64 x.f7, .slice A8 x.f8.length c8] 54 (0, 0))) := ⟨blk_grown (by exact blk_alloc BK2.out _) hg (fun e => (HIN.out _ e.symm).2.2.1 rfl)⟩
  have HO5 := Aside0.mk ho
  have HB5 := Aside0.mk hb
  have z5 := blk_frozen HQ5.out j
  have cc5 := HCI5.out
  clear ho hb hg hat
  refine hK.out _ _ ⟨(blk_cell HC5.out 4).trans rfl, (blk_cell HC5.out 6).trans rfl, HCI5.out, (blk_cell BK5.out 2).trans rfl, (blk_cell BK5.out 3).trans rfl, (blk_cell BK5.out 4).trans rfl, (blk_cell BK5.out 5).trans rfl, (blk_cell BK5.out 6).trans rfl, (blk_cell BK5.out 7).trans rfl, (blk_cell BK5.out 8).trans rfl, (blk_cell BK5.out 9).trans rfl, (blk_cell BK5.out 10).trans rfl⟩ (fun hHeld => ?_)
  clear hK K
  refine norm_ (a' := ?_) ?_ ?_
  rotate_left
  ·show Act.put _ (some 168) _ = _
   simp only [Act.put, List.setIfInBounds_toArray, List.set_cons_zero, List.set_cons_succ, i64_w, i32_w]
   rfl
  refine pT 24 (some 169) (zb 26 33554431) (h := ?_)
  refine last_ (i := 25) (N := none) (zb 26 67108863) rfl rfl (by kernel_rfl) (by decide) (fun K hK => ?_)
  refine skip_ (w1 := ?_) (by rfl) rfl ?_ ?_
  rotate_left
  ·go_simp
   rfl
  refine hK.out _ _ ?_
  clear hK K
  refine done_ (by kernel_rfl) ?_
  have HT1 := Aside0.mk (HPT.out w2 w5 (.slice A1 row2.length c1_) (X.bl.set j row2) (Below.refl _ _) HGR.out HGR.out.size (HPU.out w2 w5 (.slice A1 row2.length c1_) (Below.refl _ _) HGR.out HO5.out))
  have BK6 : Aside0 ((w5.setCell ⟨q, j, none⟩ (.slice A1 row2.length c1_)).heap[w.heap.size]? = some (.cells #[.int .i64 dd, .int .i64 n, .int .i64 x.f0, .int .i64 x.f1, .int .i64 x.f2, .int .i64 x.f3, .int .i64 x.f4, .int .i64 x.f5, .int .i64 x.f6, .int .i64 x.f7, .slice A8 x.f8.length c8] 54 (0, 0))) := ⟨blk_far BK5.out (p := ⟨q, j, none⟩) (fun e => HQG.out.2.1 e.symm) _⟩
  have HW6 : Aside0 (Below w0.heap.size w0 (w5.setCell ⟨q, j, none⟩ (.slice A1 row2.length c1_))) := ⟨HB5.out.setCell (by exact HQG.out.2.2) _⟩
  have HBO6 : Aside0 (Both w0 w0.heap.size (w5.setCell ⟨q, j, none⟩ (.slice A1 row2.length c1_)) g gx V ⟨X.nm, X.pa, X.rt, X.rg, X.bl.set j row2, X.bg, (j : Int)⟩) := ⟨both_x HBX.out.1 HBX.out.2.1 HBX.out.2.2.1 HBX.out.2.2.2.1 HBX.out.2.2.2.2.1 HBX.out.2.2.2.2.2 HT1.out⟩
  generalize w5.setCell ⟨q, j, none⟩ (.slice A1 row2.length c1_) = W6 at BK6 HW6 HBO6 ⊢
  clear HT1 HO5 HB5 HGR BK5 HCI5 HQ5 HC5 z5 cc5 c0 c1 c2 c3 c4 c5 c6 cci hHeld k0 k1 k2 k3 k4 k5 k6 k7 k8 k9 k10 HBX HPT HPU HXC HBO2 BK2 HW2 HIN HQG HQ3 HRI HCI HCX2
  have HCX6 := Aside0.mk (Kd.C_below HC8.out.1 HW6.out)
  obtain ⟨okb, okx, b1, b2, b3, b4, b5, b6⟩ := HBO6.out
  have HBB := Aside0.mk (And.intro b1 (And.intro b2 (And.intro b3 (And.intro b4 (And.intro b5 b6)))))
  clear b1 b2 b3 b4 b5 b6
  have k0 := blk_cell BK6.out 0
  have k1 := blk_cell BK6.out 1
  have k2 := blk_cell BK6.out 2
  have k3 := blk_cell BK6.out 3
  have k4 := blk_cell BK6.out 4
  have k5 := blk_cell BK6.out 5
  have k6 := blk_cell BK6.out 6
  have k7 := blk_cell BK6.out 7
  have k8 := blk_cell BK6.out 8
  have k9 := blk_cell BK6.out 9
  have k10 := blk_cell BK6.out 10
  simp only [List.getElem?_toArray, List.getElem?_cons_zero, List.getElem?_cons_succ] at k0 k1 k2 k3 k4 k5 k6 k7 k8 k9 k10
  go_wp2_with ((go_at_call 12; ((refine (Put_at (V := V) HBB.out.1 HRL.out.fit ⟨HLL.out.1, HLL.out.2.1⟩ x A8 c8 (by have := HC8.out.2.2; omega) HCX6.out HC8.out.2.1 HW6.out HW6.out.size HLL.out.2.2 HBE.out (endsB x.f0) (endsP x.f0)).mono ?_); rintro e w8 ⟨rfl, hb, ht⟩; have HB8 := Aside0.mk hb; have HBO8 := Aside0.mk (both_b HBB.out.1 HBB.out.2.1 HBB.out.2.2.1 HBB.out.2.2.2.1 HBB.out.2.2.2.2.1 HBB.out.2.2.2.2.2 ht); clear hb ht)))
  go_ret
  exact ⟨_, _, by first | rfl | exact ret_b (by simp), HRL.out.put x EM.out, HSM.out.put x HC8.out.2.2 _, by rw [HXV.out]; exact HBO8.out, HB8.out⟩
end Go.Proofs.Ytomopjomapkmjaa.B
